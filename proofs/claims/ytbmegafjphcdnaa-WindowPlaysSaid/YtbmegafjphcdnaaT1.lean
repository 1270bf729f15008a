/- The window of the code: its cells, and what a call of its step comes to: for every window of 64 places and numbers of 64 bits. -/
import Derived.Test.YtbmegafjphcdnaaRows
import Derived.Test.YtbmegafjphcdnaaWin
import Derived.Test.YtbmegafjphcdnaaFacts
namespace Go.Proofs.Ytbmegafjphcdnaa
open Go.RowKit
set_option maxRecDepth 20000

def winA (b t : Int) (c : List Bool) : Array Value := #[.bool true, .int .i64 b, .int .i64 t] ++ (c.map Value.bool).toArray

section
variable (b t : Int) (c : List Bool)
theorem winA_size (h : c.length = 64) : (winA b t c).size = 67 := by simp [winA, h]
theorem winA_0 : (winA b t c)[0]? = some (.bool true) := by simp [winA]
theorem winA_1 : (winA b t c)[1]? = some (.int .i64 b) := by simp [winA]
theorem winA_2 : (winA b t c)[2]? = some (.int .i64 t) := by simp [winA]
theorem winA_3 (j : Nat) (h : j < c.length) : (winA b t c)[3 + j]? = some (.bool (c.getD j false)) := by
  unfold winA
  rw [Array.getElem?_append_right (by simp)]
  simp [h]
theorem winA_all : (winA b t c).all (·.oneCell') = true := by
  unfold winA; simp; exact ⟨rfl, rfl, rfl, fun _ => rfl, fun _ => rfl⟩
theorem winA_top (n : Int) : (winA b t c).setIfInBounds 2 (.int .i64 n) = winA b n c := by
  apply Array.ext'; simp [winA]
theorem winA_came (j : Nat) (x : Bool) : (winA b t c).setIfInBounds (3 + j) (.bool x) = winA b t (c.set j x) := by
  apply Array.ext'
  simp [winA, List.map_set, Nat.add_comm 3 j]
theorem winA_3' (n : Int) (h : c.length = 64) : (winA b t c)[3 + (n % ((64 : Nat) : Int)).toNat * 1]? = some (.bool (c.getD (Win.idx n) false)) := by
  rw [Nat.mul_one]; exact winA_3 b t c (Win.idx n) (by rw [h]; exact Win.idx_lt n)
theorem winA_3z (n : Int) : (winA b t Win.zeros)[3 + (n % ((64 : Nat) : Int)).toNat * 1]? = some (.bool false) := by
  rw [winA_3' _ _ _ _ Win.zeros_length]; simp only [Win.zeros_getD]
theorem winA_came' (n : Int) (x : Bool) : (winA b t c).setIfInBounds (3 + (n % ((64 : Nat) : Int)).toNat * 1) (.bool x) = winA b t (c.set (Win.idx n) x) := by
  rw [Nat.mul_one]; exact winA_came b t c (Win.idx n) x
theorem winA_zeros (h : c.length = 64) : ((winA b t c).toList.take 3 ++ (Win.zeros.map Value.bool).toArray.toList ++ (winA b t c).toList.drop (3 + (Win.zeros.map Value.bool).toArray.size)).toArray = winA b t Win.zeros := by
  apply Array.ext'
  have : (winA b t c).toList.drop (3 + (Win.zeros.map Value.bool).toArray.size) = [] := List.drop_eq_nil_of_le (by simp [winA, h, Win.zeros_length])
  rw [this]
  simp [winA]
theorem winA_lt2 (h : c.length = 64) : 2 < (winA b t c).size := by rw [winA_size b t c h]; decide
theorem winA_lt3 (n : Int) (h : c.length = 64) : 3 + (n % ((64 : Nat) : Int)).toNat * 1 < (winA b t c).size := by rw [winA_size b t c h]; have := Win.idx_lt n; unfold Win.idx at this; omega
theorem winA_le (h : c.length = 64) : 3 + (Win.zeros.map Value.bool).toArray.size ≤ (winA b t c).size := by rw [winA_size b t c h]; decide
end
theorem arr_new (w : World) : (Instr.build 34 #[]).run Try.prog w = .ok (.agg (Win.zeros.map Value.bool).toArray) w := by kernel_rfl
theorem zeros_all : (Win.zeros.map Value.bool).toArray.all (·.oneCell') = true := by kernel_rfl
def zw : Array Value := #[.bool false, .int .i64 0, .int .i64 0] ++ (Win.zeros.map Value.bool).toArray
theorem zw_size : zw.size = 67 := by decide
theorem Zw : zerT Try.prog 38 = some zw := by kernel_rfl
theorem winA_new (b : Int) (w : World) : (Instr.build 38 #[(0, .bool true), (1, .int .i64 b)]).run Try.prog w = .ok (.agg (winA b 0 Win.zeros)) w := by kernel_rfl

set_option maxHeartbeats 2000000 in
theorem after_any (s : Win.St) (boot n : Int) (w : World) (hl : s.came.length = 64) (ht : 0 ≤ s.top) (ht2 : s.top ≤ 9223372036854775807) (hn : n ≤ 9223372036854775807) :
    Sp Try.prog 19 [.agg (winA s.boot s.top s.came), .int .i64 boot, .int .i64 n] w [] fun v N => v = .agg (winA (Win.after s boot n).boot (Win.after s boot n).top (Win.after s boot n).came) ∧ N = [] := by
  refine Sp.enter (n := 72) Try.func19 rfl rfl rfl (Hp.refl w) ?_
  repeat' (first
          | with_reducible refine T.seq ?_
          | with_reducible refine T.block ?_
          | with_reducible refine T.region ?_
          | with_reducible refine T.skip ?_
          | with_reducible refine T.ret ?_
          | with_reducible refine T.exit ?_
          | with_reducible refine seqQ_n ?_
          | with_reducible refine seqQ_x ?_
          | with_reducible refine seqQ_r ?_
          | with_reducible refine blockQ_n ?_
          | with_reducible refine blockQ_r ?_
          | with_reducible refine blockQ_x ?_
          | ((with_reducible refine g_blkx ?_); refine blockQ_y rfl ?_)
          | with_reducible refine loopQ_x ?_
          | with_reducible refine loopQ_r ?_
          | ((with_reducible refine g_cond ?_); (first | refine T.cond_t rfl ?_ | refine T.cond_f rfl ?_ | (refine T.cond_s rfl ?_ ?_ <;> intro hc)))
          | with_reducible refine TL_nil ?_
          | with_reducible refine TS_nil ?_
          | ((with_reducible refine g_draw ?_); (first | fail))
          | ((with_reducible refine TL_y' ?hy ?hd ?_); (case hy => rfl); (case hd => rfl))
          | with_reducible refine TL_e ?_
          | ((with_reducible refine g_TL ?_); (first | refine TL_gy' rfl rfl rfl rfl ?_ | refine TL_gn rfl rfl rfl ?_ | refine TL_gu rfl rfl rfl ?_ | refine TL_ge rfl rfl ?_ | refine TL_gn0 rfl rfl ?_))
          | ((with_reducible refine g_TS ?_)
             (first
             | refine TS_y rfl rfl ?_
             | refine TS_e rfl ?_
             | refine TS_gy rfl rfl rfl rfl ?_
             | refine TS_gn rfl rfl rfl rfl ?_
             | refine TS_gu rfl rfl rfl rfl ?_
             | refine TS_ge rfl rfl rfl ?_
             | refine TS_gne rfl rfl rfl rfl ?_
             | refine TS_gue rfl rfl rfl rfl ?_
             | refine TS_gne0 rfl rfl rfl ?_))
          | ((with_reducible refine TSand ?hd ?_); (case hd => (repeat (first | exact List.nil_sublist _ | refine List.Sublist.cons_cons _ ?_ | refine List.Sublist.cons _ ?_))))
          | ((with_reducible refine is_move ?_); refine ⟨_, Yl_move rfl, ?_⟩)
          | ((with_reducible refine is_assign ?_); refine ⟨_, Yl_assign rfl, ?_⟩)
          | ((with_reducible refine is_pick ?_); (first | refine ⟨_, Yl_pick_t rfl rfl, ?_⟩ | refine ⟨_, Yl_pick_f rfl rfl, ?_⟩))
          | ((with_reducible refine is_nil ?_); refine ⟨_, Yl_nilCheck rfl, ?_⟩)
          | ((with_reducible refine is_fld ?_)
             (first | ((refine' ⟨_, Yl_fld_blk0 rfl ?q1, ?_⟩); (case q1 => exact fld_of rfl rfl)) | ((refine' ⟨_, Yl_fld_blk rfl ?q1, ?_⟩); (case q1 => exact fld_of rfl rfl)) | ((refine' ⟨_, Yl_fld_ad rfl ?q1, ?_⟩); (case q1 => exact fld_of rfl rfl))))
          | ((with_reducible refine is_load ?_)
             (first
             | ((refine' ⟨_, Yl_load_blk rfl ?q1 ?q2 ?q3, ?_⟩)
                (case q1 => exact one_of rfl)
                (case q2 => (repeat (first | exact .head _ | apply List.Mem.tail)))
                (case q3 =>
                   first
                   | with_reducible exact winA_1 _ _ _
                   | with_reducible exact winA_2 _ _ _
                   | with_reducible exact winA_3z _ _ _
                   | ((with_reducible refine' winA_3' _ _ _ _ ?q1)
                      (case q1 =>
                         first
                         | with_reducible assumption
                         | with_reducible exact Win.zeros_length
                         | (rw [Win.clrTo_length]; with_reducible assumption)
                         | (rw [Win.clrTo_length]; with_reducible exact Win.zeros_length)
                         | (rw [List.length_set, Win.clrTo_length]; with_reducible assumption)
                         | (rw [List.length_set, Win.clrTo_length]; with_reducible exact Win.zeros_length)))))
             | ((refine' ⟨_, Yl_loadA_blk rfl ?q1 ?q2, ?_⟩)
                (case q1 => (repeat (first | exact .head _ | apply List.Mem.tail)))
                (case q2 =>
                   ((with_reducible refine' agg_38.trans (congrArg some (winA_size _ _ _ ?q1).symm))
                    (case q1 =>
                       first
                       | with_reducible assumption
                       | with_reducible exact Win.zeros_length
                       | (rw [Win.clrTo_length]; with_reducible assumption)
                       | (rw [Win.clrTo_length]; with_reducible exact Win.zeros_length)
                       | (rw [List.length_set, Win.clrTo_length]; with_reducible assumption)
                       | (rw [List.length_set, Win.clrTo_length]; with_reducible exact Win.zeros_length)))))
             | ((refine' ⟨_, Yl_load_blk rfl ?q1 ?q2 ?q3, ?_⟩); (case q1 => exact one_of rfl); (case q2 => (repeat (first | exact .head _ | apply List.Mem.tail))); (case q3 => rfl))
             | ((refine' ⟨_, Yl_loadA_blk rfl ?q1 ?q2, ?_⟩); (case q1 => (repeat (first | exact .head _ | apply List.Mem.tail))); (case q2 => exact agg_of rfl))
             | ((refine' ⟨_, Yl_load_blk rfl ?q1 ?q2 ?q3, ?_⟩); (case q1 => exact one_of rfl); (case q2 => (repeat (first | exact .head _ | apply List.Mem.tail))); (case q3 => assumption))
             | ((refine' ⟨_, Yl_load_rd rfl ?q1 ?q2 List.not_mem_nil ?q3, ?_⟩); (case q1 => exact one_of rfl); (case q2 => assumption); (case q3 => assumption))
             | ((refine' ⟨_, Yl_load_row rfl ?q1 ?q2 ?q3, ?_⟩); (case q1 => exact one_of rfl); (case q2 => (repeat (first | exact .head _ | apply List.Mem.tail))); (case q3 => assumption))
             | ((refine' ⟨_, Yl_loadA_rd rfl ?qa ?qb List.not_mem_nil ?ql ?qc, ?_⟩); (case qa => exact agg_of rfl); (case qb => assumption); (case qc => assumption); (case ql => rfl))
             | ((refine' ⟨_, Yl_loadA_row rfl ?qa ?qb ?ql ?qc, ?_⟩); (case qa => exact agg_of rfl); (case qb => (repeat (first | exact .head _ | apply List.Mem.tail))); (case qc => assumption); (case ql => rfl))))
          | ((with_reducible refine is_idx ?_)
             (first
             | ((refine' ⟨_, Yl_index_arrI rfl rfl Try.underlying34 ?q1 ?q2 ?q3, ?_⟩); (case q1 => exact siz_of rfl); (case q2 => omega); (case q3 => omega))
             | ((refine' ⟨_, Yl_index rfl rfl ?q1 ?q2 ?q3 (Rd.some_ ?q4 ?q5), ?_⟩); (case q1 => fail); (case q2 => exact siz_of rfl); (case q3 => omega); (case q4 => assumption); (case q5 => omega))
             | ((refine' ⟨_, Yl_index_row rfl rfl ?q1 ?q2 ?q3 ?q4, ?_⟩); (case q1 => fail); (case q2 => exact siz_of rfl); (case q3 => omega); (case q4 => (repeat (first | exact .head _ | apply List.Mem.tail))))
             | ((refine' ⟨_, Yl_index rfl rfl ?q1 ?q2 ?q3 rfl, ?_⟩); (case q1 => fail); (case q2 => exact siz_of rfl); (case q3 => omega))))
          | ((with_reducible refine is_ext ?_); refine ⟨_, Yl_extract rfl rfl, ?_⟩)
          | ((with_reducible refine is_un ?_); refine ⟨_, Yl_not rfl, ?_⟩)
          | ((with_reducible refine is_len ?_); (first | ((refine' ⟨_, Yl_len_slice rfl ?q1, ?_⟩); (case q1 => fail)) | ((refine' ⟨_, Yl_len_string rfl ?q1, ?_⟩); (case q1 => fail))))
          | ((with_reducible refine is_b_lss ?_); (first | ((refine' ⟨_, Yl_lss_t rfl rfl ?q1, ?_⟩); (case q1 => omega)) | ((refine' ⟨_, Yl_lss_f rfl rfl ?q1, ?_⟩); (case q1 => omega)) | (refine sp_lss rfl rfl ?_ ?_ <;> intro hc)))
          | ((with_reducible refine is_b_leq ?_); (first | ((refine' ⟨_, Yl_leq_t rfl rfl ?q1, ?_⟩); (case q1 => omega)) | ((refine' ⟨_, Yl_leq_f rfl rfl ?q1, ?_⟩); (case q1 => omega)) | (refine sp_leq rfl rfl ?_ ?_ <;> intro hc)))
          | ((with_reducible refine is_b_gtr ?_); (first | ((refine' ⟨_, Yl_gtr_t rfl rfl ?q1, ?_⟩); (case q1 => omega)) | ((refine' ⟨_, Yl_gtr_f rfl rfl ?q1, ?_⟩); (case q1 => omega)) | (refine sp_gtr rfl rfl ?_ ?_ <;> intro hc)))
          | ((with_reducible refine is_b_geq ?_); (first | ((refine' ⟨_, Yl_geq_t rfl rfl ?q1, ?_⟩); (case q1 => omega)) | ((refine' ⟨_, Yl_geq_f rfl rfl ?q1, ?_⟩); (case q1 => omega)) | (refine sp_geq rfl rfl ?_ ?_ <;> intro hc)))
          | ((with_reducible refine is_b_eql ?_)
             (first
             | ((refine' ⟨_, Yl_eql_t rfl rfl ?q1, ?_⟩); (case q1 => omega))
             | ((refine' ⟨_, Yl_eql_f rfl rfl ?q1, ?_⟩); (case q1 => omega))
             | (refine sp_eql rfl rfl ?_ ?_ <;> intro hc)
             | ((refine' ⟨_, Yl_rem (m := 64) rfl rfl ?q1 ?q2, ?_⟩); (case q1 => omega); (case q2 => omega))))
          | ((with_reducible refine is_b_neq ?_)
             (first
             | ((refine' ⟨_, Yl_neq_t rfl rfl ?q1, ?_⟩); (case q1 => omega))
             | ((refine' ⟨_, Yl_neq_f rfl rfl ?q1, ?_⟩); (case q1 => omega))
             | (refine sp_neq rfl rfl ?_ ?_ <;> intro hc)
             | ((refine' ⟨_, Yl_rem (m := 64) rfl rfl ?q1 ?q2, ?_⟩); (case q1 => omega); (case q2 => omega))))
          | ((with_reducible refine is_b_add ?_); (first | ((refine' ⟨_, Yl_add rfl rfl ?q1 ?q2, ?_⟩); (case q1 => omega); (case q2 => omega)) | ((refine' ⟨_, Yl_rem (m := 64) rfl rfl ?q1 ?q2, ?_⟩); (case q1 => omega); (case q2 => omega))))
          | ((with_reducible refine is_b_sub ?_); (first | ((refine' ⟨_, Yl_sub rfl rfl ?q1 ?q2, ?_⟩); (case q1 => omega); (case q2 => omega)) | ((refine' ⟨_, Yl_rem (m := 64) rfl rfl ?q1 ?q2, ?_⟩); (case q1 => omega); (case q2 => omega))))
          | ((with_reducible refine is_build ?_); (first | ((refine' ⟨_, Yl_build rfl ?q1, ?_⟩); (case q1 => with_reducible exact winA_new _)) | ((refine' ⟨_, Yl_build rfl ?q1, ?_⟩); (case q1 => with_reducible exact arr_new))))
          | (first | ((refine' ⟨_, Yl_rem (m := 64) rfl rfl ?q1 ?q2, ?_⟩); (case q1 => omega); (case q2 => omega)))
          | ((with_reducible refine ie_box ?_)
             (first
             | (refine Ef_boxA rfl rfl ?_
                (first
                | ((fail_if_success have := b1); intro b1)
                | ((fail_if_success have := b2); intro b2)
                | ((fail_if_success have := b3); intro b3)
                | ((fail_if_success have := b4); intro b4)
                | ((fail_if_success have := b5); intro b5)
                | ((fail_if_success have := b6); intro b6)
                | ((fail_if_success have := b7); intro b7)
                | ((fail_if_success have := b8); intro b8)
                | ((fail_if_success have := b9); intro b9)))
             | (refine Ef_box1 rfl rfl rfl ?_
                (first
                | ((fail_if_success have := b1); intro b1)
                | ((fail_if_success have := b2); intro b2)
                | ((fail_if_success have := b3); intro b3)
                | ((fail_if_success have := b4); intro b4)
                | ((fail_if_success have := b5); intro b5)
                | ((fail_if_success have := b6); intro b6)
                | ((fail_if_success have := b7); intro b7)
                | ((fail_if_success have := b8); intro b8)
                | ((fail_if_success have := b9); intro b9)))))
          | ((with_reducible refine ie_alloc ?_)
             (first
             | (refine Ef_alloc rfl Zw ?_
                (first
                | ((fail_if_success have := b1); intro b1)
                | ((fail_if_success have := b2); intro b2)
                | ((fail_if_success have := b3); intro b3)
                | ((fail_if_success have := b4); intro b4)
                | ((fail_if_success have := b5); intro b5)
                | ((fail_if_success have := b6); intro b6)
                | ((fail_if_success have := b7); intro b7)
                | ((fail_if_success have := b8); intro b8)
                | ((fail_if_success have := b9); intro b9)))
             | (((refine' Ef_alloc rfl ?q1 ?_); (case q1 => exact zer_of rfl))
                (first
                | ((fail_if_success have := b1); intro b1)
                | ((fail_if_success have := b2); intro b2)
                | ((fail_if_success have := b3); intro b3)
                | ((fail_if_success have := b4); intro b4)
                | ((fail_if_success have := b5); intro b5)
                | ((fail_if_success have := b6); intro b6)
                | ((fail_if_success have := b7); intro b7)
                | ((fail_if_success have := b8); intro b8)
                | ((fail_if_success have := b9); intro b9)))))
          | ((with_reducible refine ie_store ?_)
             (first
             | ((refine' Ef_storeI (i := 0) rfl rfl ?q1 rfl ?q2 ?q3 ?_)
                (case q1 => exact siz_of rfl)
                (case q2 =>
                   ((with_reducible refine' winA_lt2 _ _ _ ?q1)
                    (case q1 =>
                       first
                       | with_reducible assumption
                       | with_reducible exact Win.zeros_length
                       | (rw [Win.clrTo_length]; with_reducible assumption)
                       | (rw [Win.clrTo_length]; with_reducible exact Win.zeros_length)
                       | (rw [List.length_set, Win.clrTo_length]; with_reducible assumption)
                       | (rw [List.length_set, Win.clrTo_length]; with_reducible exact Win.zeros_length))))
                (case q3 => with_reducible exact winA_top _ _ _ _))
             | ((refine' Ef_storeB (i := 0) rfl rfl ?q1 rfl ?q2 ?q3 ?_)
                (case q1 => exact siz_of rfl)
                (case q2 =>
                   ((with_reducible refine' winA_lt3 _ _ _ _ ?q1)
                    (case q1 =>
                       first
                       | with_reducible assumption
                       | with_reducible exact Win.zeros_length
                       | (rw [Win.clrTo_length]; with_reducible assumption)
                       | (rw [Win.clrTo_length]; with_reducible exact Win.zeros_length)
                       | (rw [List.length_set, Win.clrTo_length]; with_reducible assumption)
                       | (rw [List.length_set, Win.clrTo_length]; with_reducible exact Win.zeros_length))))
                (case q3 => with_reducible exact winA_came' _ _ _ _ _))
             | ((refine' Ef_storeA (i := 0) rfl rfl ?q1 ?q2 rfl ?q3 ?_)
                (case q1 =>
                   ((with_reducible refine' siz_38.trans (congrArg some (winA_size _ _ _ ?q1).symm))
                    (case q1 =>
                       first
                       | with_reducible assumption
                       | with_reducible exact Win.zeros_length
                       | (rw [Win.clrTo_length]; with_reducible assumption)
                       | (rw [Win.clrTo_length]; with_reducible exact Win.zeros_length)
                       | (rw [List.length_set, Win.clrTo_length]; with_reducible assumption)
                       | (rw [List.length_set, Win.clrTo_length]; with_reducible exact Win.zeros_length))))
                (case q2 => with_reducible exact winA_all _ _ _)
                (case q3 =>
                   first
                   | ((with_reducible refine' zw_size.trans (winA_size _ _ _ ?q1).symm)
                      (case q1 =>
                         first
                         | with_reducible assumption
                         | with_reducible exact Win.zeros_length
                         | (rw [Win.clrTo_length]; with_reducible assumption)
                         | (rw [Win.clrTo_length]; with_reducible exact Win.zeros_length)
                         | (rw [List.length_set, Win.clrTo_length]; with_reducible assumption)
                         | (rw [List.length_set, Win.clrTo_length]; with_reducible exact Win.zeros_length)))
                   | ((with_reducible refine' (winA_size _ _ _ ?q1).trans (winA_size _ _ _ ?q2).symm)
                      (case q1 =>
                         first
                         | with_reducible assumption
                         | with_reducible exact Win.zeros_length
                         | (rw [Win.clrTo_length]; with_reducible assumption)
                         | (rw [Win.clrTo_length]; with_reducible exact Win.zeros_length)
                         | (rw [List.length_set, Win.clrTo_length]; with_reducible assumption)
                         | (rw [List.length_set, Win.clrTo_length]; with_reducible exact Win.zeros_length))
                      (case q2 =>
                         first
                         | with_reducible assumption
                         | with_reducible exact Win.zeros_length
                         | (rw [Win.clrTo_length]; with_reducible assumption)
                         | (rw [Win.clrTo_length]; with_reducible exact Win.zeros_length)
                         | (rw [List.length_set, Win.clrTo_length]; with_reducible assumption)
                         | (rw [List.length_set, Win.clrTo_length]; with_reducible exact Win.zeros_length)))))
             | ((refine' Ef_storeA (i := 1) rfl rfl ?q1 ?q2 rfl ?q3 ?_)
                (case q1 =>
                   ((with_reducible refine' siz_38.trans (congrArg some (winA_size _ _ _ ?q1).symm))
                    (case q1 =>
                       first
                       | with_reducible assumption
                       | with_reducible exact Win.zeros_length
                       | (rw [Win.clrTo_length]; with_reducible assumption)
                       | (rw [Win.clrTo_length]; with_reducible exact Win.zeros_length)
                       | (rw [List.length_set, Win.clrTo_length]; with_reducible assumption)
                       | (rw [List.length_set, Win.clrTo_length]; with_reducible exact Win.zeros_length))))
                (case q2 => with_reducible exact winA_all _ _ _)
                (case q3 =>
                   first
                   | ((with_reducible refine' zw_size.trans (winA_size _ _ _ ?q1).symm)
                      (case q1 =>
                         first
                         | with_reducible assumption
                         | with_reducible exact Win.zeros_length
                         | (rw [Win.clrTo_length]; with_reducible assumption)
                         | (rw [Win.clrTo_length]; with_reducible exact Win.zeros_length)
                         | (rw [List.length_set, Win.clrTo_length]; with_reducible assumption)
                         | (rw [List.length_set, Win.clrTo_length]; with_reducible exact Win.zeros_length)))
                   | ((with_reducible refine' (winA_size _ _ _ ?q1).trans (winA_size _ _ _ ?q2).symm)
                      (case q1 =>
                         first
                         | with_reducible assumption
                         | with_reducible exact Win.zeros_length
                         | (rw [Win.clrTo_length]; with_reducible assumption)
                         | (rw [Win.clrTo_length]; with_reducible exact Win.zeros_length)
                         | (rw [List.length_set, Win.clrTo_length]; with_reducible assumption)
                         | (rw [List.length_set, Win.clrTo_length]; with_reducible exact Win.zeros_length))
                      (case q2 =>
                         first
                         | with_reducible assumption
                         | with_reducible exact Win.zeros_length
                         | (rw [Win.clrTo_length]; with_reducible assumption)
                         | (rw [Win.clrTo_length]; with_reducible exact Win.zeros_length)
                         | (rw [List.length_set, Win.clrTo_length]; with_reducible assumption)
                         | (rw [List.length_set, Win.clrTo_length]; with_reducible exact Win.zeros_length)))))
             | ((refine' Ef_storeM (i := 0) rfl rfl ?q1 ?q2 rfl ?q3 ?q4 ?_)
                (case q1 => kernel_rfl)
                (case q2 => with_reducible exact zeros_all)
                (case q3 =>
                   ((with_reducible refine' winA_le _ _ _ ?q1)
                    (case q1 =>
                       first
                       | with_reducible assumption
                       | with_reducible exact Win.zeros_length
                       | (rw [Win.clrTo_length]; with_reducible assumption)
                       | (rw [Win.clrTo_length]; with_reducible exact Win.zeros_length)
                       | (rw [List.length_set, Win.clrTo_length]; with_reducible assumption)
                       | (rw [List.length_set, Win.clrTo_length]; with_reducible exact Win.zeros_length))))
                (case q4 =>
                   ((with_reducible refine' winA_zeros _ _ _ ?q1)
                    (case q1 =>
                       first
                       | with_reducible assumption
                       | with_reducible exact Win.zeros_length
                       | (rw [Win.clrTo_length]; with_reducible assumption)
                       | (rw [Win.clrTo_length]; with_reducible exact Win.zeros_length)
                       | (rw [List.length_set, Win.clrTo_length]; with_reducible assumption)
                       | (rw [List.length_set, Win.clrTo_length]; with_reducible exact Win.zeros_length)))))
             | ((refine' Ef_storeC rfl rfl ?q1 ?q2 ?q3 ?q4 ?q5 ?_)
                (case q1 => rfl)
                (case q2 => exact siz_of rfl)
                (case q3 => (first | exact at0 | exact at1 | exact at2 | exact at3 | exact at4 | exact at5 | exact at6))
                (case q4 => exact Nat.le_of_ble_eq_true rfl)
                (case q5 => rfl))))
          | ((with_reducible refine ie_callf ?_); (first | fail))
          | ((with_reducible refine ie_app ?_)
             (first
             | (refine Ef_alloc rfl Zw ?_
                (first
                | ((fail_if_success have := b1); intro b1)
                | ((fail_if_success have := b2); intro b2)
                | ((fail_if_success have := b3); intro b3)
                | ((fail_if_success have := b4); intro b4)
                | ((fail_if_success have := b5); intro b5)
                | ((fail_if_success have := b6); intro b6)
                | ((fail_if_success have := b7); intro b7)
                | ((fail_if_success have := b8); intro b8)
                | ((fail_if_success have := b9); intro b9)))
             | (((refine' Ef_append_row rfl rfl rfl ?q1 ?q2 ?q3 ?q4 ?q5 ?q6 ?_)
                 (case q1 => exact app_of rfl)
                 (case q2 => (first | exact at0 | exact at1 | exact at2 | exact at3 | exact at4 | exact at5 | exact at6))
                 (case q3 => (repeat (first | exact .head _ | apply List.Mem.tail)))
                 (case q4 => (first | assumption | (intro u hu; rcases hu with _ | ⟨_, _ | ⟨_, _ | ⟨_, _ | ⟨_, hu⟩⟩⟩⟩ <;> first | rfl | (cases hu; done))))
                 (case q5 => omega)
                 (case q6 => omega))
                (first
                | ((fail_if_success have := A1); intro A1 c1)
                | ((fail_if_success have := A2); intro A2 c2)
                | ((fail_if_success have := A3); intro A3 c3)
                | ((fail_if_success have := A4); intro A4 c4)
                | ((fail_if_success have := A5); intro A5 c5)
                | ((fail_if_success have := A6); intro A6 c6)
                | ((fail_if_success have := A7); intro A7 c7)))
             | (((refine' Ef_append_rd rfl rfl rfl ?q1 ?q2 ?q3 List.not_mem_nil ?q4 ?q5 ?q6 ?q7 ?_)
                 (case q1 => exact app_of rfl)
                 (case q2 => (first | exact at0 | exact at1 | exact at2 | exact at3 | exact at4 | exact at5 | exact at6))
                 (case q3 => assumption)
                 (case q4 => omega)
                 (case q5 => (first | assumption | (intro u hu; rcases hu with _ | ⟨_, _ | ⟨_, _ | ⟨_, _ | ⟨_, hu⟩⟩⟩⟩ <;> first | rfl | (cases hu; done))))
                 (case q6 => omega)
                 (case q7 => omega))
                (first
                | ((fail_if_success have := A1); intro A1 c1)
                | ((fail_if_success have := A2); intro A2 c2)
                | ((fail_if_success have := A3); intro A3 c3)
                | ((fail_if_success have := A4); intro A4 c4)
                | ((fail_if_success have := A5); intro A5 c5)
                | ((fail_if_success have := A6); intro A6 c6)
                | ((fail_if_success have := A7); intro A7 c7)))))
          | ((with_reducible refine ie_bsl ?_)
             (first
             | (refine Ef_alloc rfl Zw ?_
                (first
                | ((fail_if_success have := b1); intro b1)
                | ((fail_if_success have := b2); intro b2)
                | ((fail_if_success have := b3); intro b3)
                | ((fail_if_success have := b4); intro b4)
                | ((fail_if_success have := b5); intro b5)
                | ((fail_if_success have := b6); intro b6)
                | ((fail_if_success have := b7); intro b7)
                | ((fail_if_success have := b8); intro b8)
                | ((fail_if_success have := b9); intro b9)))
             | (((refine' Ef_bslA rfl rfl ?q1 ?q2 ?q3 ?_); (case q1 => exact app_of rfl); (case q2 => rfl); (case q3 => decide))
                (first
                | ((fail_if_success have := b1); intro b1)
                | ((fail_if_success have := b2); intro b2)
                | ((fail_if_success have := b3); intro b3)
                | ((fail_if_success have := b4); intro b4)
                | ((fail_if_success have := b5); intro b5)
                | ((fail_if_success have := b6); intro b6)
                | ((fail_if_success have := b7); intro b7)
                | ((fail_if_success have := b8); intro b8)
                | ((fail_if_success have := b9); intro b9)))
             | (((refine' Ef_bsl1 rfl rfl rfl ?q1 ?_); (case q1 => exact app_of rfl))
                (first
                | ((fail_if_success have := b1); intro b1)
                | ((fail_if_success have := b2); intro b2)
                | ((fail_if_success have := b3); intro b3)
                | ((fail_if_success have := b4); intro b4)
                | ((fail_if_success have := b5); intro b5)
                | ((fail_if_success have := b6); intro b6)
                | ((fail_if_success have := b7); intro b7)
                | ((fail_if_success have := b8); intro b8)
                | ((fail_if_success have := b9); intro b9)))))
          | (first
            | (refine Ef_alloc rfl Zw ?_
               (first
               | ((fail_if_success have := b1); intro b1)
               | ((fail_if_success have := b2); intro b2)
               | ((fail_if_success have := b3); intro b3)
               | ((fail_if_success have := b4); intro b4)
               | ((fail_if_success have := b5); intro b5)
               | ((fail_if_success have := b6); intro b6)
               | ((fail_if_success have := b7); intro b7)
               | ((fail_if_success have := b8); intro b8)
               | ((fail_if_success have := b9); intro b9))))
          | refine Ef_y rfl rfl ?_)
  · refine ret_n [] (resC rfl rfl (by (repeat (first | exact .head _ | apply List.Mem.tail))) (by with_reducible exact agg_38.trans (congrArg some (winA_size _ _ _ (by first | with_reducible assumption | with_reducible exact Win.zeros_length | (rw [Win.clrTo_length]; with_reducible assumption) | (rw [Win.clrTo_length]; with_reducible exact Win.zeros_length) | (rw [List.length_set, Win.clrTo_length]; with_reducible assumption) | (rw [List.length_set, Win.clrTo_length]; with_reducible exact Win.zeros_length))).symm))) (List.nil_sublist _) ⟨?_, rfl⟩
    rw [Win.after_same s boot n (by omega)]
  · refine ret_n [] (resC rfl rfl (by (repeat (first | exact .head _ | apply List.Mem.tail))) (by with_reducible exact agg_38.trans (congrArg some (winA_size _ _ _ (by first | with_reducible assumption | with_reducible exact Win.zeros_length | (rw [Win.clrTo_length]; with_reducible assumption) | (rw [Win.clrTo_length]; with_reducible exact Win.zeros_length) | (rw [List.length_set, Win.clrTo_length]; with_reducible assumption) | (rw [List.length_set, Win.clrTo_length]; with_reducible exact Win.zeros_length))).symm))) (List.nil_sublist _) ⟨?_, rfl⟩
    rw [Win.after_same s boot n (by omega)]
  · have e : Win.after s boot n = ⟨boot, max n n, (Win.clrTo n Win.zeros (n - n).toNat).set (Win.idx n) true⟩ := by
      unfold Win.after
      rw [if_neg (by omega)]
      first | rw [if_pos (show s.boot < boot by assumption)] | rw [if_neg (show ¬ s.boot < boot by assumption)]
      dsimp only
      rw [if_neg (by rintro (h | ⟨h, h'⟩) <;> first | omega | (rw [Win.zeros_getD] at h'; cases h') | (rw [show Win.zeros.getD (Win.idx n) false = false by assumption] at h'; cases h'))]
      first | rw [if_pos (by omega)] | rw [if_neg (by omega)]
      try (congr 1; omega)
    refine T.loop (α := Nat × Int) (fun _ => [(2, .int .i64 n), (6, .pointer (some ⟨b2, 0, none⟩)), (7, .pointer (some ⟨b3, 0, none⟩))]) (fun x => [.blk b3 (.cells (winA boot x.2 (Win.clrTo n Win.zeros x.1)) 38), .blk b2 (.cells zw 38)]) (fun x => x.2 = n + x.1 ∧ x.1 ≤ (n - n).toNat) (fun x => (n - n).toNat - x.1) (0, n) ?_ ?_ ?_ ?_
    · (repeat (first | exact Sub.nil | refine Sub.cons rfl ?_))
    · (repeat (first | exact List.nil_sublist _ | refine List.Sublist.cons_cons _ ?_ | refine List.Sublist.cons _ ?_))
    · exact ⟨by simp, by omega⟩
    · rintro ⟨j, t⟩ ⟨e1, e2⟩
      dsimp only at e1 e2 ⊢
      repeat' (first
              | with_reducible refine T.seq ?_
              | with_reducible refine T.block ?_
              | with_reducible refine T.region ?_
              | with_reducible refine T.skip ?_
              | with_reducible refine T.ret ?_
              | with_reducible refine T.exit ?_
              | with_reducible refine seqQ_n ?_
              | with_reducible refine seqQ_x ?_
              | with_reducible refine seqQ_r ?_
              | with_reducible refine blockQ_n ?_
              | with_reducible refine blockQ_r ?_
              | with_reducible refine blockQ_x ?_
              | ((with_reducible refine g_blkx ?_); refine blockQ_y rfl ?_)
              | with_reducible refine loopQ_x ?_
              | with_reducible refine loopQ_r ?_
              | ((with_reducible refine g_cond ?_); (first | refine T.cond_t rfl ?_ | refine T.cond_f rfl ?_ | (refine T.cond_s rfl ?_ ?_ <;> intro hc)))
              | with_reducible refine TL_nil ?_
              | with_reducible refine TS_nil ?_
              | ((with_reducible refine g_draw ?_); (first | fail))
              | ((with_reducible refine TL_y' ?hy ?hd ?_); (case hy => rfl); (case hd => rfl))
              | with_reducible refine TL_e ?_
              | ((with_reducible refine g_TL ?_); (first | refine TL_gy' rfl rfl rfl rfl ?_ | refine TL_gn rfl rfl rfl ?_ | refine TL_gu rfl rfl rfl ?_ | refine TL_ge rfl rfl ?_ | refine TL_gn0 rfl rfl ?_))
              | ((with_reducible refine g_TS ?_)
                 (first
                 | refine TS_y rfl rfl ?_
                 | refine TS_e rfl ?_
                 | refine TS_gy rfl rfl rfl rfl ?_
                 | refine TS_gn rfl rfl rfl rfl ?_
                 | refine TS_gu rfl rfl rfl rfl ?_
                 | refine TS_ge rfl rfl rfl ?_
                 | refine TS_gne rfl rfl rfl rfl ?_
                 | refine TS_gue rfl rfl rfl rfl ?_
                 | refine TS_gne0 rfl rfl rfl ?_))
              | ((with_reducible refine TSand ?hd ?_); (case hd => (repeat (first | exact List.nil_sublist _ | refine List.Sublist.cons_cons _ ?_ | refine List.Sublist.cons _ ?_))))
              | ((with_reducible refine is_move ?_); refine ⟨_, Yl_move rfl, ?_⟩)
              | ((with_reducible refine is_assign ?_); refine ⟨_, Yl_assign rfl, ?_⟩)
              | ((with_reducible refine is_pick ?_); (first | refine ⟨_, Yl_pick_t rfl rfl, ?_⟩ | refine ⟨_, Yl_pick_f rfl rfl, ?_⟩))
              | ((with_reducible refine is_nil ?_); refine ⟨_, Yl_nilCheck rfl, ?_⟩)
              | ((with_reducible refine is_fld ?_)
                 (first | ((refine' ⟨_, Yl_fld_blk0 rfl ?q1, ?_⟩); (case q1 => exact fld_of rfl rfl)) | ((refine' ⟨_, Yl_fld_blk rfl ?q1, ?_⟩); (case q1 => exact fld_of rfl rfl)) | ((refine' ⟨_, Yl_fld_ad rfl ?q1, ?_⟩); (case q1 => exact fld_of rfl rfl))))
              | ((with_reducible refine is_load ?_)
                 (first
                 | ((refine' ⟨_, Yl_load_blk rfl ?q1 ?q2 ?q3, ?_⟩)
                    (case q1 => exact one_of rfl)
                    (case q2 => (repeat (first | exact .head _ | apply List.Mem.tail)))
                    (case q3 =>
                       first
                       | with_reducible exact winA_1 _ _ _
                       | with_reducible exact winA_2 _ _ _
                       | with_reducible exact winA_3z _ _ _
                       | ((with_reducible refine' winA_3' _ _ _ _ ?q1)
                          (case q1 =>
                             first
                             | with_reducible assumption
                             | with_reducible exact Win.zeros_length
                             | (rw [Win.clrTo_length]; with_reducible assumption)
                             | (rw [Win.clrTo_length]; with_reducible exact Win.zeros_length)
                             | (rw [List.length_set, Win.clrTo_length]; with_reducible assumption)
                             | (rw [List.length_set, Win.clrTo_length]; with_reducible exact Win.zeros_length)))))
                 | ((refine' ⟨_, Yl_loadA_blk rfl ?q1 ?q2, ?_⟩)
                    (case q1 => (repeat (first | exact .head _ | apply List.Mem.tail)))
                    (case q2 =>
                       ((with_reducible refine' agg_38.trans (congrArg some (winA_size _ _ _ ?q1).symm))
                        (case q1 =>
                           first
                           | with_reducible assumption
                           | with_reducible exact Win.zeros_length
                           | (rw [Win.clrTo_length]; with_reducible assumption)
                           | (rw [Win.clrTo_length]; with_reducible exact Win.zeros_length)
                           | (rw [List.length_set, Win.clrTo_length]; with_reducible assumption)
                           | (rw [List.length_set, Win.clrTo_length]; with_reducible exact Win.zeros_length)))))
                 | ((refine' ⟨_, Yl_load_blk rfl ?q1 ?q2 ?q3, ?_⟩); (case q1 => exact one_of rfl); (case q2 => (repeat (first | exact .head _ | apply List.Mem.tail))); (case q3 => rfl))
                 | ((refine' ⟨_, Yl_loadA_blk rfl ?q1 ?q2, ?_⟩); (case q1 => (repeat (first | exact .head _ | apply List.Mem.tail))); (case q2 => exact agg_of rfl))
                 | ((refine' ⟨_, Yl_load_blk rfl ?q1 ?q2 ?q3, ?_⟩); (case q1 => exact one_of rfl); (case q2 => (repeat (first | exact .head _ | apply List.Mem.tail))); (case q3 => assumption))
                 | ((refine' ⟨_, Yl_load_rd rfl ?q1 ?q2 List.not_mem_nil ?q3, ?_⟩); (case q1 => exact one_of rfl); (case q2 => assumption); (case q3 => assumption))
                 | ((refine' ⟨_, Yl_load_row rfl ?q1 ?q2 ?q3, ?_⟩); (case q1 => exact one_of rfl); (case q2 => (repeat (first | exact .head _ | apply List.Mem.tail))); (case q3 => assumption))
                 | ((refine' ⟨_, Yl_loadA_rd rfl ?qa ?qb List.not_mem_nil ?ql ?qc, ?_⟩); (case qa => exact agg_of rfl); (case qb => assumption); (case qc => assumption); (case ql => rfl))
                 | ((refine' ⟨_, Yl_loadA_row rfl ?qa ?qb ?ql ?qc, ?_⟩); (case qa => exact agg_of rfl); (case qb => (repeat (first | exact .head _ | apply List.Mem.tail))); (case qc => assumption); (case ql => rfl))))
              | ((with_reducible refine is_idx ?_)
                 (first
                 | ((refine' ⟨_, Yl_index_arrI rfl rfl Try.underlying34 ?q1 ?q2 ?q3, ?_⟩); (case q1 => exact siz_of rfl); (case q2 => omega); (case q3 => omega))
                 | ((refine' ⟨_, Yl_index rfl rfl ?q1 ?q2 ?q3 (Rd.some_ ?q4 ?q5), ?_⟩); (case q1 => fail); (case q2 => exact siz_of rfl); (case q3 => omega); (case q4 => assumption); (case q5 => omega))
                 | ((refine' ⟨_, Yl_index_row rfl rfl ?q1 ?q2 ?q3 ?q4, ?_⟩); (case q1 => fail); (case q2 => exact siz_of rfl); (case q3 => omega); (case q4 => (repeat (first | exact .head _ | apply List.Mem.tail))))
                 | ((refine' ⟨_, Yl_index rfl rfl ?q1 ?q2 ?q3 rfl, ?_⟩); (case q1 => fail); (case q2 => exact siz_of rfl); (case q3 => omega))))
              | ((with_reducible refine is_ext ?_); refine ⟨_, Yl_extract rfl rfl, ?_⟩)
              | ((with_reducible refine is_un ?_); refine ⟨_, Yl_not rfl, ?_⟩)
              | ((with_reducible refine is_len ?_); (first | ((refine' ⟨_, Yl_len_slice rfl ?q1, ?_⟩); (case q1 => fail)) | ((refine' ⟨_, Yl_len_string rfl ?q1, ?_⟩); (case q1 => fail))))
              | ((with_reducible refine is_b_lss ?_); (first | ((refine' ⟨_, Yl_lss_t rfl rfl ?q1, ?_⟩); (case q1 => omega)) | ((refine' ⟨_, Yl_lss_f rfl rfl ?q1, ?_⟩); (case q1 => omega)) | (refine sp_lss rfl rfl ?_ ?_ <;> intro hc)))
              | ((with_reducible refine is_b_leq ?_); (first | ((refine' ⟨_, Yl_leq_t rfl rfl ?q1, ?_⟩); (case q1 => omega)) | ((refine' ⟨_, Yl_leq_f rfl rfl ?q1, ?_⟩); (case q1 => omega)) | (refine sp_leq rfl rfl ?_ ?_ <;> intro hc)))
              | ((with_reducible refine is_b_gtr ?_); (first | ((refine' ⟨_, Yl_gtr_t rfl rfl ?q1, ?_⟩); (case q1 => omega)) | ((refine' ⟨_, Yl_gtr_f rfl rfl ?q1, ?_⟩); (case q1 => omega)) | (refine sp_gtr rfl rfl ?_ ?_ <;> intro hc)))
              | ((with_reducible refine is_b_geq ?_); (first | ((refine' ⟨_, Yl_geq_t rfl rfl ?q1, ?_⟩); (case q1 => omega)) | ((refine' ⟨_, Yl_geq_f rfl rfl ?q1, ?_⟩); (case q1 => omega)) | (refine sp_geq rfl rfl ?_ ?_ <;> intro hc)))
              | ((with_reducible refine is_b_eql ?_)
                 (first
                 | ((refine' ⟨_, Yl_eql_t rfl rfl ?q1, ?_⟩); (case q1 => omega))
                 | ((refine' ⟨_, Yl_eql_f rfl rfl ?q1, ?_⟩); (case q1 => omega))
                 | (refine sp_eql rfl rfl ?_ ?_ <;> intro hc)
                 | ((refine' ⟨_, Yl_rem (m := 64) rfl rfl ?q1 ?q2, ?_⟩); (case q1 => omega); (case q2 => omega))))
              | ((with_reducible refine is_b_neq ?_)
                 (first
                 | ((refine' ⟨_, Yl_neq_t rfl rfl ?q1, ?_⟩); (case q1 => omega))
                 | ((refine' ⟨_, Yl_neq_f rfl rfl ?q1, ?_⟩); (case q1 => omega))
                 | (refine sp_neq rfl rfl ?_ ?_ <;> intro hc)
                 | ((refine' ⟨_, Yl_rem (m := 64) rfl rfl ?q1 ?q2, ?_⟩); (case q1 => omega); (case q2 => omega))))
              | ((with_reducible refine is_b_add ?_); (first | ((refine' ⟨_, Yl_add rfl rfl ?q1 ?q2, ?_⟩); (case q1 => omega); (case q2 => omega)) | ((refine' ⟨_, Yl_rem (m := 64) rfl rfl ?q1 ?q2, ?_⟩); (case q1 => omega); (case q2 => omega))))
              | ((with_reducible refine is_b_sub ?_); (first | ((refine' ⟨_, Yl_sub rfl rfl ?q1 ?q2, ?_⟩); (case q1 => omega); (case q2 => omega)) | ((refine' ⟨_, Yl_rem (m := 64) rfl rfl ?q1 ?q2, ?_⟩); (case q1 => omega); (case q2 => omega))))
              | ((with_reducible refine is_build ?_); (first | ((refine' ⟨_, Yl_build rfl ?q1, ?_⟩); (case q1 => with_reducible exact winA_new _)) | ((refine' ⟨_, Yl_build rfl ?q1, ?_⟩); (case q1 => with_reducible exact arr_new))))
              | (first | ((refine' ⟨_, Yl_rem (m := 64) rfl rfl ?q1 ?q2, ?_⟩); (case q1 => omega); (case q2 => omega)))
              | ((with_reducible refine ie_box ?_)
                 (first
                 | (refine Ef_boxA rfl rfl ?_
                    (first
                    | ((fail_if_success have := b1); intro b1)
                    | ((fail_if_success have := b2); intro b2)
                    | ((fail_if_success have := b3); intro b3)
                    | ((fail_if_success have := b4); intro b4)
                    | ((fail_if_success have := b5); intro b5)
                    | ((fail_if_success have := b6); intro b6)
                    | ((fail_if_success have := b7); intro b7)
                    | ((fail_if_success have := b8); intro b8)
                    | ((fail_if_success have := b9); intro b9)))
                 | (refine Ef_box1 rfl rfl rfl ?_
                    (first
                    | ((fail_if_success have := b1); intro b1)
                    | ((fail_if_success have := b2); intro b2)
                    | ((fail_if_success have := b3); intro b3)
                    | ((fail_if_success have := b4); intro b4)
                    | ((fail_if_success have := b5); intro b5)
                    | ((fail_if_success have := b6); intro b6)
                    | ((fail_if_success have := b7); intro b7)
                    | ((fail_if_success have := b8); intro b8)
                    | ((fail_if_success have := b9); intro b9)))))
              | ((with_reducible refine ie_alloc ?_)
                 (first
                 | (refine Ef_alloc rfl Zw ?_
                    (first
                    | ((fail_if_success have := b1); intro b1)
                    | ((fail_if_success have := b2); intro b2)
                    | ((fail_if_success have := b3); intro b3)
                    | ((fail_if_success have := b4); intro b4)
                    | ((fail_if_success have := b5); intro b5)
                    | ((fail_if_success have := b6); intro b6)
                    | ((fail_if_success have := b7); intro b7)
                    | ((fail_if_success have := b8); intro b8)
                    | ((fail_if_success have := b9); intro b9)))
                 | (((refine' Ef_alloc rfl ?q1 ?_); (case q1 => exact zer_of rfl))
                    (first
                    | ((fail_if_success have := b1); intro b1)
                    | ((fail_if_success have := b2); intro b2)
                    | ((fail_if_success have := b3); intro b3)
                    | ((fail_if_success have := b4); intro b4)
                    | ((fail_if_success have := b5); intro b5)
                    | ((fail_if_success have := b6); intro b6)
                    | ((fail_if_success have := b7); intro b7)
                    | ((fail_if_success have := b8); intro b8)
                    | ((fail_if_success have := b9); intro b9)))))
              | ((with_reducible refine ie_store ?_)
                 (first
                 | ((refine' Ef_storeI (i := 0) rfl rfl ?q1 rfl ?q2 ?q3 ?_)
                    (case q1 => exact siz_of rfl)
                    (case q2 =>
                       ((with_reducible refine' winA_lt2 _ _ _ ?q1)
                        (case q1 =>
                           first
                           | with_reducible assumption
                           | with_reducible exact Win.zeros_length
                           | (rw [Win.clrTo_length]; with_reducible assumption)
                           | (rw [Win.clrTo_length]; with_reducible exact Win.zeros_length)
                           | (rw [List.length_set, Win.clrTo_length]; with_reducible assumption)
                           | (rw [List.length_set, Win.clrTo_length]; with_reducible exact Win.zeros_length))))
                    (case q3 => with_reducible exact winA_top _ _ _ _))
                 | ((refine' Ef_storeB (i := 0) rfl rfl ?q1 rfl ?q2 ?q3 ?_)
                    (case q1 => exact siz_of rfl)
                    (case q2 =>
                       ((with_reducible refine' winA_lt3 _ _ _ _ ?q1)
                        (case q1 =>
                           first
                           | with_reducible assumption
                           | with_reducible exact Win.zeros_length
                           | (rw [Win.clrTo_length]; with_reducible assumption)
                           | (rw [Win.clrTo_length]; with_reducible exact Win.zeros_length)
                           | (rw [List.length_set, Win.clrTo_length]; with_reducible assumption)
                           | (rw [List.length_set, Win.clrTo_length]; with_reducible exact Win.zeros_length))))
                    (case q3 => with_reducible exact winA_came' _ _ _ _ _))
                 | ((refine' Ef_storeA (i := 0) rfl rfl ?q1 ?q2 rfl ?q3 ?_)
                    (case q1 =>
                       ((with_reducible refine' siz_38.trans (congrArg some (winA_size _ _ _ ?q1).symm))
                        (case q1 =>
                           first
                           | with_reducible assumption
                           | with_reducible exact Win.zeros_length
                           | (rw [Win.clrTo_length]; with_reducible assumption)
                           | (rw [Win.clrTo_length]; with_reducible exact Win.zeros_length)
                           | (rw [List.length_set, Win.clrTo_length]; with_reducible assumption)
                           | (rw [List.length_set, Win.clrTo_length]; with_reducible exact Win.zeros_length))))
                    (case q2 => with_reducible exact winA_all _ _ _)
                    (case q3 =>
                       first
                       | ((with_reducible refine' zw_size.trans (winA_size _ _ _ ?q1).symm)
                          (case q1 =>
                             first
                             | with_reducible assumption
                             | with_reducible exact Win.zeros_length
                             | (rw [Win.clrTo_length]; with_reducible assumption)
                             | (rw [Win.clrTo_length]; with_reducible exact Win.zeros_length)
                             | (rw [List.length_set, Win.clrTo_length]; with_reducible assumption)
                             | (rw [List.length_set, Win.clrTo_length]; with_reducible exact Win.zeros_length)))
                       | ((with_reducible refine' (winA_size _ _ _ ?q1).trans (winA_size _ _ _ ?q2).symm)
                          (case q1 =>
                             first
                             | with_reducible assumption
                             | with_reducible exact Win.zeros_length
                             | (rw [Win.clrTo_length]; with_reducible assumption)
                             | (rw [Win.clrTo_length]; with_reducible exact Win.zeros_length)
                             | (rw [List.length_set, Win.clrTo_length]; with_reducible assumption)
                             | (rw [List.length_set, Win.clrTo_length]; with_reducible exact Win.zeros_length))
                          (case q2 =>
                             first
                             | with_reducible assumption
                             | with_reducible exact Win.zeros_length
                             | (rw [Win.clrTo_length]; with_reducible assumption)
                             | (rw [Win.clrTo_length]; with_reducible exact Win.zeros_length)
                             | (rw [List.length_set, Win.clrTo_length]; with_reducible assumption)
                             | (rw [List.length_set, Win.clrTo_length]; with_reducible exact Win.zeros_length)))))
                 | ((refine' Ef_storeA (i := 1) rfl rfl ?q1 ?q2 rfl ?q3 ?_)
                    (case q1 =>
                       ((with_reducible refine' siz_38.trans (congrArg some (winA_size _ _ _ ?q1).symm))
                        (case q1 =>
                           first
                           | with_reducible assumption
                           | with_reducible exact Win.zeros_length
                           | (rw [Win.clrTo_length]; with_reducible assumption)
                           | (rw [Win.clrTo_length]; with_reducible exact Win.zeros_length)
                           | (rw [List.length_set, Win.clrTo_length]; with_reducible assumption)
                           | (rw [List.length_set, Win.clrTo_length]; with_reducible exact Win.zeros_length))))
                    (case q2 => with_reducible exact winA_all _ _ _)
                    (case q3 =>
                       first
                       | ((with_reducible refine' zw_size.trans (winA_size _ _ _ ?q1).symm)
                          (case q1 =>
                             first
                             | with_reducible assumption
                             | with_reducible exact Win.zeros_length
                             | (rw [Win.clrTo_length]; with_reducible assumption)
                             | (rw [Win.clrTo_length]; with_reducible exact Win.zeros_length)
                             | (rw [List.length_set, Win.clrTo_length]; with_reducible assumption)
                             | (rw [List.length_set, Win.clrTo_length]; with_reducible exact Win.zeros_length)))
                       | ((with_reducible refine' (winA_size _ _ _ ?q1).trans (winA_size _ _ _ ?q2).symm)
                          (case q1 =>
                             first
                             | with_reducible assumption
                             | with_reducible exact Win.zeros_length
                             | (rw [Win.clrTo_length]; with_reducible assumption)
                             | (rw [Win.clrTo_length]; with_reducible exact Win.zeros_length)
                             | (rw [List.length_set, Win.clrTo_length]; with_reducible assumption)
                             | (rw [List.length_set, Win.clrTo_length]; with_reducible exact Win.zeros_length))
                          (case q2 =>
                             first
                             | with_reducible assumption
                             | with_reducible exact Win.zeros_length
                             | (rw [Win.clrTo_length]; with_reducible assumption)
                             | (rw [Win.clrTo_length]; with_reducible exact Win.zeros_length)
                             | (rw [List.length_set, Win.clrTo_length]; with_reducible assumption)
                             | (rw [List.length_set, Win.clrTo_length]; with_reducible exact Win.zeros_length)))))
                 | ((refine' Ef_storeM (i := 0) rfl rfl ?q1 ?q2 rfl ?q3 ?q4 ?_)
                    (case q1 => kernel_rfl)
                    (case q2 => with_reducible exact zeros_all)
                    (case q3 =>
                       ((with_reducible refine' winA_le _ _ _ ?q1)
                        (case q1 =>
                           first
                           | with_reducible assumption
                           | with_reducible exact Win.zeros_length
                           | (rw [Win.clrTo_length]; with_reducible assumption)
                           | (rw [Win.clrTo_length]; with_reducible exact Win.zeros_length)
                           | (rw [List.length_set, Win.clrTo_length]; with_reducible assumption)
                           | (rw [List.length_set, Win.clrTo_length]; with_reducible exact Win.zeros_length))))
                    (case q4 =>
                       ((with_reducible refine' winA_zeros _ _ _ ?q1)
                        (case q1 =>
                           first
                           | with_reducible assumption
                           | with_reducible exact Win.zeros_length
                           | (rw [Win.clrTo_length]; with_reducible assumption)
                           | (rw [Win.clrTo_length]; with_reducible exact Win.zeros_length)
                           | (rw [List.length_set, Win.clrTo_length]; with_reducible assumption)
                           | (rw [List.length_set, Win.clrTo_length]; with_reducible exact Win.zeros_length)))))
                 | ((refine' Ef_storeC rfl rfl ?q1 ?q2 ?q3 ?q4 ?q5 ?_)
                    (case q1 => rfl)
                    (case q2 => exact siz_of rfl)
                    (case q3 => (first | exact at0 | exact at1 | exact at2 | exact at3 | exact at4 | exact at5 | exact at6))
                    (case q4 => exact Nat.le_of_ble_eq_true rfl)
                    (case q5 => rfl))))
              | ((with_reducible refine ie_callf ?_); (first | fail))
              | ((with_reducible refine ie_app ?_)
                 (first
                 | (refine Ef_alloc rfl Zw ?_
                    (first
                    | ((fail_if_success have := b1); intro b1)
                    | ((fail_if_success have := b2); intro b2)
                    | ((fail_if_success have := b3); intro b3)
                    | ((fail_if_success have := b4); intro b4)
                    | ((fail_if_success have := b5); intro b5)
                    | ((fail_if_success have := b6); intro b6)
                    | ((fail_if_success have := b7); intro b7)
                    | ((fail_if_success have := b8); intro b8)
                    | ((fail_if_success have := b9); intro b9)))
                 | (((refine' Ef_append_row rfl rfl rfl ?q1 ?q2 ?q3 ?q4 ?q5 ?q6 ?_)
                     (case q1 => exact app_of rfl)
                     (case q2 => (first | exact at0 | exact at1 | exact at2 | exact at3 | exact at4 | exact at5 | exact at6))
                     (case q3 => (repeat (first | exact .head _ | apply List.Mem.tail)))
                     (case q4 => (first | assumption | (intro u hu; rcases hu with _ | ⟨_, _ | ⟨_, _ | ⟨_, _ | ⟨_, hu⟩⟩⟩⟩ <;> first | rfl | (cases hu; done))))
                     (case q5 => omega)
                     (case q6 => omega))
                    (first
                    | ((fail_if_success have := A1); intro A1 c1)
                    | ((fail_if_success have := A2); intro A2 c2)
                    | ((fail_if_success have := A3); intro A3 c3)
                    | ((fail_if_success have := A4); intro A4 c4)
                    | ((fail_if_success have := A5); intro A5 c5)
                    | ((fail_if_success have := A6); intro A6 c6)
                    | ((fail_if_success have := A7); intro A7 c7)))
                 | (((refine' Ef_append_rd rfl rfl rfl ?q1 ?q2 ?q3 List.not_mem_nil ?q4 ?q5 ?q6 ?q7 ?_)
                     (case q1 => exact app_of rfl)
                     (case q2 => (first | exact at0 | exact at1 | exact at2 | exact at3 | exact at4 | exact at5 | exact at6))
                     (case q3 => assumption)
                     (case q4 => omega)
                     (case q5 => (first | assumption | (intro u hu; rcases hu with _ | ⟨_, _ | ⟨_, _ | ⟨_, _ | ⟨_, hu⟩⟩⟩⟩ <;> first | rfl | (cases hu; done))))
                     (case q6 => omega)
                     (case q7 => omega))
                    (first
                    | ((fail_if_success have := A1); intro A1 c1)
                    | ((fail_if_success have := A2); intro A2 c2)
                    | ((fail_if_success have := A3); intro A3 c3)
                    | ((fail_if_success have := A4); intro A4 c4)
                    | ((fail_if_success have := A5); intro A5 c5)
                    | ((fail_if_success have := A6); intro A6 c6)
                    | ((fail_if_success have := A7); intro A7 c7)))))
              | ((with_reducible refine ie_bsl ?_)
                 (first
                 | (refine Ef_alloc rfl Zw ?_
                    (first
                    | ((fail_if_success have := b1); intro b1)
                    | ((fail_if_success have := b2); intro b2)
                    | ((fail_if_success have := b3); intro b3)
                    | ((fail_if_success have := b4); intro b4)
                    | ((fail_if_success have := b5); intro b5)
                    | ((fail_if_success have := b6); intro b6)
                    | ((fail_if_success have := b7); intro b7)
                    | ((fail_if_success have := b8); intro b8)
                    | ((fail_if_success have := b9); intro b9)))
                 | (((refine' Ef_bslA rfl rfl ?q1 ?q2 ?q3 ?_); (case q1 => exact app_of rfl); (case q2 => rfl); (case q3 => decide))
                    (first
                    | ((fail_if_success have := b1); intro b1)
                    | ((fail_if_success have := b2); intro b2)
                    | ((fail_if_success have := b3); intro b3)
                    | ((fail_if_success have := b4); intro b4)
                    | ((fail_if_success have := b5); intro b5)
                    | ((fail_if_success have := b6); intro b6)
                    | ((fail_if_success have := b7); intro b7)
                    | ((fail_if_success have := b8); intro b8)
                    | ((fail_if_success have := b9); intro b9)))
                 | (((refine' Ef_bsl1 rfl rfl rfl ?q1 ?_); (case q1 => exact app_of rfl))
                    (first
                    | ((fail_if_success have := b1); intro b1)
                    | ((fail_if_success have := b2); intro b2)
                    | ((fail_if_success have := b3); intro b3)
                    | ((fail_if_success have := b4); intro b4)
                    | ((fail_if_success have := b5); intro b5)
                    | ((fail_if_success have := b6); intro b6)
                    | ((fail_if_success have := b7); intro b7)
                    | ((fail_if_success have := b8); intro b8)
                    | ((fail_if_success have := b9); intro b9)))))
              | (first
                | (refine Ef_alloc rfl Zw ?_
                   (first
                   | ((fail_if_success have := b1); intro b1)
                   | ((fail_if_success have := b2); intro b2)
                   | ((fail_if_success have := b3); intro b3)
                   | ((fail_if_success have := b4); intro b4)
                   | ((fail_if_success have := b5); intro b5)
                   | ((fail_if_success have := b6); intro b6)
                   | ((fail_if_success have := b7); intro b7)
                   | ((fail_if_success have := b8); intro b8)
                   | ((fail_if_success have := b9); intro b9))))
              | refine Ef_y rfl rfl ?_)
      all_goals first
        | (with_reducible refine loopQ_n (j + 1, t + 1) ?_ ?_ ?_ ?_
           · (repeat (first | exact Sub.nil | refine Sub.cons rfl ?_))
           · subst e1; (repeat (first | exact List.nil_sublist _ | refine List.Sublist.cons_cons _ ?_ | refine List.Sublist.cons _ ?_))
           · exact ⟨by dsimp only; omega, by dsimp only; omega⟩
           · dsimp only; omega)
        | (((refine' ret_n [] (resC rfl rfl ?q1 ?q2) (List.nil_sublist _) ⟨?_, rfl⟩); (case q1 => (repeat (first | exact .head _ | apply List.Mem.tail))); (case q2 => ((with_reducible refine' agg_38.trans (congrArg some (winA_size _ _ _ ?q1).symm)); (case q1 => first | with_reducible assumption | with_reducible exact Win.zeros_length | (rw [Win.clrTo_length]; with_reducible assumption) | (rw [Win.clrTo_length]; with_reducible exact Win.zeros_length) | (rw [List.length_set, Win.clrTo_length]; with_reducible assumption) | (rw [List.length_set, Win.clrTo_length]; with_reducible exact Win.zeros_length)))))
           rw [e]
           have e3 : j = (n - n).toNat := by omega
           have e4 : t = max n n := by omega
           rw [e3, e4])
  · have e : Win.after s boot n = ⟨boot, max 0 n, (Win.clrTo 0 Win.zeros (n - 0).toNat).set (Win.idx n) true⟩ := by
      unfold Win.after
      rw [if_neg (by omega)]
      first | rw [if_pos (show s.boot < boot by assumption)] | rw [if_neg (show ¬ s.boot < boot by assumption)]
      dsimp only
      rw [if_neg (by rintro (h | ⟨h, h'⟩) <;> first | omega | (rw [Win.zeros_getD] at h'; cases h') | (rw [show Win.zeros.getD (Win.idx n) false = false by assumption] at h'; cases h'))]
      first | rw [if_pos (by omega)] | rw [if_neg (by omega)]
      try (congr 1; omega)
    refine T.loop (α := Nat × Int) (fun _ => [(2, .int .i64 n), (6, .pointer (some ⟨b2, 0, none⟩)), (7, .pointer (some ⟨b3, 0, none⟩))]) (fun x => [.blk b3 (.cells (winA boot x.2 (Win.clrTo 0 Win.zeros x.1)) 38), .blk b2 (.cells zw 38)]) (fun x => x.2 = 0 + x.1 ∧ x.1 ≤ (n - 0).toNat) (fun x => (n - 0).toNat - x.1) (0, 0) ?_ ?_ ?_ ?_
    · (repeat (first | exact Sub.nil | refine Sub.cons rfl ?_))
    · (repeat (first | exact List.nil_sublist _ | refine List.Sublist.cons_cons _ ?_ | refine List.Sublist.cons _ ?_))
    · exact ⟨by simp, by omega⟩
    · rintro ⟨j, t⟩ ⟨e1, e2⟩
      dsimp only at e1 e2 ⊢
      repeat' (first
              | with_reducible refine T.seq ?_
              | with_reducible refine T.block ?_
              | with_reducible refine T.region ?_
              | with_reducible refine T.skip ?_
              | with_reducible refine T.ret ?_
              | with_reducible refine T.exit ?_
              | with_reducible refine seqQ_n ?_
              | with_reducible refine seqQ_x ?_
              | with_reducible refine seqQ_r ?_
              | with_reducible refine blockQ_n ?_
              | with_reducible refine blockQ_r ?_
              | with_reducible refine blockQ_x ?_
              | ((with_reducible refine g_blkx ?_); refine blockQ_y rfl ?_)
              | with_reducible refine loopQ_x ?_
              | with_reducible refine loopQ_r ?_
              | ((with_reducible refine g_cond ?_); (first | refine T.cond_t rfl ?_ | refine T.cond_f rfl ?_ | (refine T.cond_s rfl ?_ ?_ <;> intro hc)))
              | with_reducible refine TL_nil ?_
              | with_reducible refine TS_nil ?_
              | ((with_reducible refine g_draw ?_); (first | fail))
              | ((with_reducible refine TL_y' ?hy ?hd ?_); (case hy => rfl); (case hd => rfl))
              | with_reducible refine TL_e ?_
              | ((with_reducible refine g_TL ?_); (first | refine TL_gy' rfl rfl rfl rfl ?_ | refine TL_gn rfl rfl rfl ?_ | refine TL_gu rfl rfl rfl ?_ | refine TL_ge rfl rfl ?_ | refine TL_gn0 rfl rfl ?_))
              | ((with_reducible refine g_TS ?_)
                 (first
                 | refine TS_y rfl rfl ?_
                 | refine TS_e rfl ?_
                 | refine TS_gy rfl rfl rfl rfl ?_
                 | refine TS_gn rfl rfl rfl rfl ?_
                 | refine TS_gu rfl rfl rfl rfl ?_
                 | refine TS_ge rfl rfl rfl ?_
                 | refine TS_gne rfl rfl rfl rfl ?_
                 | refine TS_gue rfl rfl rfl rfl ?_
                 | refine TS_gne0 rfl rfl rfl ?_))
              | ((with_reducible refine TSand ?hd ?_); (case hd => (repeat (first | exact List.nil_sublist _ | refine List.Sublist.cons_cons _ ?_ | refine List.Sublist.cons _ ?_))))
              | ((with_reducible refine is_move ?_); refine ⟨_, Yl_move rfl, ?_⟩)
              | ((with_reducible refine is_assign ?_); refine ⟨_, Yl_assign rfl, ?_⟩)
              | ((with_reducible refine is_pick ?_); (first | refine ⟨_, Yl_pick_t rfl rfl, ?_⟩ | refine ⟨_, Yl_pick_f rfl rfl, ?_⟩))
              | ((with_reducible refine is_nil ?_); refine ⟨_, Yl_nilCheck rfl, ?_⟩)
              | ((with_reducible refine is_fld ?_)
                 (first | ((refine' ⟨_, Yl_fld_blk0 rfl ?q1, ?_⟩); (case q1 => exact fld_of rfl rfl)) | ((refine' ⟨_, Yl_fld_blk rfl ?q1, ?_⟩); (case q1 => exact fld_of rfl rfl)) | ((refine' ⟨_, Yl_fld_ad rfl ?q1, ?_⟩); (case q1 => exact fld_of rfl rfl))))
              | ((with_reducible refine is_load ?_)
                 (first
                 | ((refine' ⟨_, Yl_load_blk rfl ?q1 ?q2 ?q3, ?_⟩)
                    (case q1 => exact one_of rfl)
                    (case q2 => (repeat (first | exact .head _ | apply List.Mem.tail)))
                    (case q3 =>
                       first
                       | with_reducible exact winA_1 _ _ _
                       | with_reducible exact winA_2 _ _ _
                       | with_reducible exact winA_3z _ _ _
                       | ((with_reducible refine' winA_3' _ _ _ _ ?q1)
                          (case q1 =>
                             first
                             | with_reducible assumption
                             | with_reducible exact Win.zeros_length
                             | (rw [Win.clrTo_length]; with_reducible assumption)
                             | (rw [Win.clrTo_length]; with_reducible exact Win.zeros_length)
                             | (rw [List.length_set, Win.clrTo_length]; with_reducible assumption)
                             | (rw [List.length_set, Win.clrTo_length]; with_reducible exact Win.zeros_length)))))
                 | ((refine' ⟨_, Yl_loadA_blk rfl ?q1 ?q2, ?_⟩)
                    (case q1 => (repeat (first | exact .head _ | apply List.Mem.tail)))
                    (case q2 =>
                       ((with_reducible refine' agg_38.trans (congrArg some (winA_size _ _ _ ?q1).symm))
                        (case q1 =>
                           first
                           | with_reducible assumption
                           | with_reducible exact Win.zeros_length
                           | (rw [Win.clrTo_length]; with_reducible assumption)
                           | (rw [Win.clrTo_length]; with_reducible exact Win.zeros_length)
                           | (rw [List.length_set, Win.clrTo_length]; with_reducible assumption)
                           | (rw [List.length_set, Win.clrTo_length]; with_reducible exact Win.zeros_length)))))
                 | ((refine' ⟨_, Yl_load_blk rfl ?q1 ?q2 ?q3, ?_⟩); (case q1 => exact one_of rfl); (case q2 => (repeat (first | exact .head _ | apply List.Mem.tail))); (case q3 => rfl))
                 | ((refine' ⟨_, Yl_loadA_blk rfl ?q1 ?q2, ?_⟩); (case q1 => (repeat (first | exact .head _ | apply List.Mem.tail))); (case q2 => exact agg_of rfl))
                 | ((refine' ⟨_, Yl_load_blk rfl ?q1 ?q2 ?q3, ?_⟩); (case q1 => exact one_of rfl); (case q2 => (repeat (first | exact .head _ | apply List.Mem.tail))); (case q3 => assumption))
                 | ((refine' ⟨_, Yl_load_rd rfl ?q1 ?q2 List.not_mem_nil ?q3, ?_⟩); (case q1 => exact one_of rfl); (case q2 => assumption); (case q3 => assumption))
                 | ((refine' ⟨_, Yl_load_row rfl ?q1 ?q2 ?q3, ?_⟩); (case q1 => exact one_of rfl); (case q2 => (repeat (first | exact .head _ | apply List.Mem.tail))); (case q3 => assumption))
                 | ((refine' ⟨_, Yl_loadA_rd rfl ?qa ?qb List.not_mem_nil ?ql ?qc, ?_⟩); (case qa => exact agg_of rfl); (case qb => assumption); (case qc => assumption); (case ql => rfl))
                 | ((refine' ⟨_, Yl_loadA_row rfl ?qa ?qb ?ql ?qc, ?_⟩); (case qa => exact agg_of rfl); (case qb => (repeat (first | exact .head _ | apply List.Mem.tail))); (case qc => assumption); (case ql => rfl))))
              | ((with_reducible refine is_idx ?_)
                 (first
                 | ((refine' ⟨_, Yl_index_arrI rfl rfl Try.underlying34 ?q1 ?q2 ?q3, ?_⟩); (case q1 => exact siz_of rfl); (case q2 => omega); (case q3 => omega))
                 | ((refine' ⟨_, Yl_index rfl rfl ?q1 ?q2 ?q3 (Rd.some_ ?q4 ?q5), ?_⟩); (case q1 => fail); (case q2 => exact siz_of rfl); (case q3 => omega); (case q4 => assumption); (case q5 => omega))
                 | ((refine' ⟨_, Yl_index_row rfl rfl ?q1 ?q2 ?q3 ?q4, ?_⟩); (case q1 => fail); (case q2 => exact siz_of rfl); (case q3 => omega); (case q4 => (repeat (first | exact .head _ | apply List.Mem.tail))))
                 | ((refine' ⟨_, Yl_index rfl rfl ?q1 ?q2 ?q3 rfl, ?_⟩); (case q1 => fail); (case q2 => exact siz_of rfl); (case q3 => omega))))
              | ((with_reducible refine is_ext ?_); refine ⟨_, Yl_extract rfl rfl, ?_⟩)
              | ((with_reducible refine is_un ?_); refine ⟨_, Yl_not rfl, ?_⟩)
              | ((with_reducible refine is_len ?_); (first | ((refine' ⟨_, Yl_len_slice rfl ?q1, ?_⟩); (case q1 => fail)) | ((refine' ⟨_, Yl_len_string rfl ?q1, ?_⟩); (case q1 => fail))))
              | ((with_reducible refine is_b_lss ?_); (first | ((refine' ⟨_, Yl_lss_t rfl rfl ?q1, ?_⟩); (case q1 => omega)) | ((refine' ⟨_, Yl_lss_f rfl rfl ?q1, ?_⟩); (case q1 => omega)) | (refine sp_lss rfl rfl ?_ ?_ <;> intro hc)))
              | ((with_reducible refine is_b_leq ?_); (first | ((refine' ⟨_, Yl_leq_t rfl rfl ?q1, ?_⟩); (case q1 => omega)) | ((refine' ⟨_, Yl_leq_f rfl rfl ?q1, ?_⟩); (case q1 => omega)) | (refine sp_leq rfl rfl ?_ ?_ <;> intro hc)))
              | ((with_reducible refine is_b_gtr ?_); (first | ((refine' ⟨_, Yl_gtr_t rfl rfl ?q1, ?_⟩); (case q1 => omega)) | ((refine' ⟨_, Yl_gtr_f rfl rfl ?q1, ?_⟩); (case q1 => omega)) | (refine sp_gtr rfl rfl ?_ ?_ <;> intro hc)))
              | ((with_reducible refine is_b_geq ?_); (first | ((refine' ⟨_, Yl_geq_t rfl rfl ?q1, ?_⟩); (case q1 => omega)) | ((refine' ⟨_, Yl_geq_f rfl rfl ?q1, ?_⟩); (case q1 => omega)) | (refine sp_geq rfl rfl ?_ ?_ <;> intro hc)))
              | ((with_reducible refine is_b_eql ?_)
                 (first
                 | ((refine' ⟨_, Yl_eql_t rfl rfl ?q1, ?_⟩); (case q1 => omega))
                 | ((refine' ⟨_, Yl_eql_f rfl rfl ?q1, ?_⟩); (case q1 => omega))
                 | (refine sp_eql rfl rfl ?_ ?_ <;> intro hc)
                 | ((refine' ⟨_, Yl_rem (m := 64) rfl rfl ?q1 ?q2, ?_⟩); (case q1 => omega); (case q2 => omega))))
              | ((with_reducible refine is_b_neq ?_)
                 (first
                 | ((refine' ⟨_, Yl_neq_t rfl rfl ?q1, ?_⟩); (case q1 => omega))
                 | ((refine' ⟨_, Yl_neq_f rfl rfl ?q1, ?_⟩); (case q1 => omega))
                 | (refine sp_neq rfl rfl ?_ ?_ <;> intro hc)
                 | ((refine' ⟨_, Yl_rem (m := 64) rfl rfl ?q1 ?q2, ?_⟩); (case q1 => omega); (case q2 => omega))))
              | ((with_reducible refine is_b_add ?_); (first | ((refine' ⟨_, Yl_add rfl rfl ?q1 ?q2, ?_⟩); (case q1 => omega); (case q2 => omega)) | ((refine' ⟨_, Yl_rem (m := 64) rfl rfl ?q1 ?q2, ?_⟩); (case q1 => omega); (case q2 => omega))))
              | ((with_reducible refine is_b_sub ?_); (first | ((refine' ⟨_, Yl_sub rfl rfl ?q1 ?q2, ?_⟩); (case q1 => omega); (case q2 => omega)) | ((refine' ⟨_, Yl_rem (m := 64) rfl rfl ?q1 ?q2, ?_⟩); (case q1 => omega); (case q2 => omega))))
              | ((with_reducible refine is_build ?_); (first | ((refine' ⟨_, Yl_build rfl ?q1, ?_⟩); (case q1 => with_reducible exact winA_new _)) | ((refine' ⟨_, Yl_build rfl ?q1, ?_⟩); (case q1 => with_reducible exact arr_new))))
              | (first | ((refine' ⟨_, Yl_rem (m := 64) rfl rfl ?q1 ?q2, ?_⟩); (case q1 => omega); (case q2 => omega)))
              | ((with_reducible refine ie_box ?_)
                 (first
                 | (refine Ef_boxA rfl rfl ?_
                    (first
                    | ((fail_if_success have := b1); intro b1)
                    | ((fail_if_success have := b2); intro b2)
                    | ((fail_if_success have := b3); intro b3)
                    | ((fail_if_success have := b4); intro b4)
                    | ((fail_if_success have := b5); intro b5)
                    | ((fail_if_success have := b6); intro b6)
                    | ((fail_if_success have := b7); intro b7)
                    | ((fail_if_success have := b8); intro b8)
                    | ((fail_if_success have := b9); intro b9)))
                 | (refine Ef_box1 rfl rfl rfl ?_
                    (first
                    | ((fail_if_success have := b1); intro b1)
                    | ((fail_if_success have := b2); intro b2)
                    | ((fail_if_success have := b3); intro b3)
                    | ((fail_if_success have := b4); intro b4)
                    | ((fail_if_success have := b5); intro b5)
                    | ((fail_if_success have := b6); intro b6)
                    | ((fail_if_success have := b7); intro b7)
                    | ((fail_if_success have := b8); intro b8)
                    | ((fail_if_success have := b9); intro b9)))))
              | ((with_reducible refine ie_alloc ?_)
                 (first
                 | (refine Ef_alloc rfl Zw ?_
                    (first
                    | ((fail_if_success have := b1); intro b1)
                    | ((fail_if_success have := b2); intro b2)
                    | ((fail_if_success have := b3); intro b3)
                    | ((fail_if_success have := b4); intro b4)
                    | ((fail_if_success have := b5); intro b5)
                    | ((fail_if_success have := b6); intro b6)
                    | ((fail_if_success have := b7); intro b7)
                    | ((fail_if_success have := b8); intro b8)
                    | ((fail_if_success have := b9); intro b9)))
                 | (((refine' Ef_alloc rfl ?q1 ?_); (case q1 => exact zer_of rfl))
                    (first
                    | ((fail_if_success have := b1); intro b1)
                    | ((fail_if_success have := b2); intro b2)
                    | ((fail_if_success have := b3); intro b3)
                    | ((fail_if_success have := b4); intro b4)
                    | ((fail_if_success have := b5); intro b5)
                    | ((fail_if_success have := b6); intro b6)
                    | ((fail_if_success have := b7); intro b7)
                    | ((fail_if_success have := b8); intro b8)
                    | ((fail_if_success have := b9); intro b9)))))
              | ((with_reducible refine ie_store ?_)
                 (first
                 | ((refine' Ef_storeI (i := 0) rfl rfl ?q1 rfl ?q2 ?q3 ?_)
                    (case q1 => exact siz_of rfl)
                    (case q2 =>
                       ((with_reducible refine' winA_lt2 _ _ _ ?q1)
                        (case q1 =>
                           first
                           | with_reducible assumption
                           | with_reducible exact Win.zeros_length
                           | (rw [Win.clrTo_length]; with_reducible assumption)
                           | (rw [Win.clrTo_length]; with_reducible exact Win.zeros_length)
                           | (rw [List.length_set, Win.clrTo_length]; with_reducible assumption)
                           | (rw [List.length_set, Win.clrTo_length]; with_reducible exact Win.zeros_length))))
                    (case q3 => with_reducible exact winA_top _ _ _ _))
                 | ((refine' Ef_storeB (i := 0) rfl rfl ?q1 rfl ?q2 ?q3 ?_)
                    (case q1 => exact siz_of rfl)
                    (case q2 =>
                       ((with_reducible refine' winA_lt3 _ _ _ _ ?q1)
                        (case q1 =>
                           first
                           | with_reducible assumption
                           | with_reducible exact Win.zeros_length
                           | (rw [Win.clrTo_length]; with_reducible assumption)
                           | (rw [Win.clrTo_length]; with_reducible exact Win.zeros_length)
                           | (rw [List.length_set, Win.clrTo_length]; with_reducible assumption)
                           | (rw [List.length_set, Win.clrTo_length]; with_reducible exact Win.zeros_length))))
                    (case q3 => with_reducible exact winA_came' _ _ _ _ _))
                 | ((refine' Ef_storeA (i := 0) rfl rfl ?q1 ?q2 rfl ?q3 ?_)
                    (case q1 =>
                       ((with_reducible refine' siz_38.trans (congrArg some (winA_size _ _ _ ?q1).symm))
                        (case q1 =>
                           first
                           | with_reducible assumption
                           | with_reducible exact Win.zeros_length
                           | (rw [Win.clrTo_length]; with_reducible assumption)
                           | (rw [Win.clrTo_length]; with_reducible exact Win.zeros_length)
                           | (rw [List.length_set, Win.clrTo_length]; with_reducible assumption)
                           | (rw [List.length_set, Win.clrTo_length]; with_reducible exact Win.zeros_length))))
                    (case q2 => with_reducible exact winA_all _ _ _)
                    (case q3 =>
                       first
                       | ((with_reducible refine' zw_size.trans (winA_size _ _ _ ?q1).symm)
                          (case q1 =>
                             first
                             | with_reducible assumption
                             | with_reducible exact Win.zeros_length
                             | (rw [Win.clrTo_length]; with_reducible assumption)
                             | (rw [Win.clrTo_length]; with_reducible exact Win.zeros_length)
                             | (rw [List.length_set, Win.clrTo_length]; with_reducible assumption)
                             | (rw [List.length_set, Win.clrTo_length]; with_reducible exact Win.zeros_length)))
                       | ((with_reducible refine' (winA_size _ _ _ ?q1).trans (winA_size _ _ _ ?q2).symm)
                          (case q1 =>
                             first
                             | with_reducible assumption
                             | with_reducible exact Win.zeros_length
                             | (rw [Win.clrTo_length]; with_reducible assumption)
                             | (rw [Win.clrTo_length]; with_reducible exact Win.zeros_length)
                             | (rw [List.length_set, Win.clrTo_length]; with_reducible assumption)
                             | (rw [List.length_set, Win.clrTo_length]; with_reducible exact Win.zeros_length))
                          (case q2 =>
                             first
                             | with_reducible assumption
                             | with_reducible exact Win.zeros_length
                             | (rw [Win.clrTo_length]; with_reducible assumption)
                             | (rw [Win.clrTo_length]; with_reducible exact Win.zeros_length)
                             | (rw [List.length_set, Win.clrTo_length]; with_reducible assumption)
                             | (rw [List.length_set, Win.clrTo_length]; with_reducible exact Win.zeros_length)))))
                 | ((refine' Ef_storeA (i := 1) rfl rfl ?q1 ?q2 rfl ?q3 ?_)
                    (case q1 =>
                       ((with_reducible refine' siz_38.trans (congrArg some (winA_size _ _ _ ?q1).symm))
                        (case q1 =>
                           first
                           | with_reducible assumption
                           | with_reducible exact Win.zeros_length
                           | (rw [Win.clrTo_length]; with_reducible assumption)
                           | (rw [Win.clrTo_length]; with_reducible exact Win.zeros_length)
                           | (rw [List.length_set, Win.clrTo_length]; with_reducible assumption)
                           | (rw [List.length_set, Win.clrTo_length]; with_reducible exact Win.zeros_length))))
                    (case q2 => with_reducible exact winA_all _ _ _)
                    (case q3 =>
                       first
                       | ((with_reducible refine' zw_size.trans (winA_size _ _ _ ?q1).symm)
                          (case q1 =>
                             first
                             | with_reducible assumption
                             | with_reducible exact Win.zeros_length
                             | (rw [Win.clrTo_length]; with_reducible assumption)
                             | (rw [Win.clrTo_length]; with_reducible exact Win.zeros_length)
                             | (rw [List.length_set, Win.clrTo_length]; with_reducible assumption)
                             | (rw [List.length_set, Win.clrTo_length]; with_reducible exact Win.zeros_length)))
                       | ((with_reducible refine' (winA_size _ _ _ ?q1).trans (winA_size _ _ _ ?q2).symm)
                          (case q1 =>
                             first
                             | with_reducible assumption
                             | with_reducible exact Win.zeros_length
                             | (rw [Win.clrTo_length]; with_reducible assumption)
                             | (rw [Win.clrTo_length]; with_reducible exact Win.zeros_length)
                             | (rw [List.length_set, Win.clrTo_length]; with_reducible assumption)
                             | (rw [List.length_set, Win.clrTo_length]; with_reducible exact Win.zeros_length))
                          (case q2 =>
                             first
                             | with_reducible assumption
                             | with_reducible exact Win.zeros_length
                             | (rw [Win.clrTo_length]; with_reducible assumption)
                             | (rw [Win.clrTo_length]; with_reducible exact Win.zeros_length)
                             | (rw [List.length_set, Win.clrTo_length]; with_reducible assumption)
                             | (rw [List.length_set, Win.clrTo_length]; with_reducible exact Win.zeros_length)))))
                 | ((refine' Ef_storeM (i := 0) rfl rfl ?q1 ?q2 rfl ?q3 ?q4 ?_)
                    (case q1 => kernel_rfl)
                    (case q2 => with_reducible exact zeros_all)
                    (case q3 =>
                       ((with_reducible refine' winA_le _ _ _ ?q1)
                        (case q1 =>
                           first
                           | with_reducible assumption
                           | with_reducible exact Win.zeros_length
                           | (rw [Win.clrTo_length]; with_reducible assumption)
                           | (rw [Win.clrTo_length]; with_reducible exact Win.zeros_length)
                           | (rw [List.length_set, Win.clrTo_length]; with_reducible assumption)
                           | (rw [List.length_set, Win.clrTo_length]; with_reducible exact Win.zeros_length))))
                    (case q4 =>
                       ((with_reducible refine' winA_zeros _ _ _ ?q1)
                        (case q1 =>
                           first
                           | with_reducible assumption
                           | with_reducible exact Win.zeros_length
                           | (rw [Win.clrTo_length]; with_reducible assumption)
                           | (rw [Win.clrTo_length]; with_reducible exact Win.zeros_length)
                           | (rw [List.length_set, Win.clrTo_length]; with_reducible assumption)
                           | (rw [List.length_set, Win.clrTo_length]; with_reducible exact Win.zeros_length)))))
                 | ((refine' Ef_storeC rfl rfl ?q1 ?q2 ?q3 ?q4 ?q5 ?_)
                    (case q1 => rfl)
                    (case q2 => exact siz_of rfl)
                    (case q3 => (first | exact at0 | exact at1 | exact at2 | exact at3 | exact at4 | exact at5 | exact at6))
                    (case q4 => exact Nat.le_of_ble_eq_true rfl)
                    (case q5 => rfl))))
              | ((with_reducible refine ie_callf ?_); (first | fail))
              | ((with_reducible refine ie_app ?_)
                 (first
                 | (refine Ef_alloc rfl Zw ?_
                    (first
                    | ((fail_if_success have := b1); intro b1)
                    | ((fail_if_success have := b2); intro b2)
                    | ((fail_if_success have := b3); intro b3)
                    | ((fail_if_success have := b4); intro b4)
                    | ((fail_if_success have := b5); intro b5)
                    | ((fail_if_success have := b6); intro b6)
                    | ((fail_if_success have := b7); intro b7)
                    | ((fail_if_success have := b8); intro b8)
                    | ((fail_if_success have := b9); intro b9)))
                 | (((refine' Ef_append_row rfl rfl rfl ?q1 ?q2 ?q3 ?q4 ?q5 ?q6 ?_)
                     (case q1 => exact app_of rfl)
                     (case q2 => (first | exact at0 | exact at1 | exact at2 | exact at3 | exact at4 | exact at5 | exact at6))
                     (case q3 => (repeat (first | exact .head _ | apply List.Mem.tail)))
                     (case q4 => (first | assumption | (intro u hu; rcases hu with _ | ⟨_, _ | ⟨_, _ | ⟨_, _ | ⟨_, hu⟩⟩⟩⟩ <;> first | rfl | (cases hu; done))))
                     (case q5 => omega)
                     (case q6 => omega))
                    (first
                    | ((fail_if_success have := A1); intro A1 c1)
                    | ((fail_if_success have := A2); intro A2 c2)
                    | ((fail_if_success have := A3); intro A3 c3)
                    | ((fail_if_success have := A4); intro A4 c4)
                    | ((fail_if_success have := A5); intro A5 c5)
                    | ((fail_if_success have := A6); intro A6 c6)
                    | ((fail_if_success have := A7); intro A7 c7)))
                 | (((refine' Ef_append_rd rfl rfl rfl ?q1 ?q2 ?q3 List.not_mem_nil ?q4 ?q5 ?q6 ?q7 ?_)
                     (case q1 => exact app_of rfl)
                     (case q2 => (first | exact at0 | exact at1 | exact at2 | exact at3 | exact at4 | exact at5 | exact at6))
                     (case q3 => assumption)
                     (case q4 => omega)
                     (case q5 => (first | assumption | (intro u hu; rcases hu with _ | ⟨_, _ | ⟨_, _ | ⟨_, _ | ⟨_, hu⟩⟩⟩⟩ <;> first | rfl | (cases hu; done))))
                     (case q6 => omega)
                     (case q7 => omega))
                    (first
                    | ((fail_if_success have := A1); intro A1 c1)
                    | ((fail_if_success have := A2); intro A2 c2)
                    | ((fail_if_success have := A3); intro A3 c3)
                    | ((fail_if_success have := A4); intro A4 c4)
                    | ((fail_if_success have := A5); intro A5 c5)
                    | ((fail_if_success have := A6); intro A6 c6)
                    | ((fail_if_success have := A7); intro A7 c7)))))
              | ((with_reducible refine ie_bsl ?_)
                 (first
                 | (refine Ef_alloc rfl Zw ?_
                    (first
                    | ((fail_if_success have := b1); intro b1)
                    | ((fail_if_success have := b2); intro b2)
                    | ((fail_if_success have := b3); intro b3)
                    | ((fail_if_success have := b4); intro b4)
                    | ((fail_if_success have := b5); intro b5)
                    | ((fail_if_success have := b6); intro b6)
                    | ((fail_if_success have := b7); intro b7)
                    | ((fail_if_success have := b8); intro b8)
                    | ((fail_if_success have := b9); intro b9)))
                 | (((refine' Ef_bslA rfl rfl ?q1 ?q2 ?q3 ?_); (case q1 => exact app_of rfl); (case q2 => rfl); (case q3 => decide))
                    (first
                    | ((fail_if_success have := b1); intro b1)
                    | ((fail_if_success have := b2); intro b2)
                    | ((fail_if_success have := b3); intro b3)
                    | ((fail_if_success have := b4); intro b4)
                    | ((fail_if_success have := b5); intro b5)
                    | ((fail_if_success have := b6); intro b6)
                    | ((fail_if_success have := b7); intro b7)
                    | ((fail_if_success have := b8); intro b8)
                    | ((fail_if_success have := b9); intro b9)))
                 | (((refine' Ef_bsl1 rfl rfl rfl ?q1 ?_); (case q1 => exact app_of rfl))
                    (first
                    | ((fail_if_success have := b1); intro b1)
                    | ((fail_if_success have := b2); intro b2)
                    | ((fail_if_success have := b3); intro b3)
                    | ((fail_if_success have := b4); intro b4)
                    | ((fail_if_success have := b5); intro b5)
                    | ((fail_if_success have := b6); intro b6)
                    | ((fail_if_success have := b7); intro b7)
                    | ((fail_if_success have := b8); intro b8)
                    | ((fail_if_success have := b9); intro b9)))))
              | (first
                | (refine Ef_alloc rfl Zw ?_
                   (first
                   | ((fail_if_success have := b1); intro b1)
                   | ((fail_if_success have := b2); intro b2)
                   | ((fail_if_success have := b3); intro b3)
                   | ((fail_if_success have := b4); intro b4)
                   | ((fail_if_success have := b5); intro b5)
                   | ((fail_if_success have := b6); intro b6)
                   | ((fail_if_success have := b7); intro b7)
                   | ((fail_if_success have := b8); intro b8)
                   | ((fail_if_success have := b9); intro b9))))
              | refine Ef_y rfl rfl ?_)
      all_goals first
        | (with_reducible refine loopQ_n (j + 1, t + 1) ?_ ?_ ?_ ?_
           · (repeat (first | exact Sub.nil | refine Sub.cons rfl ?_))
           · subst e1; (repeat (first | exact List.nil_sublist _ | refine List.Sublist.cons_cons _ ?_ | refine List.Sublist.cons _ ?_))
           · exact ⟨by dsimp only; omega, by dsimp only; omega⟩
           · dsimp only; omega)
        | (((refine' ret_n [] (resC rfl rfl ?q1 ?q2) (List.nil_sublist _) ⟨?_, rfl⟩); (case q1 => (repeat (first | exact .head _ | apply List.Mem.tail))); (case q2 => ((with_reducible refine' agg_38.trans (congrArg some (winA_size _ _ _ ?q1).symm)); (case q1 => first | with_reducible assumption | with_reducible exact Win.zeros_length | (rw [Win.clrTo_length]; with_reducible assumption) | (rw [Win.clrTo_length]; with_reducible exact Win.zeros_length) | (rw [List.length_set, Win.clrTo_length]; with_reducible assumption) | (rw [List.length_set, Win.clrTo_length]; with_reducible exact Win.zeros_length)))))
           rw [e]
           have e3 : j = (n - 0).toNat := by omega
           have e4 : t = max 0 n := by omega
           rw [e3, e4])
  · refine ret_n [] (resC rfl rfl (by (repeat (first | exact .head _ | apply List.Mem.tail))) (by with_reducible exact agg_38.trans (congrArg some (winA_size _ _ _ (by first | with_reducible assumption | with_reducible exact Win.zeros_length | (rw [Win.clrTo_length]; with_reducible assumption) | (rw [Win.clrTo_length]; with_reducible exact Win.zeros_length) | (rw [List.length_set, Win.clrTo_length]; with_reducible assumption) | (rw [List.length_set, Win.clrTo_length]; with_reducible exact Win.zeros_length))).symm))) (List.nil_sublist _) ⟨?_, rfl⟩
    by_cases hb : boot = s.boot
    · rw [Win.after_same s boot n (.inr (.inr ⟨hb, .inl (by assumption)⟩))]
    · omega
  · refine ret_n [] (resC rfl rfl (by (repeat (first | exact .head _ | apply List.Mem.tail))) (by with_reducible exact agg_38.trans (congrArg some (winA_size _ _ _ (by first | with_reducible assumption | with_reducible exact Win.zeros_length | (rw [Win.clrTo_length]; with_reducible assumption) | (rw [Win.clrTo_length]; with_reducible exact Win.zeros_length) | (rw [List.length_set, Win.clrTo_length]; with_reducible assumption) | (rw [List.length_set, Win.clrTo_length]; with_reducible exact Win.zeros_length))).symm))) (List.nil_sublist _) ⟨?_, rfl⟩
    by_cases hb : boot = s.boot
    · rw [Win.after_same s boot n (.inr (.inr ⟨hb, .inr ⟨by assumption, by assumption⟩⟩))]
    · omega
  · have e : Win.after s boot n = ⟨s.boot, max s.top n, (Win.clrTo s.top s.came (n - s.top).toNat).set (Win.idx n) true⟩ := by
      unfold Win.after
      rw [if_neg (by omega)]
      first | rw [if_pos (show s.boot < boot by assumption)] | rw [if_neg (show ¬ s.boot < boot by assumption)]
      dsimp only
      rw [if_neg (by rintro (h | ⟨h, h'⟩) <;> first | omega | (rw [Win.zeros_getD] at h'; cases h') | (rw [show s.came.getD (Win.idx n) false = false by assumption] at h'; cases h'))]
      first | rw [if_pos (by omega)] | rw [if_neg (by omega)]
      try (congr 1; omega)
    refine T.loop (α := Nat × Int) (fun _ => [(2, .int .i64 n), (6, .pointer (some ⟨b2, 0, none⟩)), (7, .pointer (some ⟨b3, 0, none⟩))]) (fun x => [.blk b3 (.cells (winA s.boot x.2 (Win.clrTo s.top s.came x.1)) 38), .blk b2 (.cells zw 38)]) (fun x => x.2 = s.top + x.1 ∧ x.1 ≤ (n - s.top).toNat) (fun x => (n - s.top).toNat - x.1) (0, s.top) ?_ ?_ ?_ ?_
    · (repeat (first | exact Sub.nil | refine Sub.cons rfl ?_))
    · (repeat (first | exact List.nil_sublist _ | refine List.Sublist.cons_cons _ ?_ | refine List.Sublist.cons _ ?_))
    · exact ⟨by simp, by omega⟩
    · rintro ⟨j, t⟩ ⟨e1, e2⟩
      dsimp only at e1 e2 ⊢
      repeat' (first
              | with_reducible refine T.seq ?_
              | with_reducible refine T.block ?_
              | with_reducible refine T.region ?_
              | with_reducible refine T.skip ?_
              | with_reducible refine T.ret ?_
              | with_reducible refine T.exit ?_
              | with_reducible refine seqQ_n ?_
              | with_reducible refine seqQ_x ?_
              | with_reducible refine seqQ_r ?_
              | with_reducible refine blockQ_n ?_
              | with_reducible refine blockQ_r ?_
              | with_reducible refine blockQ_x ?_
              | ((with_reducible refine g_blkx ?_); refine blockQ_y rfl ?_)
              | with_reducible refine loopQ_x ?_
              | with_reducible refine loopQ_r ?_
              | ((with_reducible refine g_cond ?_); (first | refine T.cond_t rfl ?_ | refine T.cond_f rfl ?_ | (refine T.cond_s rfl ?_ ?_ <;> intro hc)))
              | with_reducible refine TL_nil ?_
              | with_reducible refine TS_nil ?_
              | ((with_reducible refine g_draw ?_); (first | fail))
              | ((with_reducible refine TL_y' ?hy ?hd ?_); (case hy => rfl); (case hd => rfl))
              | with_reducible refine TL_e ?_
              | ((with_reducible refine g_TL ?_); (first | refine TL_gy' rfl rfl rfl rfl ?_ | refine TL_gn rfl rfl rfl ?_ | refine TL_gu rfl rfl rfl ?_ | refine TL_ge rfl rfl ?_ | refine TL_gn0 rfl rfl ?_))
              | ((with_reducible refine g_TS ?_)
                 (first
                 | refine TS_y rfl rfl ?_
                 | refine TS_e rfl ?_
                 | refine TS_gy rfl rfl rfl rfl ?_
                 | refine TS_gn rfl rfl rfl rfl ?_
                 | refine TS_gu rfl rfl rfl rfl ?_
                 | refine TS_ge rfl rfl rfl ?_
                 | refine TS_gne rfl rfl rfl rfl ?_
                 | refine TS_gue rfl rfl rfl rfl ?_
                 | refine TS_gne0 rfl rfl rfl ?_))
              | ((with_reducible refine TSand ?hd ?_); (case hd => (repeat (first | exact List.nil_sublist _ | refine List.Sublist.cons_cons _ ?_ | refine List.Sublist.cons _ ?_))))
              | ((with_reducible refine is_move ?_); refine ⟨_, Yl_move rfl, ?_⟩)
              | ((with_reducible refine is_assign ?_); refine ⟨_, Yl_assign rfl, ?_⟩)
              | ((with_reducible refine is_pick ?_); (first | refine ⟨_, Yl_pick_t rfl rfl, ?_⟩ | refine ⟨_, Yl_pick_f rfl rfl, ?_⟩))
              | ((with_reducible refine is_nil ?_); refine ⟨_, Yl_nilCheck rfl, ?_⟩)
              | ((with_reducible refine is_fld ?_)
                 (first | ((refine' ⟨_, Yl_fld_blk0 rfl ?q1, ?_⟩); (case q1 => exact fld_of rfl rfl)) | ((refine' ⟨_, Yl_fld_blk rfl ?q1, ?_⟩); (case q1 => exact fld_of rfl rfl)) | ((refine' ⟨_, Yl_fld_ad rfl ?q1, ?_⟩); (case q1 => exact fld_of rfl rfl))))
              | ((with_reducible refine is_load ?_)
                 (first
                 | ((refine' ⟨_, Yl_load_blk rfl ?q1 ?q2 ?q3, ?_⟩)
                    (case q1 => exact one_of rfl)
                    (case q2 => (repeat (first | exact .head _ | apply List.Mem.tail)))
                    (case q3 =>
                       first
                       | with_reducible exact winA_1 _ _ _
                       | with_reducible exact winA_2 _ _ _
                       | with_reducible exact winA_3z _ _ _
                       | ((with_reducible refine' winA_3' _ _ _ _ ?q1)
                          (case q1 =>
                             first
                             | with_reducible assumption
                             | with_reducible exact Win.zeros_length
                             | (rw [Win.clrTo_length]; with_reducible assumption)
                             | (rw [Win.clrTo_length]; with_reducible exact Win.zeros_length)
                             | (rw [List.length_set, Win.clrTo_length]; with_reducible assumption)
                             | (rw [List.length_set, Win.clrTo_length]; with_reducible exact Win.zeros_length)))))
                 | ((refine' ⟨_, Yl_loadA_blk rfl ?q1 ?q2, ?_⟩)
                    (case q1 => (repeat (first | exact .head _ | apply List.Mem.tail)))
                    (case q2 =>
                       ((with_reducible refine' agg_38.trans (congrArg some (winA_size _ _ _ ?q1).symm))
                        (case q1 =>
                           first
                           | with_reducible assumption
                           | with_reducible exact Win.zeros_length
                           | (rw [Win.clrTo_length]; with_reducible assumption)
                           | (rw [Win.clrTo_length]; with_reducible exact Win.zeros_length)
                           | (rw [List.length_set, Win.clrTo_length]; with_reducible assumption)
                           | (rw [List.length_set, Win.clrTo_length]; with_reducible exact Win.zeros_length)))))
                 | ((refine' ⟨_, Yl_load_blk rfl ?q1 ?q2 ?q3, ?_⟩); (case q1 => exact one_of rfl); (case q2 => (repeat (first | exact .head _ | apply List.Mem.tail))); (case q3 => rfl))
                 | ((refine' ⟨_, Yl_loadA_blk rfl ?q1 ?q2, ?_⟩); (case q1 => (repeat (first | exact .head _ | apply List.Mem.tail))); (case q2 => exact agg_of rfl))
                 | ((refine' ⟨_, Yl_load_blk rfl ?q1 ?q2 ?q3, ?_⟩); (case q1 => exact one_of rfl); (case q2 => (repeat (first | exact .head _ | apply List.Mem.tail))); (case q3 => assumption))
                 | ((refine' ⟨_, Yl_load_rd rfl ?q1 ?q2 List.not_mem_nil ?q3, ?_⟩); (case q1 => exact one_of rfl); (case q2 => assumption); (case q3 => assumption))
                 | ((refine' ⟨_, Yl_load_row rfl ?q1 ?q2 ?q3, ?_⟩); (case q1 => exact one_of rfl); (case q2 => (repeat (first | exact .head _ | apply List.Mem.tail))); (case q3 => assumption))
                 | ((refine' ⟨_, Yl_loadA_rd rfl ?qa ?qb List.not_mem_nil ?ql ?qc, ?_⟩); (case qa => exact agg_of rfl); (case qb => assumption); (case qc => assumption); (case ql => rfl))
                 | ((refine' ⟨_, Yl_loadA_row rfl ?qa ?qb ?ql ?qc, ?_⟩); (case qa => exact agg_of rfl); (case qb => (repeat (first | exact .head _ | apply List.Mem.tail))); (case qc => assumption); (case ql => rfl))))
              | ((with_reducible refine is_idx ?_)
                 (first
                 | ((refine' ⟨_, Yl_index_arrI rfl rfl Try.underlying34 ?q1 ?q2 ?q3, ?_⟩); (case q1 => exact siz_of rfl); (case q2 => omega); (case q3 => omega))
                 | ((refine' ⟨_, Yl_index rfl rfl ?q1 ?q2 ?q3 (Rd.some_ ?q4 ?q5), ?_⟩); (case q1 => fail); (case q2 => exact siz_of rfl); (case q3 => omega); (case q4 => assumption); (case q5 => omega))
                 | ((refine' ⟨_, Yl_index_row rfl rfl ?q1 ?q2 ?q3 ?q4, ?_⟩); (case q1 => fail); (case q2 => exact siz_of rfl); (case q3 => omega); (case q4 => (repeat (first | exact .head _ | apply List.Mem.tail))))
                 | ((refine' ⟨_, Yl_index rfl rfl ?q1 ?q2 ?q3 rfl, ?_⟩); (case q1 => fail); (case q2 => exact siz_of rfl); (case q3 => omega))))
              | ((with_reducible refine is_ext ?_); refine ⟨_, Yl_extract rfl rfl, ?_⟩)
              | ((with_reducible refine is_un ?_); refine ⟨_, Yl_not rfl, ?_⟩)
              | ((with_reducible refine is_len ?_); (first | ((refine' ⟨_, Yl_len_slice rfl ?q1, ?_⟩); (case q1 => fail)) | ((refine' ⟨_, Yl_len_string rfl ?q1, ?_⟩); (case q1 => fail))))
              | ((with_reducible refine is_b_lss ?_); (first | ((refine' ⟨_, Yl_lss_t rfl rfl ?q1, ?_⟩); (case q1 => omega)) | ((refine' ⟨_, Yl_lss_f rfl rfl ?q1, ?_⟩); (case q1 => omega)) | (refine sp_lss rfl rfl ?_ ?_ <;> intro hc)))
              | ((with_reducible refine is_b_leq ?_); (first | ((refine' ⟨_, Yl_leq_t rfl rfl ?q1, ?_⟩); (case q1 => omega)) | ((refine' ⟨_, Yl_leq_f rfl rfl ?q1, ?_⟩); (case q1 => omega)) | (refine sp_leq rfl rfl ?_ ?_ <;> intro hc)))
              | ((with_reducible refine is_b_gtr ?_); (first | ((refine' ⟨_, Yl_gtr_t rfl rfl ?q1, ?_⟩); (case q1 => omega)) | ((refine' ⟨_, Yl_gtr_f rfl rfl ?q1, ?_⟩); (case q1 => omega)) | (refine sp_gtr rfl rfl ?_ ?_ <;> intro hc)))
              | ((with_reducible refine is_b_geq ?_); (first | ((refine' ⟨_, Yl_geq_t rfl rfl ?q1, ?_⟩); (case q1 => omega)) | ((refine' ⟨_, Yl_geq_f rfl rfl ?q1, ?_⟩); (case q1 => omega)) | (refine sp_geq rfl rfl ?_ ?_ <;> intro hc)))
              | ((with_reducible refine is_b_eql ?_)
                 (first
                 | ((refine' ⟨_, Yl_eql_t rfl rfl ?q1, ?_⟩); (case q1 => omega))
                 | ((refine' ⟨_, Yl_eql_f rfl rfl ?q1, ?_⟩); (case q1 => omega))
                 | (refine sp_eql rfl rfl ?_ ?_ <;> intro hc)
                 | ((refine' ⟨_, Yl_rem (m := 64) rfl rfl ?q1 ?q2, ?_⟩); (case q1 => omega); (case q2 => omega))))
              | ((with_reducible refine is_b_neq ?_)
                 (first
                 | ((refine' ⟨_, Yl_neq_t rfl rfl ?q1, ?_⟩); (case q1 => omega))
                 | ((refine' ⟨_, Yl_neq_f rfl rfl ?q1, ?_⟩); (case q1 => omega))
                 | (refine sp_neq rfl rfl ?_ ?_ <;> intro hc)
                 | ((refine' ⟨_, Yl_rem (m := 64) rfl rfl ?q1 ?q2, ?_⟩); (case q1 => omega); (case q2 => omega))))
              | ((with_reducible refine is_b_add ?_); (first | ((refine' ⟨_, Yl_add rfl rfl ?q1 ?q2, ?_⟩); (case q1 => omega); (case q2 => omega)) | ((refine' ⟨_, Yl_rem (m := 64) rfl rfl ?q1 ?q2, ?_⟩); (case q1 => omega); (case q2 => omega))))
              | ((with_reducible refine is_b_sub ?_); (first | ((refine' ⟨_, Yl_sub rfl rfl ?q1 ?q2, ?_⟩); (case q1 => omega); (case q2 => omega)) | ((refine' ⟨_, Yl_rem (m := 64) rfl rfl ?q1 ?q2, ?_⟩); (case q1 => omega); (case q2 => omega))))
              | ((with_reducible refine is_build ?_); (first | ((refine' ⟨_, Yl_build rfl ?q1, ?_⟩); (case q1 => with_reducible exact winA_new _)) | ((refine' ⟨_, Yl_build rfl ?q1, ?_⟩); (case q1 => with_reducible exact arr_new))))
              | (first | ((refine' ⟨_, Yl_rem (m := 64) rfl rfl ?q1 ?q2, ?_⟩); (case q1 => omega); (case q2 => omega)))
              | ((with_reducible refine ie_box ?_)
                 (first
                 | (refine Ef_boxA rfl rfl ?_
                    (first
                    | ((fail_if_success have := b1); intro b1)
                    | ((fail_if_success have := b2); intro b2)
                    | ((fail_if_success have := b3); intro b3)
                    | ((fail_if_success have := b4); intro b4)
                    | ((fail_if_success have := b5); intro b5)
                    | ((fail_if_success have := b6); intro b6)
                    | ((fail_if_success have := b7); intro b7)
                    | ((fail_if_success have := b8); intro b8)
                    | ((fail_if_success have := b9); intro b9)))
                 | (refine Ef_box1 rfl rfl rfl ?_
                    (first
                    | ((fail_if_success have := b1); intro b1)
                    | ((fail_if_success have := b2); intro b2)
                    | ((fail_if_success have := b3); intro b3)
                    | ((fail_if_success have := b4); intro b4)
                    | ((fail_if_success have := b5); intro b5)
                    | ((fail_if_success have := b6); intro b6)
                    | ((fail_if_success have := b7); intro b7)
                    | ((fail_if_success have := b8); intro b8)
                    | ((fail_if_success have := b9); intro b9)))))
              | ((with_reducible refine ie_alloc ?_)
                 (first
                 | (refine Ef_alloc rfl Zw ?_
                    (first
                    | ((fail_if_success have := b1); intro b1)
                    | ((fail_if_success have := b2); intro b2)
                    | ((fail_if_success have := b3); intro b3)
                    | ((fail_if_success have := b4); intro b4)
                    | ((fail_if_success have := b5); intro b5)
                    | ((fail_if_success have := b6); intro b6)
                    | ((fail_if_success have := b7); intro b7)
                    | ((fail_if_success have := b8); intro b8)
                    | ((fail_if_success have := b9); intro b9)))
                 | (((refine' Ef_alloc rfl ?q1 ?_); (case q1 => exact zer_of rfl))
                    (first
                    | ((fail_if_success have := b1); intro b1)
                    | ((fail_if_success have := b2); intro b2)
                    | ((fail_if_success have := b3); intro b3)
                    | ((fail_if_success have := b4); intro b4)
                    | ((fail_if_success have := b5); intro b5)
                    | ((fail_if_success have := b6); intro b6)
                    | ((fail_if_success have := b7); intro b7)
                    | ((fail_if_success have := b8); intro b8)
                    | ((fail_if_success have := b9); intro b9)))))
              | ((with_reducible refine ie_store ?_)
                 (first
                 | ((refine' Ef_storeI (i := 0) rfl rfl ?q1 rfl ?q2 ?q3 ?_)
                    (case q1 => exact siz_of rfl)
                    (case q2 =>
                       ((with_reducible refine' winA_lt2 _ _ _ ?q1)
                        (case q1 =>
                           first
                           | with_reducible assumption
                           | with_reducible exact Win.zeros_length
                           | (rw [Win.clrTo_length]; with_reducible assumption)
                           | (rw [Win.clrTo_length]; with_reducible exact Win.zeros_length)
                           | (rw [List.length_set, Win.clrTo_length]; with_reducible assumption)
                           | (rw [List.length_set, Win.clrTo_length]; with_reducible exact Win.zeros_length))))
                    (case q3 => with_reducible exact winA_top _ _ _ _))
                 | ((refine' Ef_storeB (i := 0) rfl rfl ?q1 rfl ?q2 ?q3 ?_)
                    (case q1 => exact siz_of rfl)
                    (case q2 =>
                       ((with_reducible refine' winA_lt3 _ _ _ _ ?q1)
                        (case q1 =>
                           first
                           | with_reducible assumption
                           | with_reducible exact Win.zeros_length
                           | (rw [Win.clrTo_length]; with_reducible assumption)
                           | (rw [Win.clrTo_length]; with_reducible exact Win.zeros_length)
                           | (rw [List.length_set, Win.clrTo_length]; with_reducible assumption)
                           | (rw [List.length_set, Win.clrTo_length]; with_reducible exact Win.zeros_length))))
                    (case q3 => with_reducible exact winA_came' _ _ _ _ _))
                 | ((refine' Ef_storeA (i := 0) rfl rfl ?q1 ?q2 rfl ?q3 ?_)
                    (case q1 =>
                       ((with_reducible refine' siz_38.trans (congrArg some (winA_size _ _ _ ?q1).symm))
                        (case q1 =>
                           first
                           | with_reducible assumption
                           | with_reducible exact Win.zeros_length
                           | (rw [Win.clrTo_length]; with_reducible assumption)
                           | (rw [Win.clrTo_length]; with_reducible exact Win.zeros_length)
                           | (rw [List.length_set, Win.clrTo_length]; with_reducible assumption)
                           | (rw [List.length_set, Win.clrTo_length]; with_reducible exact Win.zeros_length))))
                    (case q2 => with_reducible exact winA_all _ _ _)
                    (case q3 =>
                       first
                       | ((with_reducible refine' zw_size.trans (winA_size _ _ _ ?q1).symm)
                          (case q1 =>
                             first
                             | with_reducible assumption
                             | with_reducible exact Win.zeros_length
                             | (rw [Win.clrTo_length]; with_reducible assumption)
                             | (rw [Win.clrTo_length]; with_reducible exact Win.zeros_length)
                             | (rw [List.length_set, Win.clrTo_length]; with_reducible assumption)
                             | (rw [List.length_set, Win.clrTo_length]; with_reducible exact Win.zeros_length)))
                       | ((with_reducible refine' (winA_size _ _ _ ?q1).trans (winA_size _ _ _ ?q2).symm)
                          (case q1 =>
                             first
                             | with_reducible assumption
                             | with_reducible exact Win.zeros_length
                             | (rw [Win.clrTo_length]; with_reducible assumption)
                             | (rw [Win.clrTo_length]; with_reducible exact Win.zeros_length)
                             | (rw [List.length_set, Win.clrTo_length]; with_reducible assumption)
                             | (rw [List.length_set, Win.clrTo_length]; with_reducible exact Win.zeros_length))
                          (case q2 =>
                             first
                             | with_reducible assumption
                             | with_reducible exact Win.zeros_length
                             | (rw [Win.clrTo_length]; with_reducible assumption)
                             | (rw [Win.clrTo_length]; with_reducible exact Win.zeros_length)
                             | (rw [List.length_set, Win.clrTo_length]; with_reducible assumption)
                             | (rw [List.length_set, Win.clrTo_length]; with_reducible exact Win.zeros_length)))))
                 | ((refine' Ef_storeA (i := 1) rfl rfl ?q1 ?q2 rfl ?q3 ?_)
                    (case q1 =>
                       ((with_reducible refine' siz_38.trans (congrArg some (winA_size _ _ _ ?q1).symm))
                        (case q1 =>
                           first
                           | with_reducible assumption
                           | with_reducible exact Win.zeros_length
                           | (rw [Win.clrTo_length]; with_reducible assumption)
                           | (rw [Win.clrTo_length]; with_reducible exact Win.zeros_length)
                           | (rw [List.length_set, Win.clrTo_length]; with_reducible assumption)
                           | (rw [List.length_set, Win.clrTo_length]; with_reducible exact Win.zeros_length))))
                    (case q2 => with_reducible exact winA_all _ _ _)
                    (case q3 =>
                       first
                       | ((with_reducible refine' zw_size.trans (winA_size _ _ _ ?q1).symm)
                          (case q1 =>
                             first
                             | with_reducible assumption
                             | with_reducible exact Win.zeros_length
                             | (rw [Win.clrTo_length]; with_reducible assumption)
                             | (rw [Win.clrTo_length]; with_reducible exact Win.zeros_length)
                             | (rw [List.length_set, Win.clrTo_length]; with_reducible assumption)
                             | (rw [List.length_set, Win.clrTo_length]; with_reducible exact Win.zeros_length)))
                       | ((with_reducible refine' (winA_size _ _ _ ?q1).trans (winA_size _ _ _ ?q2).symm)
                          (case q1 =>
                             first
                             | with_reducible assumption
                             | with_reducible exact Win.zeros_length
                             | (rw [Win.clrTo_length]; with_reducible assumption)
                             | (rw [Win.clrTo_length]; with_reducible exact Win.zeros_length)
                             | (rw [List.length_set, Win.clrTo_length]; with_reducible assumption)
                             | (rw [List.length_set, Win.clrTo_length]; with_reducible exact Win.zeros_length))
                          (case q2 =>
                             first
                             | with_reducible assumption
                             | with_reducible exact Win.zeros_length
                             | (rw [Win.clrTo_length]; with_reducible assumption)
                             | (rw [Win.clrTo_length]; with_reducible exact Win.zeros_length)
                             | (rw [List.length_set, Win.clrTo_length]; with_reducible assumption)
                             | (rw [List.length_set, Win.clrTo_length]; with_reducible exact Win.zeros_length)))))
                 | ((refine' Ef_storeM (i := 0) rfl rfl ?q1 ?q2 rfl ?q3 ?q4 ?_)
                    (case q1 => kernel_rfl)
                    (case q2 => with_reducible exact zeros_all)
                    (case q3 =>
                       ((with_reducible refine' winA_le _ _ _ ?q1)
                        (case q1 =>
                           first
                           | with_reducible assumption
                           | with_reducible exact Win.zeros_length
                           | (rw [Win.clrTo_length]; with_reducible assumption)
                           | (rw [Win.clrTo_length]; with_reducible exact Win.zeros_length)
                           | (rw [List.length_set, Win.clrTo_length]; with_reducible assumption)
                           | (rw [List.length_set, Win.clrTo_length]; with_reducible exact Win.zeros_length))))
                    (case q4 =>
                       ((with_reducible refine' winA_zeros _ _ _ ?q1)
                        (case q1 =>
                           first
                           | with_reducible assumption
                           | with_reducible exact Win.zeros_length
                           | (rw [Win.clrTo_length]; with_reducible assumption)
                           | (rw [Win.clrTo_length]; with_reducible exact Win.zeros_length)
                           | (rw [List.length_set, Win.clrTo_length]; with_reducible assumption)
                           | (rw [List.length_set, Win.clrTo_length]; with_reducible exact Win.zeros_length)))))
                 | ((refine' Ef_storeC rfl rfl ?q1 ?q2 ?q3 ?q4 ?q5 ?_)
                    (case q1 => rfl)
                    (case q2 => exact siz_of rfl)
                    (case q3 => (first | exact at0 | exact at1 | exact at2 | exact at3 | exact at4 | exact at5 | exact at6))
                    (case q4 => exact Nat.le_of_ble_eq_true rfl)
                    (case q5 => rfl))))
              | ((with_reducible refine ie_callf ?_); (first | fail))
              | ((with_reducible refine ie_app ?_)
                 (first
                 | (refine Ef_alloc rfl Zw ?_
                    (first
                    | ((fail_if_success have := b1); intro b1)
                    | ((fail_if_success have := b2); intro b2)
                    | ((fail_if_success have := b3); intro b3)
                    | ((fail_if_success have := b4); intro b4)
                    | ((fail_if_success have := b5); intro b5)
                    | ((fail_if_success have := b6); intro b6)
                    | ((fail_if_success have := b7); intro b7)
                    | ((fail_if_success have := b8); intro b8)
                    | ((fail_if_success have := b9); intro b9)))
                 | (((refine' Ef_append_row rfl rfl rfl ?q1 ?q2 ?q3 ?q4 ?q5 ?q6 ?_)
                     (case q1 => exact app_of rfl)
                     (case q2 => (first | exact at0 | exact at1 | exact at2 | exact at3 | exact at4 | exact at5 | exact at6))
                     (case q3 => (repeat (first | exact .head _ | apply List.Mem.tail)))
                     (case q4 => (first | assumption | (intro u hu; rcases hu with _ | ⟨_, _ | ⟨_, _ | ⟨_, _ | ⟨_, hu⟩⟩⟩⟩ <;> first | rfl | (cases hu; done))))
                     (case q5 => omega)
                     (case q6 => omega))
                    (first
                    | ((fail_if_success have := A1); intro A1 c1)
                    | ((fail_if_success have := A2); intro A2 c2)
                    | ((fail_if_success have := A3); intro A3 c3)
                    | ((fail_if_success have := A4); intro A4 c4)
                    | ((fail_if_success have := A5); intro A5 c5)
                    | ((fail_if_success have := A6); intro A6 c6)
                    | ((fail_if_success have := A7); intro A7 c7)))
                 | (((refine' Ef_append_rd rfl rfl rfl ?q1 ?q2 ?q3 List.not_mem_nil ?q4 ?q5 ?q6 ?q7 ?_)
                     (case q1 => exact app_of rfl)
                     (case q2 => (first | exact at0 | exact at1 | exact at2 | exact at3 | exact at4 | exact at5 | exact at6))
                     (case q3 => assumption)
                     (case q4 => omega)
                     (case q5 => (first | assumption | (intro u hu; rcases hu with _ | ⟨_, _ | ⟨_, _ | ⟨_, _ | ⟨_, hu⟩⟩⟩⟩ <;> first | rfl | (cases hu; done))))
                     (case q6 => omega)
                     (case q7 => omega))
                    (first
                    | ((fail_if_success have := A1); intro A1 c1)
                    | ((fail_if_success have := A2); intro A2 c2)
                    | ((fail_if_success have := A3); intro A3 c3)
                    | ((fail_if_success have := A4); intro A4 c4)
                    | ((fail_if_success have := A5); intro A5 c5)
                    | ((fail_if_success have := A6); intro A6 c6)
                    | ((fail_if_success have := A7); intro A7 c7)))))
              | ((with_reducible refine ie_bsl ?_)
                 (first
                 | (refine Ef_alloc rfl Zw ?_
                    (first
                    | ((fail_if_success have := b1); intro b1)
                    | ((fail_if_success have := b2); intro b2)
                    | ((fail_if_success have := b3); intro b3)
                    | ((fail_if_success have := b4); intro b4)
                    | ((fail_if_success have := b5); intro b5)
                    | ((fail_if_success have := b6); intro b6)
                    | ((fail_if_success have := b7); intro b7)
                    | ((fail_if_success have := b8); intro b8)
                    | ((fail_if_success have := b9); intro b9)))
                 | (((refine' Ef_bslA rfl rfl ?q1 ?q2 ?q3 ?_); (case q1 => exact app_of rfl); (case q2 => rfl); (case q3 => decide))
                    (first
                    | ((fail_if_success have := b1); intro b1)
                    | ((fail_if_success have := b2); intro b2)
                    | ((fail_if_success have := b3); intro b3)
                    | ((fail_if_success have := b4); intro b4)
                    | ((fail_if_success have := b5); intro b5)
                    | ((fail_if_success have := b6); intro b6)
                    | ((fail_if_success have := b7); intro b7)
                    | ((fail_if_success have := b8); intro b8)
                    | ((fail_if_success have := b9); intro b9)))
                 | (((refine' Ef_bsl1 rfl rfl rfl ?q1 ?_); (case q1 => exact app_of rfl))
                    (first
                    | ((fail_if_success have := b1); intro b1)
                    | ((fail_if_success have := b2); intro b2)
                    | ((fail_if_success have := b3); intro b3)
                    | ((fail_if_success have := b4); intro b4)
                    | ((fail_if_success have := b5); intro b5)
                    | ((fail_if_success have := b6); intro b6)
                    | ((fail_if_success have := b7); intro b7)
                    | ((fail_if_success have := b8); intro b8)
                    | ((fail_if_success have := b9); intro b9)))))
              | (first
                | (refine Ef_alloc rfl Zw ?_
                   (first
                   | ((fail_if_success have := b1); intro b1)
                   | ((fail_if_success have := b2); intro b2)
                   | ((fail_if_success have := b3); intro b3)
                   | ((fail_if_success have := b4); intro b4)
                   | ((fail_if_success have := b5); intro b5)
                   | ((fail_if_success have := b6); intro b6)
                   | ((fail_if_success have := b7); intro b7)
                   | ((fail_if_success have := b8); intro b8)
                   | ((fail_if_success have := b9); intro b9))))
              | refine Ef_y rfl rfl ?_)
      all_goals first
        | (with_reducible refine loopQ_n (j + 1, t + 1) ?_ ?_ ?_ ?_
           · (repeat (first | exact Sub.nil | refine Sub.cons rfl ?_))
           · subst e1; (repeat (first | exact List.nil_sublist _ | refine List.Sublist.cons_cons _ ?_ | refine List.Sublist.cons _ ?_))
           · exact ⟨by dsimp only; omega, by dsimp only; omega⟩
           · dsimp only; omega)
        | (((refine' ret_n [] (resC rfl rfl ?q1 ?q2) (List.nil_sublist _) ⟨?_, rfl⟩); (case q1 => (repeat (first | exact .head _ | apply List.Mem.tail))); (case q2 => ((with_reducible refine' agg_38.trans (congrArg some (winA_size _ _ _ ?q1).symm)); (case q1 => first | with_reducible assumption | with_reducible exact Win.zeros_length | (rw [Win.clrTo_length]; with_reducible assumption) | (rw [Win.clrTo_length]; with_reducible exact Win.zeros_length) | (rw [List.length_set, Win.clrTo_length]; with_reducible assumption) | (rw [List.length_set, Win.clrTo_length]; with_reducible exact Win.zeros_length)))))
           rw [e]
           have e3 : j = (n - s.top).toNat := by omega
           have e4 : t = max s.top n := by omega
           rw [e3, e4])
  · have e : Win.after s boot n = ⟨s.boot, max n n, (Win.clrTo n Win.zeros (n - n).toNat).set (Win.idx n) true⟩ := by
      unfold Win.after
      rw [if_neg (by omega)]
      first | rw [if_pos (show s.boot < boot by assumption)] | rw [if_neg (show ¬ s.boot < boot by assumption)]
      dsimp only
      rw [if_neg (by rintro (h | ⟨h, h'⟩) <;> first | omega | (rw [Win.zeros_getD] at h'; cases h') | (rw [show Win.zeros.getD (Win.idx n) false = false by assumption] at h'; cases h'))]
      first | rw [if_pos (by omega)] | rw [if_neg (by omega)]
      try (congr 1; omega)
    refine T.loop (α := Nat × Int) (fun _ => [(2, .int .i64 n), (6, .pointer (some ⟨b2, 0, none⟩)), (7, .pointer (some ⟨b3, 0, none⟩))]) (fun x => [.blk b3 (.cells (winA s.boot x.2 (Win.clrTo n Win.zeros x.1)) 38), .blk b2 (.cells zw 38)]) (fun x => x.2 = n + x.1 ∧ x.1 ≤ (n - n).toNat) (fun x => (n - n).toNat - x.1) (0, n) ?_ ?_ ?_ ?_
    · (repeat (first | exact Sub.nil | refine Sub.cons rfl ?_))
    · (repeat (first | exact List.nil_sublist _ | refine List.Sublist.cons_cons _ ?_ | refine List.Sublist.cons _ ?_))
    · exact ⟨by simp, by omega⟩
    · rintro ⟨j, t⟩ ⟨e1, e2⟩
      dsimp only at e1 e2 ⊢
      repeat' (first
              | with_reducible refine T.seq ?_
              | with_reducible refine T.block ?_
              | with_reducible refine T.region ?_
              | with_reducible refine T.skip ?_
              | with_reducible refine T.ret ?_
              | with_reducible refine T.exit ?_
              | with_reducible refine seqQ_n ?_
              | with_reducible refine seqQ_x ?_
              | with_reducible refine seqQ_r ?_
              | with_reducible refine blockQ_n ?_
              | with_reducible refine blockQ_r ?_
              | with_reducible refine blockQ_x ?_
              | ((with_reducible refine g_blkx ?_); refine blockQ_y rfl ?_)
              | with_reducible refine loopQ_x ?_
              | with_reducible refine loopQ_r ?_
              | ((with_reducible refine g_cond ?_); (first | refine T.cond_t rfl ?_ | refine T.cond_f rfl ?_ | (refine T.cond_s rfl ?_ ?_ <;> intro hc)))
              | with_reducible refine TL_nil ?_
              | with_reducible refine TS_nil ?_
              | ((with_reducible refine g_draw ?_); (first | fail))
              | ((with_reducible refine TL_y' ?hy ?hd ?_); (case hy => rfl); (case hd => rfl))
              | with_reducible refine TL_e ?_
              | ((with_reducible refine g_TL ?_); (first | refine TL_gy' rfl rfl rfl rfl ?_ | refine TL_gn rfl rfl rfl ?_ | refine TL_gu rfl rfl rfl ?_ | refine TL_ge rfl rfl ?_ | refine TL_gn0 rfl rfl ?_))
              | ((with_reducible refine g_TS ?_)
                 (first
                 | refine TS_y rfl rfl ?_
                 | refine TS_e rfl ?_
                 | refine TS_gy rfl rfl rfl rfl ?_
                 | refine TS_gn rfl rfl rfl rfl ?_
                 | refine TS_gu rfl rfl rfl rfl ?_
                 | refine TS_ge rfl rfl rfl ?_
                 | refine TS_gne rfl rfl rfl rfl ?_
                 | refine TS_gue rfl rfl rfl rfl ?_
                 | refine TS_gne0 rfl rfl rfl ?_))
              | ((with_reducible refine TSand ?hd ?_); (case hd => (repeat (first | exact List.nil_sublist _ | refine List.Sublist.cons_cons _ ?_ | refine List.Sublist.cons _ ?_))))
              | ((with_reducible refine is_move ?_); refine ⟨_, Yl_move rfl, ?_⟩)
              | ((with_reducible refine is_assign ?_); refine ⟨_, Yl_assign rfl, ?_⟩)
              | ((with_reducible refine is_pick ?_); (first | refine ⟨_, Yl_pick_t rfl rfl, ?_⟩ | refine ⟨_, Yl_pick_f rfl rfl, ?_⟩))
              | ((with_reducible refine is_nil ?_); refine ⟨_, Yl_nilCheck rfl, ?_⟩)
              | ((with_reducible refine is_fld ?_)
                 (first | ((refine' ⟨_, Yl_fld_blk0 rfl ?q1, ?_⟩); (case q1 => exact fld_of rfl rfl)) | ((refine' ⟨_, Yl_fld_blk rfl ?q1, ?_⟩); (case q1 => exact fld_of rfl rfl)) | ((refine' ⟨_, Yl_fld_ad rfl ?q1, ?_⟩); (case q1 => exact fld_of rfl rfl))))
              | ((with_reducible refine is_load ?_)
                 (first
                 | ((refine' ⟨_, Yl_load_blk rfl ?q1 ?q2 ?q3, ?_⟩)
                    (case q1 => exact one_of rfl)
                    (case q2 => (repeat (first | exact .head _ | apply List.Mem.tail)))
                    (case q3 =>
                       first
                       | with_reducible exact winA_1 _ _ _
                       | with_reducible exact winA_2 _ _ _
                       | with_reducible exact winA_3z _ _ _
                       | ((with_reducible refine' winA_3' _ _ _ _ ?q1)
                          (case q1 =>
                             first
                             | with_reducible assumption
                             | with_reducible exact Win.zeros_length
                             | (rw [Win.clrTo_length]; with_reducible assumption)
                             | (rw [Win.clrTo_length]; with_reducible exact Win.zeros_length)
                             | (rw [List.length_set, Win.clrTo_length]; with_reducible assumption)
                             | (rw [List.length_set, Win.clrTo_length]; with_reducible exact Win.zeros_length)))))
                 | ((refine' ⟨_, Yl_loadA_blk rfl ?q1 ?q2, ?_⟩)
                    (case q1 => (repeat (first | exact .head _ | apply List.Mem.tail)))
                    (case q2 =>
                       ((with_reducible refine' agg_38.trans (congrArg some (winA_size _ _ _ ?q1).symm))
                        (case q1 =>
                           first
                           | with_reducible assumption
                           | with_reducible exact Win.zeros_length
                           | (rw [Win.clrTo_length]; with_reducible assumption)
                           | (rw [Win.clrTo_length]; with_reducible exact Win.zeros_length)
                           | (rw [List.length_set, Win.clrTo_length]; with_reducible assumption)
                           | (rw [List.length_set, Win.clrTo_length]; with_reducible exact Win.zeros_length)))))
                 | ((refine' ⟨_, Yl_load_blk rfl ?q1 ?q2 ?q3, ?_⟩); (case q1 => exact one_of rfl); (case q2 => (repeat (first | exact .head _ | apply List.Mem.tail))); (case q3 => rfl))
                 | ((refine' ⟨_, Yl_loadA_blk rfl ?q1 ?q2, ?_⟩); (case q1 => (repeat (first | exact .head _ | apply List.Mem.tail))); (case q2 => exact agg_of rfl))
                 | ((refine' ⟨_, Yl_load_blk rfl ?q1 ?q2 ?q3, ?_⟩); (case q1 => exact one_of rfl); (case q2 => (repeat (first | exact .head _ | apply List.Mem.tail))); (case q3 => assumption))
                 | ((refine' ⟨_, Yl_load_rd rfl ?q1 ?q2 List.not_mem_nil ?q3, ?_⟩); (case q1 => exact one_of rfl); (case q2 => assumption); (case q3 => assumption))
                 | ((refine' ⟨_, Yl_load_row rfl ?q1 ?q2 ?q3, ?_⟩); (case q1 => exact one_of rfl); (case q2 => (repeat (first | exact .head _ | apply List.Mem.tail))); (case q3 => assumption))
                 | ((refine' ⟨_, Yl_loadA_rd rfl ?qa ?qb List.not_mem_nil ?ql ?qc, ?_⟩); (case qa => exact agg_of rfl); (case qb => assumption); (case qc => assumption); (case ql => rfl))
                 | ((refine' ⟨_, Yl_loadA_row rfl ?qa ?qb ?ql ?qc, ?_⟩); (case qa => exact agg_of rfl); (case qb => (repeat (first | exact .head _ | apply List.Mem.tail))); (case qc => assumption); (case ql => rfl))))
              | ((with_reducible refine is_idx ?_)
                 (first
                 | ((refine' ⟨_, Yl_index_arrI rfl rfl Try.underlying34 ?q1 ?q2 ?q3, ?_⟩); (case q1 => exact siz_of rfl); (case q2 => omega); (case q3 => omega))
                 | ((refine' ⟨_, Yl_index rfl rfl ?q1 ?q2 ?q3 (Rd.some_ ?q4 ?q5), ?_⟩); (case q1 => fail); (case q2 => exact siz_of rfl); (case q3 => omega); (case q4 => assumption); (case q5 => omega))
                 | ((refine' ⟨_, Yl_index_row rfl rfl ?q1 ?q2 ?q3 ?q4, ?_⟩); (case q1 => fail); (case q2 => exact siz_of rfl); (case q3 => omega); (case q4 => (repeat (first | exact .head _ | apply List.Mem.tail))))
                 | ((refine' ⟨_, Yl_index rfl rfl ?q1 ?q2 ?q3 rfl, ?_⟩); (case q1 => fail); (case q2 => exact siz_of rfl); (case q3 => omega))))
              | ((with_reducible refine is_ext ?_); refine ⟨_, Yl_extract rfl rfl, ?_⟩)
              | ((with_reducible refine is_un ?_); refine ⟨_, Yl_not rfl, ?_⟩)
              | ((with_reducible refine is_len ?_); (first | ((refine' ⟨_, Yl_len_slice rfl ?q1, ?_⟩); (case q1 => fail)) | ((refine' ⟨_, Yl_len_string rfl ?q1, ?_⟩); (case q1 => fail))))
              | ((with_reducible refine is_b_lss ?_); (first | ((refine' ⟨_, Yl_lss_t rfl rfl ?q1, ?_⟩); (case q1 => omega)) | ((refine' ⟨_, Yl_lss_f rfl rfl ?q1, ?_⟩); (case q1 => omega)) | (refine sp_lss rfl rfl ?_ ?_ <;> intro hc)))
              | ((with_reducible refine is_b_leq ?_); (first | ((refine' ⟨_, Yl_leq_t rfl rfl ?q1, ?_⟩); (case q1 => omega)) | ((refine' ⟨_, Yl_leq_f rfl rfl ?q1, ?_⟩); (case q1 => omega)) | (refine sp_leq rfl rfl ?_ ?_ <;> intro hc)))
              | ((with_reducible refine is_b_gtr ?_); (first | ((refine' ⟨_, Yl_gtr_t rfl rfl ?q1, ?_⟩); (case q1 => omega)) | ((refine' ⟨_, Yl_gtr_f rfl rfl ?q1, ?_⟩); (case q1 => omega)) | (refine sp_gtr rfl rfl ?_ ?_ <;> intro hc)))
              | ((with_reducible refine is_b_geq ?_); (first | ((refine' ⟨_, Yl_geq_t rfl rfl ?q1, ?_⟩); (case q1 => omega)) | ((refine' ⟨_, Yl_geq_f rfl rfl ?q1, ?_⟩); (case q1 => omega)) | (refine sp_geq rfl rfl ?_ ?_ <;> intro hc)))
              | ((with_reducible refine is_b_eql ?_)
                 (first
                 | ((refine' ⟨_, Yl_eql_t rfl rfl ?q1, ?_⟩); (case q1 => omega))
                 | ((refine' ⟨_, Yl_eql_f rfl rfl ?q1, ?_⟩); (case q1 => omega))
                 | (refine sp_eql rfl rfl ?_ ?_ <;> intro hc)
                 | ((refine' ⟨_, Yl_rem (m := 64) rfl rfl ?q1 ?q2, ?_⟩); (case q1 => omega); (case q2 => omega))))
              | ((with_reducible refine is_b_neq ?_)
                 (first
                 | ((refine' ⟨_, Yl_neq_t rfl rfl ?q1, ?_⟩); (case q1 => omega))
                 | ((refine' ⟨_, Yl_neq_f rfl rfl ?q1, ?_⟩); (case q1 => omega))
                 | (refine sp_neq rfl rfl ?_ ?_ <;> intro hc)
                 | ((refine' ⟨_, Yl_rem (m := 64) rfl rfl ?q1 ?q2, ?_⟩); (case q1 => omega); (case q2 => omega))))
              | ((with_reducible refine is_b_add ?_); (first | ((refine' ⟨_, Yl_add rfl rfl ?q1 ?q2, ?_⟩); (case q1 => omega); (case q2 => omega)) | ((refine' ⟨_, Yl_rem (m := 64) rfl rfl ?q1 ?q2, ?_⟩); (case q1 => omega); (case q2 => omega))))
              | ((with_reducible refine is_b_sub ?_); (first | ((refine' ⟨_, Yl_sub rfl rfl ?q1 ?q2, ?_⟩); (case q1 => omega); (case q2 => omega)) | ((refine' ⟨_, Yl_rem (m := 64) rfl rfl ?q1 ?q2, ?_⟩); (case q1 => omega); (case q2 => omega))))
              | ((with_reducible refine is_build ?_); (first | ((refine' ⟨_, Yl_build rfl ?q1, ?_⟩); (case q1 => with_reducible exact winA_new _)) | ((refine' ⟨_, Yl_build rfl ?q1, ?_⟩); (case q1 => with_reducible exact arr_new))))
              | (first | ((refine' ⟨_, Yl_rem (m := 64) rfl rfl ?q1 ?q2, ?_⟩); (case q1 => omega); (case q2 => omega)))
              | ((with_reducible refine ie_box ?_)
                 (first
                 | (refine Ef_boxA rfl rfl ?_
                    (first
                    | ((fail_if_success have := b1); intro b1)
                    | ((fail_if_success have := b2); intro b2)
                    | ((fail_if_success have := b3); intro b3)
                    | ((fail_if_success have := b4); intro b4)
                    | ((fail_if_success have := b5); intro b5)
                    | ((fail_if_success have := b6); intro b6)
                    | ((fail_if_success have := b7); intro b7)
                    | ((fail_if_success have := b8); intro b8)
                    | ((fail_if_success have := b9); intro b9)))
                 | (refine Ef_box1 rfl rfl rfl ?_
                    (first
                    | ((fail_if_success have := b1); intro b1)
                    | ((fail_if_success have := b2); intro b2)
                    | ((fail_if_success have := b3); intro b3)
                    | ((fail_if_success have := b4); intro b4)
                    | ((fail_if_success have := b5); intro b5)
                    | ((fail_if_success have := b6); intro b6)
                    | ((fail_if_success have := b7); intro b7)
                    | ((fail_if_success have := b8); intro b8)
                    | ((fail_if_success have := b9); intro b9)))))
              | ((with_reducible refine ie_alloc ?_)
                 (first
                 | (refine Ef_alloc rfl Zw ?_
                    (first
                    | ((fail_if_success have := b1); intro b1)
                    | ((fail_if_success have := b2); intro b2)
                    | ((fail_if_success have := b3); intro b3)
                    | ((fail_if_success have := b4); intro b4)
                    | ((fail_if_success have := b5); intro b5)
                    | ((fail_if_success have := b6); intro b6)
                    | ((fail_if_success have := b7); intro b7)
                    | ((fail_if_success have := b8); intro b8)
                    | ((fail_if_success have := b9); intro b9)))
                 | (((refine' Ef_alloc rfl ?q1 ?_); (case q1 => exact zer_of rfl))
                    (first
                    | ((fail_if_success have := b1); intro b1)
                    | ((fail_if_success have := b2); intro b2)
                    | ((fail_if_success have := b3); intro b3)
                    | ((fail_if_success have := b4); intro b4)
                    | ((fail_if_success have := b5); intro b5)
                    | ((fail_if_success have := b6); intro b6)
                    | ((fail_if_success have := b7); intro b7)
                    | ((fail_if_success have := b8); intro b8)
                    | ((fail_if_success have := b9); intro b9)))))
              | ((with_reducible refine ie_store ?_)
                 (first
                 | ((refine' Ef_storeI (i := 0) rfl rfl ?q1 rfl ?q2 ?q3 ?_)
                    (case q1 => exact siz_of rfl)
                    (case q2 =>
                       ((with_reducible refine' winA_lt2 _ _ _ ?q1)
                        (case q1 =>
                           first
                           | with_reducible assumption
                           | with_reducible exact Win.zeros_length
                           | (rw [Win.clrTo_length]; with_reducible assumption)
                           | (rw [Win.clrTo_length]; with_reducible exact Win.zeros_length)
                           | (rw [List.length_set, Win.clrTo_length]; with_reducible assumption)
                           | (rw [List.length_set, Win.clrTo_length]; with_reducible exact Win.zeros_length))))
                    (case q3 => with_reducible exact winA_top _ _ _ _))
                 | ((refine' Ef_storeB (i := 0) rfl rfl ?q1 rfl ?q2 ?q3 ?_)
                    (case q1 => exact siz_of rfl)
                    (case q2 =>
                       ((with_reducible refine' winA_lt3 _ _ _ _ ?q1)
                        (case q1 =>
                           first
                           | with_reducible assumption
                           | with_reducible exact Win.zeros_length
                           | (rw [Win.clrTo_length]; with_reducible assumption)
                           | (rw [Win.clrTo_length]; with_reducible exact Win.zeros_length)
                           | (rw [List.length_set, Win.clrTo_length]; with_reducible assumption)
                           | (rw [List.length_set, Win.clrTo_length]; with_reducible exact Win.zeros_length))))
                    (case q3 => with_reducible exact winA_came' _ _ _ _ _))
                 | ((refine' Ef_storeA (i := 0) rfl rfl ?q1 ?q2 rfl ?q3 ?_)
                    (case q1 =>
                       ((with_reducible refine' siz_38.trans (congrArg some (winA_size _ _ _ ?q1).symm))
                        (case q1 =>
                           first
                           | with_reducible assumption
                           | with_reducible exact Win.zeros_length
                           | (rw [Win.clrTo_length]; with_reducible assumption)
                           | (rw [Win.clrTo_length]; with_reducible exact Win.zeros_length)
                           | (rw [List.length_set, Win.clrTo_length]; with_reducible assumption)
                           | (rw [List.length_set, Win.clrTo_length]; with_reducible exact Win.zeros_length))))
                    (case q2 => with_reducible exact winA_all _ _ _)
                    (case q3 =>
                       first
                       | ((with_reducible refine' zw_size.trans (winA_size _ _ _ ?q1).symm)
                          (case q1 =>
                             first
                             | with_reducible assumption
                             | with_reducible exact Win.zeros_length
                             | (rw [Win.clrTo_length]; with_reducible assumption)
                             | (rw [Win.clrTo_length]; with_reducible exact Win.zeros_length)
                             | (rw [List.length_set, Win.clrTo_length]; with_reducible assumption)
                             | (rw [List.length_set, Win.clrTo_length]; with_reducible exact Win.zeros_length)))
                       | ((with_reducible refine' (winA_size _ _ _ ?q1).trans (winA_size _ _ _ ?q2).symm)
                          (case q1 =>
                             first
                             | with_reducible assumption
                             | with_reducible exact Win.zeros_length
                             | (rw [Win.clrTo_length]; with_reducible assumption)
                             | (rw [Win.clrTo_length]; with_reducible exact Win.zeros_length)
                             | (rw [List.length_set, Win.clrTo_length]; with_reducible assumption)
                             | (rw [List.length_set, Win.clrTo_length]; with_reducible exact Win.zeros_length))
                          (case q2 =>
                             first
                             | with_reducible assumption
                             | with_reducible exact Win.zeros_length
                             | (rw [Win.clrTo_length]; with_reducible assumption)
                             | (rw [Win.clrTo_length]; with_reducible exact Win.zeros_length)
                             | (rw [List.length_set, Win.clrTo_length]; with_reducible assumption)
                             | (rw [List.length_set, Win.clrTo_length]; with_reducible exact Win.zeros_length)))))
                 | ((refine' Ef_storeA (i := 1) rfl rfl ?q1 ?q2 rfl ?q3 ?_)
                    (case q1 =>
                       ((with_reducible refine' siz_38.trans (congrArg some (winA_size _ _ _ ?q1).symm))
                        (case q1 =>
                           first
                           | with_reducible assumption
                           | with_reducible exact Win.zeros_length
                           | (rw [Win.clrTo_length]; with_reducible assumption)
                           | (rw [Win.clrTo_length]; with_reducible exact Win.zeros_length)
                           | (rw [List.length_set, Win.clrTo_length]; with_reducible assumption)
                           | (rw [List.length_set, Win.clrTo_length]; with_reducible exact Win.zeros_length))))
                    (case q2 => with_reducible exact winA_all _ _ _)
                    (case q3 =>
                       first
                       | ((with_reducible refine' zw_size.trans (winA_size _ _ _ ?q1).symm)
                          (case q1 =>
                             first
                             | with_reducible assumption
                             | with_reducible exact Win.zeros_length
                             | (rw [Win.clrTo_length]; with_reducible assumption)
                             | (rw [Win.clrTo_length]; with_reducible exact Win.zeros_length)
                             | (rw [List.length_set, Win.clrTo_length]; with_reducible assumption)
                             | (rw [List.length_set, Win.clrTo_length]; with_reducible exact Win.zeros_length)))
                       | ((with_reducible refine' (winA_size _ _ _ ?q1).trans (winA_size _ _ _ ?q2).symm)
                          (case q1 =>
                             first
                             | with_reducible assumption
                             | with_reducible exact Win.zeros_length
                             | (rw [Win.clrTo_length]; with_reducible assumption)
                             | (rw [Win.clrTo_length]; with_reducible exact Win.zeros_length)
                             | (rw [List.length_set, Win.clrTo_length]; with_reducible assumption)
                             | (rw [List.length_set, Win.clrTo_length]; with_reducible exact Win.zeros_length))
                          (case q2 =>
                             first
                             | with_reducible assumption
                             | with_reducible exact Win.zeros_length
                             | (rw [Win.clrTo_length]; with_reducible assumption)
                             | (rw [Win.clrTo_length]; with_reducible exact Win.zeros_length)
                             | (rw [List.length_set, Win.clrTo_length]; with_reducible assumption)
                             | (rw [List.length_set, Win.clrTo_length]; with_reducible exact Win.zeros_length)))))
                 | ((refine' Ef_storeM (i := 0) rfl rfl ?q1 ?q2 rfl ?q3 ?q4 ?_)
                    (case q1 => kernel_rfl)
                    (case q2 => with_reducible exact zeros_all)
                    (case q3 =>
                       ((with_reducible refine' winA_le _ _ _ ?q1)
                        (case q1 =>
                           first
                           | with_reducible assumption
                           | with_reducible exact Win.zeros_length
                           | (rw [Win.clrTo_length]; with_reducible assumption)
                           | (rw [Win.clrTo_length]; with_reducible exact Win.zeros_length)
                           | (rw [List.length_set, Win.clrTo_length]; with_reducible assumption)
                           | (rw [List.length_set, Win.clrTo_length]; with_reducible exact Win.zeros_length))))
                    (case q4 =>
                       ((with_reducible refine' winA_zeros _ _ _ ?q1)
                        (case q1 =>
                           first
                           | with_reducible assumption
                           | with_reducible exact Win.zeros_length
                           | (rw [Win.clrTo_length]; with_reducible assumption)
                           | (rw [Win.clrTo_length]; with_reducible exact Win.zeros_length)
                           | (rw [List.length_set, Win.clrTo_length]; with_reducible assumption)
                           | (rw [List.length_set, Win.clrTo_length]; with_reducible exact Win.zeros_length)))))
                 | ((refine' Ef_storeC rfl rfl ?q1 ?q2 ?q3 ?q4 ?q5 ?_)
                    (case q1 => rfl)
                    (case q2 => exact siz_of rfl)
                    (case q3 => (first | exact at0 | exact at1 | exact at2 | exact at3 | exact at4 | exact at5 | exact at6))
                    (case q4 => exact Nat.le_of_ble_eq_true rfl)
                    (case q5 => rfl))))
              | ((with_reducible refine ie_callf ?_); (first | fail))
              | ((with_reducible refine ie_app ?_)
                 (first
                 | (refine Ef_alloc rfl Zw ?_
                    (first
                    | ((fail_if_success have := b1); intro b1)
                    | ((fail_if_success have := b2); intro b2)
                    | ((fail_if_success have := b3); intro b3)
                    | ((fail_if_success have := b4); intro b4)
                    | ((fail_if_success have := b5); intro b5)
                    | ((fail_if_success have := b6); intro b6)
                    | ((fail_if_success have := b7); intro b7)
                    | ((fail_if_success have := b8); intro b8)
                    | ((fail_if_success have := b9); intro b9)))
                 | (((refine' Ef_append_row rfl rfl rfl ?q1 ?q2 ?q3 ?q4 ?q5 ?q6 ?_)
                     (case q1 => exact app_of rfl)
                     (case q2 => (first | exact at0 | exact at1 | exact at2 | exact at3 | exact at4 | exact at5 | exact at6))
                     (case q3 => (repeat (first | exact .head _ | apply List.Mem.tail)))
                     (case q4 => (first | assumption | (intro u hu; rcases hu with _ | ⟨_, _ | ⟨_, _ | ⟨_, _ | ⟨_, hu⟩⟩⟩⟩ <;> first | rfl | (cases hu; done))))
                     (case q5 => omega)
                     (case q6 => omega))
                    (first
                    | ((fail_if_success have := A1); intro A1 c1)
                    | ((fail_if_success have := A2); intro A2 c2)
                    | ((fail_if_success have := A3); intro A3 c3)
                    | ((fail_if_success have := A4); intro A4 c4)
                    | ((fail_if_success have := A5); intro A5 c5)
                    | ((fail_if_success have := A6); intro A6 c6)
                    | ((fail_if_success have := A7); intro A7 c7)))
                 | (((refine' Ef_append_rd rfl rfl rfl ?q1 ?q2 ?q3 List.not_mem_nil ?q4 ?q5 ?q6 ?q7 ?_)
                     (case q1 => exact app_of rfl)
                     (case q2 => (first | exact at0 | exact at1 | exact at2 | exact at3 | exact at4 | exact at5 | exact at6))
                     (case q3 => assumption)
                     (case q4 => omega)
                     (case q5 => (first | assumption | (intro u hu; rcases hu with _ | ⟨_, _ | ⟨_, _ | ⟨_, _ | ⟨_, hu⟩⟩⟩⟩ <;> first | rfl | (cases hu; done))))
                     (case q6 => omega)
                     (case q7 => omega))
                    (first
                    | ((fail_if_success have := A1); intro A1 c1)
                    | ((fail_if_success have := A2); intro A2 c2)
                    | ((fail_if_success have := A3); intro A3 c3)
                    | ((fail_if_success have := A4); intro A4 c4)
                    | ((fail_if_success have := A5); intro A5 c5)
                    | ((fail_if_success have := A6); intro A6 c6)
                    | ((fail_if_success have := A7); intro A7 c7)))))
              | ((with_reducible refine ie_bsl ?_)
                 (first
                 | (refine Ef_alloc rfl Zw ?_
                    (first
                    | ((fail_if_success have := b1); intro b1)
                    | ((fail_if_success have := b2); intro b2)
                    | ((fail_if_success have := b3); intro b3)
                    | ((fail_if_success have := b4); intro b4)
                    | ((fail_if_success have := b5); intro b5)
                    | ((fail_if_success have := b6); intro b6)
                    | ((fail_if_success have := b7); intro b7)
                    | ((fail_if_success have := b8); intro b8)
                    | ((fail_if_success have := b9); intro b9)))
                 | (((refine' Ef_bslA rfl rfl ?q1 ?q2 ?q3 ?_); (case q1 => exact app_of rfl); (case q2 => rfl); (case q3 => decide))
                    (first
                    | ((fail_if_success have := b1); intro b1)
                    | ((fail_if_success have := b2); intro b2)
                    | ((fail_if_success have := b3); intro b3)
                    | ((fail_if_success have := b4); intro b4)
                    | ((fail_if_success have := b5); intro b5)
                    | ((fail_if_success have := b6); intro b6)
                    | ((fail_if_success have := b7); intro b7)
                    | ((fail_if_success have := b8); intro b8)
                    | ((fail_if_success have := b9); intro b9)))
                 | (((refine' Ef_bsl1 rfl rfl rfl ?q1 ?_); (case q1 => exact app_of rfl))
                    (first
                    | ((fail_if_success have := b1); intro b1)
                    | ((fail_if_success have := b2); intro b2)
                    | ((fail_if_success have := b3); intro b3)
                    | ((fail_if_success have := b4); intro b4)
                    | ((fail_if_success have := b5); intro b5)
                    | ((fail_if_success have := b6); intro b6)
                    | ((fail_if_success have := b7); intro b7)
                    | ((fail_if_success have := b8); intro b8)
                    | ((fail_if_success have := b9); intro b9)))))
              | (first
                | (refine Ef_alloc rfl Zw ?_
                   (first
                   | ((fail_if_success have := b1); intro b1)
                   | ((fail_if_success have := b2); intro b2)
                   | ((fail_if_success have := b3); intro b3)
                   | ((fail_if_success have := b4); intro b4)
                   | ((fail_if_success have := b5); intro b5)
                   | ((fail_if_success have := b6); intro b6)
                   | ((fail_if_success have := b7); intro b7)
                   | ((fail_if_success have := b8); intro b8)
                   | ((fail_if_success have := b9); intro b9))))
              | refine Ef_y rfl rfl ?_)
      all_goals first
        | (with_reducible refine loopQ_n (j + 1, t + 1) ?_ ?_ ?_ ?_
           · (repeat (first | exact Sub.nil | refine Sub.cons rfl ?_))
           · subst e1; (repeat (first | exact List.nil_sublist _ | refine List.Sublist.cons_cons _ ?_ | refine List.Sublist.cons _ ?_))
           · exact ⟨by dsimp only; omega, by dsimp only; omega⟩
           · dsimp only; omega)
        | (((refine' ret_n [] (resC rfl rfl ?q1 ?q2) (List.nil_sublist _) ⟨?_, rfl⟩); (case q1 => (repeat (first | exact .head _ | apply List.Mem.tail))); (case q2 => ((with_reducible refine' agg_38.trans (congrArg some (winA_size _ _ _ ?q1).symm)); (case q1 => first | with_reducible assumption | with_reducible exact Win.zeros_length | (rw [Win.clrTo_length]; with_reducible assumption) | (rw [Win.clrTo_length]; with_reducible exact Win.zeros_length) | (rw [List.length_set, Win.clrTo_length]; with_reducible assumption) | (rw [List.length_set, Win.clrTo_length]; with_reducible exact Win.zeros_length)))))
           rw [e]
           have e3 : j = (n - n).toNat := by omega
           have e4 : t = max n n := by omega
           rw [e3, e4])
  · have e : Win.after s boot n = ⟨s.boot, max s.top n, (Win.clrTo s.top s.came (n - s.top).toNat).set (Win.idx n) true⟩ := by
      unfold Win.after
      rw [if_neg (by omega)]
      first | rw [if_pos (show s.boot < boot by assumption)] | rw [if_neg (show ¬ s.boot < boot by assumption)]
      dsimp only
      rw [if_neg (by rintro (h | ⟨h, h'⟩) <;> first | omega | (rw [Win.zeros_getD] at h'; cases h') | (rw [show s.came.getD (Win.idx n) false = false by assumption] at h'; cases h'))]
      first | rw [if_pos (by omega)] | rw [if_neg (by omega)]
      try (congr 1; omega)
    refine T.loop (α := Nat × Int) (fun _ => [(2, .int .i64 n), (6, .pointer (some ⟨b2, 0, none⟩)), (7, .pointer (some ⟨b3, 0, none⟩))]) (fun x => [.blk b3 (.cells (winA s.boot x.2 (Win.clrTo s.top s.came x.1)) 38), .blk b2 (.cells zw 38)]) (fun x => x.2 = s.top + x.1 ∧ x.1 ≤ (n - s.top).toNat) (fun x => (n - s.top).toNat - x.1) (0, s.top) ?_ ?_ ?_ ?_
    · (repeat (first | exact Sub.nil | refine Sub.cons rfl ?_))
    · (repeat (first | exact List.nil_sublist _ | refine List.Sublist.cons_cons _ ?_ | refine List.Sublist.cons _ ?_))
    · exact ⟨by simp, by omega⟩
    · rintro ⟨j, t⟩ ⟨e1, e2⟩
      dsimp only at e1 e2 ⊢
      repeat' (first
              | with_reducible refine T.seq ?_
              | with_reducible refine T.block ?_
              | with_reducible refine T.region ?_
              | with_reducible refine T.skip ?_
              | with_reducible refine T.ret ?_
              | with_reducible refine T.exit ?_
              | with_reducible refine seqQ_n ?_
              | with_reducible refine seqQ_x ?_
              | with_reducible refine seqQ_r ?_
              | with_reducible refine blockQ_n ?_
              | with_reducible refine blockQ_r ?_
              | with_reducible refine blockQ_x ?_
              | ((with_reducible refine g_blkx ?_); refine blockQ_y rfl ?_)
              | with_reducible refine loopQ_x ?_
              | with_reducible refine loopQ_r ?_
              | ((with_reducible refine g_cond ?_); (first | refine T.cond_t rfl ?_ | refine T.cond_f rfl ?_ | (refine T.cond_s rfl ?_ ?_ <;> intro hc)))
              | with_reducible refine TL_nil ?_
              | with_reducible refine TS_nil ?_
              | ((with_reducible refine g_draw ?_); (first | fail))
              | ((with_reducible refine TL_y' ?hy ?hd ?_); (case hy => rfl); (case hd => rfl))
              | with_reducible refine TL_e ?_
              | ((with_reducible refine g_TL ?_); (first | refine TL_gy' rfl rfl rfl rfl ?_ | refine TL_gn rfl rfl rfl ?_ | refine TL_gu rfl rfl rfl ?_ | refine TL_ge rfl rfl ?_ | refine TL_gn0 rfl rfl ?_))
              | ((with_reducible refine g_TS ?_)
                 (first
                 | refine TS_y rfl rfl ?_
                 | refine TS_e rfl ?_
                 | refine TS_gy rfl rfl rfl rfl ?_
                 | refine TS_gn rfl rfl rfl rfl ?_
                 | refine TS_gu rfl rfl rfl rfl ?_
                 | refine TS_ge rfl rfl rfl ?_
                 | refine TS_gne rfl rfl rfl rfl ?_
                 | refine TS_gue rfl rfl rfl rfl ?_
                 | refine TS_gne0 rfl rfl rfl ?_))
              | ((with_reducible refine TSand ?hd ?_); (case hd => (repeat (first | exact List.nil_sublist _ | refine List.Sublist.cons_cons _ ?_ | refine List.Sublist.cons _ ?_))))
              | ((with_reducible refine is_move ?_); refine ⟨_, Yl_move rfl, ?_⟩)
              | ((with_reducible refine is_assign ?_); refine ⟨_, Yl_assign rfl, ?_⟩)
              | ((with_reducible refine is_pick ?_); (first | refine ⟨_, Yl_pick_t rfl rfl, ?_⟩ | refine ⟨_, Yl_pick_f rfl rfl, ?_⟩))
              | ((with_reducible refine is_nil ?_); refine ⟨_, Yl_nilCheck rfl, ?_⟩)
              | ((with_reducible refine is_fld ?_)
                 (first | ((refine' ⟨_, Yl_fld_blk0 rfl ?q1, ?_⟩); (case q1 => exact fld_of rfl rfl)) | ((refine' ⟨_, Yl_fld_blk rfl ?q1, ?_⟩); (case q1 => exact fld_of rfl rfl)) | ((refine' ⟨_, Yl_fld_ad rfl ?q1, ?_⟩); (case q1 => exact fld_of rfl rfl))))
              | ((with_reducible refine is_load ?_)
                 (first
                 | ((refine' ⟨_, Yl_load_blk rfl ?q1 ?q2 ?q3, ?_⟩)
                    (case q1 => exact one_of rfl)
                    (case q2 => (repeat (first | exact .head _ | apply List.Mem.tail)))
                    (case q3 =>
                       first
                       | with_reducible exact winA_1 _ _ _
                       | with_reducible exact winA_2 _ _ _
                       | with_reducible exact winA_3z _ _ _
                       | ((with_reducible refine' winA_3' _ _ _ _ ?q1)
                          (case q1 =>
                             first
                             | with_reducible assumption
                             | with_reducible exact Win.zeros_length
                             | (rw [Win.clrTo_length]; with_reducible assumption)
                             | (rw [Win.clrTo_length]; with_reducible exact Win.zeros_length)
                             | (rw [List.length_set, Win.clrTo_length]; with_reducible assumption)
                             | (rw [List.length_set, Win.clrTo_length]; with_reducible exact Win.zeros_length)))))
                 | ((refine' ⟨_, Yl_loadA_blk rfl ?q1 ?q2, ?_⟩)
                    (case q1 => (repeat (first | exact .head _ | apply List.Mem.tail)))
                    (case q2 =>
                       ((with_reducible refine' agg_38.trans (congrArg some (winA_size _ _ _ ?q1).symm))
                        (case q1 =>
                           first
                           | with_reducible assumption
                           | with_reducible exact Win.zeros_length
                           | (rw [Win.clrTo_length]; with_reducible assumption)
                           | (rw [Win.clrTo_length]; with_reducible exact Win.zeros_length)
                           | (rw [List.length_set, Win.clrTo_length]; with_reducible assumption)
                           | (rw [List.length_set, Win.clrTo_length]; with_reducible exact Win.zeros_length)))))
                 | ((refine' ⟨_, Yl_load_blk rfl ?q1 ?q2 ?q3, ?_⟩); (case q1 => exact one_of rfl); (case q2 => (repeat (first | exact .head _ | apply List.Mem.tail))); (case q3 => rfl))
                 | ((refine' ⟨_, Yl_loadA_blk rfl ?q1 ?q2, ?_⟩); (case q1 => (repeat (first | exact .head _ | apply List.Mem.tail))); (case q2 => exact agg_of rfl))
                 | ((refine' ⟨_, Yl_load_blk rfl ?q1 ?q2 ?q3, ?_⟩); (case q1 => exact one_of rfl); (case q2 => (repeat (first | exact .head _ | apply List.Mem.tail))); (case q3 => assumption))
                 | ((refine' ⟨_, Yl_load_rd rfl ?q1 ?q2 List.not_mem_nil ?q3, ?_⟩); (case q1 => exact one_of rfl); (case q2 => assumption); (case q3 => assumption))
                 | ((refine' ⟨_, Yl_load_row rfl ?q1 ?q2 ?q3, ?_⟩); (case q1 => exact one_of rfl); (case q2 => (repeat (first | exact .head _ | apply List.Mem.tail))); (case q3 => assumption))
                 | ((refine' ⟨_, Yl_loadA_rd rfl ?qa ?qb List.not_mem_nil ?ql ?qc, ?_⟩); (case qa => exact agg_of rfl); (case qb => assumption); (case qc => assumption); (case ql => rfl))
                 | ((refine' ⟨_, Yl_loadA_row rfl ?qa ?qb ?ql ?qc, ?_⟩); (case qa => exact agg_of rfl); (case qb => (repeat (first | exact .head _ | apply List.Mem.tail))); (case qc => assumption); (case ql => rfl))))
              | ((with_reducible refine is_idx ?_)
                 (first
                 | ((refine' ⟨_, Yl_index_arrI rfl rfl Try.underlying34 ?q1 ?q2 ?q3, ?_⟩); (case q1 => exact siz_of rfl); (case q2 => omega); (case q3 => omega))
                 | ((refine' ⟨_, Yl_index rfl rfl ?q1 ?q2 ?q3 (Rd.some_ ?q4 ?q5), ?_⟩); (case q1 => fail); (case q2 => exact siz_of rfl); (case q3 => omega); (case q4 => assumption); (case q5 => omega))
                 | ((refine' ⟨_, Yl_index_row rfl rfl ?q1 ?q2 ?q3 ?q4, ?_⟩); (case q1 => fail); (case q2 => exact siz_of rfl); (case q3 => omega); (case q4 => (repeat (first | exact .head _ | apply List.Mem.tail))))
                 | ((refine' ⟨_, Yl_index rfl rfl ?q1 ?q2 ?q3 rfl, ?_⟩); (case q1 => fail); (case q2 => exact siz_of rfl); (case q3 => omega))))
              | ((with_reducible refine is_ext ?_); refine ⟨_, Yl_extract rfl rfl, ?_⟩)
              | ((with_reducible refine is_un ?_); refine ⟨_, Yl_not rfl, ?_⟩)
              | ((with_reducible refine is_len ?_); (first | ((refine' ⟨_, Yl_len_slice rfl ?q1, ?_⟩); (case q1 => fail)) | ((refine' ⟨_, Yl_len_string rfl ?q1, ?_⟩); (case q1 => fail))))
              | ((with_reducible refine is_b_lss ?_); (first | ((refine' ⟨_, Yl_lss_t rfl rfl ?q1, ?_⟩); (case q1 => omega)) | ((refine' ⟨_, Yl_lss_f rfl rfl ?q1, ?_⟩); (case q1 => omega)) | (refine sp_lss rfl rfl ?_ ?_ <;> intro hc)))
              | ((with_reducible refine is_b_leq ?_); (first | ((refine' ⟨_, Yl_leq_t rfl rfl ?q1, ?_⟩); (case q1 => omega)) | ((refine' ⟨_, Yl_leq_f rfl rfl ?q1, ?_⟩); (case q1 => omega)) | (refine sp_leq rfl rfl ?_ ?_ <;> intro hc)))
              | ((with_reducible refine is_b_gtr ?_); (first | ((refine' ⟨_, Yl_gtr_t rfl rfl ?q1, ?_⟩); (case q1 => omega)) | ((refine' ⟨_, Yl_gtr_f rfl rfl ?q1, ?_⟩); (case q1 => omega)) | (refine sp_gtr rfl rfl ?_ ?_ <;> intro hc)))
              | ((with_reducible refine is_b_geq ?_); (first | ((refine' ⟨_, Yl_geq_t rfl rfl ?q1, ?_⟩); (case q1 => omega)) | ((refine' ⟨_, Yl_geq_f rfl rfl ?q1, ?_⟩); (case q1 => omega)) | (refine sp_geq rfl rfl ?_ ?_ <;> intro hc)))
              | ((with_reducible refine is_b_eql ?_)
                 (first
                 | ((refine' ⟨_, Yl_eql_t rfl rfl ?q1, ?_⟩); (case q1 => omega))
                 | ((refine' ⟨_, Yl_eql_f rfl rfl ?q1, ?_⟩); (case q1 => omega))
                 | (refine sp_eql rfl rfl ?_ ?_ <;> intro hc)
                 | ((refine' ⟨_, Yl_rem (m := 64) rfl rfl ?q1 ?q2, ?_⟩); (case q1 => omega); (case q2 => omega))))
              | ((with_reducible refine is_b_neq ?_)
                 (first
                 | ((refine' ⟨_, Yl_neq_t rfl rfl ?q1, ?_⟩); (case q1 => omega))
                 | ((refine' ⟨_, Yl_neq_f rfl rfl ?q1, ?_⟩); (case q1 => omega))
                 | (refine sp_neq rfl rfl ?_ ?_ <;> intro hc)
                 | ((refine' ⟨_, Yl_rem (m := 64) rfl rfl ?q1 ?q2, ?_⟩); (case q1 => omega); (case q2 => omega))))
              | ((with_reducible refine is_b_add ?_); (first | ((refine' ⟨_, Yl_add rfl rfl ?q1 ?q2, ?_⟩); (case q1 => omega); (case q2 => omega)) | ((refine' ⟨_, Yl_rem (m := 64) rfl rfl ?q1 ?q2, ?_⟩); (case q1 => omega); (case q2 => omega))))
              | ((with_reducible refine is_b_sub ?_); (first | ((refine' ⟨_, Yl_sub rfl rfl ?q1 ?q2, ?_⟩); (case q1 => omega); (case q2 => omega)) | ((refine' ⟨_, Yl_rem (m := 64) rfl rfl ?q1 ?q2, ?_⟩); (case q1 => omega); (case q2 => omega))))
              | ((with_reducible refine is_build ?_); (first | ((refine' ⟨_, Yl_build rfl ?q1, ?_⟩); (case q1 => with_reducible exact winA_new _)) | ((refine' ⟨_, Yl_build rfl ?q1, ?_⟩); (case q1 => with_reducible exact arr_new))))
              | (first | ((refine' ⟨_, Yl_rem (m := 64) rfl rfl ?q1 ?q2, ?_⟩); (case q1 => omega); (case q2 => omega)))
              | ((with_reducible refine ie_box ?_)
                 (first
                 | (refine Ef_boxA rfl rfl ?_
                    (first
                    | ((fail_if_success have := b1); intro b1)
                    | ((fail_if_success have := b2); intro b2)
                    | ((fail_if_success have := b3); intro b3)
                    | ((fail_if_success have := b4); intro b4)
                    | ((fail_if_success have := b5); intro b5)
                    | ((fail_if_success have := b6); intro b6)
                    | ((fail_if_success have := b7); intro b7)
                    | ((fail_if_success have := b8); intro b8)
                    | ((fail_if_success have := b9); intro b9)))
                 | (refine Ef_box1 rfl rfl rfl ?_
                    (first
                    | ((fail_if_success have := b1); intro b1)
                    | ((fail_if_success have := b2); intro b2)
                    | ((fail_if_success have := b3); intro b3)
                    | ((fail_if_success have := b4); intro b4)
                    | ((fail_if_success have := b5); intro b5)
                    | ((fail_if_success have := b6); intro b6)
                    | ((fail_if_success have := b7); intro b7)
                    | ((fail_if_success have := b8); intro b8)
                    | ((fail_if_success have := b9); intro b9)))))
              | ((with_reducible refine ie_alloc ?_)
                 (first
                 | (refine Ef_alloc rfl Zw ?_
                    (first
                    | ((fail_if_success have := b1); intro b1)
                    | ((fail_if_success have := b2); intro b2)
                    | ((fail_if_success have := b3); intro b3)
                    | ((fail_if_success have := b4); intro b4)
                    | ((fail_if_success have := b5); intro b5)
                    | ((fail_if_success have := b6); intro b6)
                    | ((fail_if_success have := b7); intro b7)
                    | ((fail_if_success have := b8); intro b8)
                    | ((fail_if_success have := b9); intro b9)))
                 | (((refine' Ef_alloc rfl ?q1 ?_); (case q1 => exact zer_of rfl))
                    (first
                    | ((fail_if_success have := b1); intro b1)
                    | ((fail_if_success have := b2); intro b2)
                    | ((fail_if_success have := b3); intro b3)
                    | ((fail_if_success have := b4); intro b4)
                    | ((fail_if_success have := b5); intro b5)
                    | ((fail_if_success have := b6); intro b6)
                    | ((fail_if_success have := b7); intro b7)
                    | ((fail_if_success have := b8); intro b8)
                    | ((fail_if_success have := b9); intro b9)))))
              | ((with_reducible refine ie_store ?_)
                 (first
                 | ((refine' Ef_storeI (i := 0) rfl rfl ?q1 rfl ?q2 ?q3 ?_)
                    (case q1 => exact siz_of rfl)
                    (case q2 =>
                       ((with_reducible refine' winA_lt2 _ _ _ ?q1)
                        (case q1 =>
                           first
                           | with_reducible assumption
                           | with_reducible exact Win.zeros_length
                           | (rw [Win.clrTo_length]; with_reducible assumption)
                           | (rw [Win.clrTo_length]; with_reducible exact Win.zeros_length)
                           | (rw [List.length_set, Win.clrTo_length]; with_reducible assumption)
                           | (rw [List.length_set, Win.clrTo_length]; with_reducible exact Win.zeros_length))))
                    (case q3 => with_reducible exact winA_top _ _ _ _))
                 | ((refine' Ef_storeB (i := 0) rfl rfl ?q1 rfl ?q2 ?q3 ?_)
                    (case q1 => exact siz_of rfl)
                    (case q2 =>
                       ((with_reducible refine' winA_lt3 _ _ _ _ ?q1)
                        (case q1 =>
                           first
                           | with_reducible assumption
                           | with_reducible exact Win.zeros_length
                           | (rw [Win.clrTo_length]; with_reducible assumption)
                           | (rw [Win.clrTo_length]; with_reducible exact Win.zeros_length)
                           | (rw [List.length_set, Win.clrTo_length]; with_reducible assumption)
                           | (rw [List.length_set, Win.clrTo_length]; with_reducible exact Win.zeros_length))))
                    (case q3 => with_reducible exact winA_came' _ _ _ _ _))
                 | ((refine' Ef_storeA (i := 0) rfl rfl ?q1 ?q2 rfl ?q3 ?_)
                    (case q1 =>
                       ((with_reducible refine' siz_38.trans (congrArg some (winA_size _ _ _ ?q1).symm))
                        (case q1 =>
                           first
                           | with_reducible assumption
                           | with_reducible exact Win.zeros_length
                           | (rw [Win.clrTo_length]; with_reducible assumption)
                           | (rw [Win.clrTo_length]; with_reducible exact Win.zeros_length)
                           | (rw [List.length_set, Win.clrTo_length]; with_reducible assumption)
                           | (rw [List.length_set, Win.clrTo_length]; with_reducible exact Win.zeros_length))))
                    (case q2 => with_reducible exact winA_all _ _ _)
                    (case q3 =>
                       first
                       | ((with_reducible refine' zw_size.trans (winA_size _ _ _ ?q1).symm)
                          (case q1 =>
                             first
                             | with_reducible assumption
                             | with_reducible exact Win.zeros_length
                             | (rw [Win.clrTo_length]; with_reducible assumption)
                             | (rw [Win.clrTo_length]; with_reducible exact Win.zeros_length)
                             | (rw [List.length_set, Win.clrTo_length]; with_reducible assumption)
                             | (rw [List.length_set, Win.clrTo_length]; with_reducible exact Win.zeros_length)))
                       | ((with_reducible refine' (winA_size _ _ _ ?q1).trans (winA_size _ _ _ ?q2).symm)
                          (case q1 =>
                             first
                             | with_reducible assumption
                             | with_reducible exact Win.zeros_length
                             | (rw [Win.clrTo_length]; with_reducible assumption)
                             | (rw [Win.clrTo_length]; with_reducible exact Win.zeros_length)
                             | (rw [List.length_set, Win.clrTo_length]; with_reducible assumption)
                             | (rw [List.length_set, Win.clrTo_length]; with_reducible exact Win.zeros_length))
                          (case q2 =>
                             first
                             | with_reducible assumption
                             | with_reducible exact Win.zeros_length
                             | (rw [Win.clrTo_length]; with_reducible assumption)
                             | (rw [Win.clrTo_length]; with_reducible exact Win.zeros_length)
                             | (rw [List.length_set, Win.clrTo_length]; with_reducible assumption)
                             | (rw [List.length_set, Win.clrTo_length]; with_reducible exact Win.zeros_length)))))
                 | ((refine' Ef_storeA (i := 1) rfl rfl ?q1 ?q2 rfl ?q3 ?_)
                    (case q1 =>
                       ((with_reducible refine' siz_38.trans (congrArg some (winA_size _ _ _ ?q1).symm))
                        (case q1 =>
                           first
                           | with_reducible assumption
                           | with_reducible exact Win.zeros_length
                           | (rw [Win.clrTo_length]; with_reducible assumption)
                           | (rw [Win.clrTo_length]; with_reducible exact Win.zeros_length)
                           | (rw [List.length_set, Win.clrTo_length]; with_reducible assumption)
                           | (rw [List.length_set, Win.clrTo_length]; with_reducible exact Win.zeros_length))))
                    (case q2 => with_reducible exact winA_all _ _ _)
                    (case q3 =>
                       first
                       | ((with_reducible refine' zw_size.trans (winA_size _ _ _ ?q1).symm)
                          (case q1 =>
                             first
                             | with_reducible assumption
                             | with_reducible exact Win.zeros_length
                             | (rw [Win.clrTo_length]; with_reducible assumption)
                             | (rw [Win.clrTo_length]; with_reducible exact Win.zeros_length)
                             | (rw [List.length_set, Win.clrTo_length]; with_reducible assumption)
                             | (rw [List.length_set, Win.clrTo_length]; with_reducible exact Win.zeros_length)))
                       | ((with_reducible refine' (winA_size _ _ _ ?q1).trans (winA_size _ _ _ ?q2).symm)
                          (case q1 =>
                             first
                             | with_reducible assumption
                             | with_reducible exact Win.zeros_length
                             | (rw [Win.clrTo_length]; with_reducible assumption)
                             | (rw [Win.clrTo_length]; with_reducible exact Win.zeros_length)
                             | (rw [List.length_set, Win.clrTo_length]; with_reducible assumption)
                             | (rw [List.length_set, Win.clrTo_length]; with_reducible exact Win.zeros_length))
                          (case q2 =>
                             first
                             | with_reducible assumption
                             | with_reducible exact Win.zeros_length
                             | (rw [Win.clrTo_length]; with_reducible assumption)
                             | (rw [Win.clrTo_length]; with_reducible exact Win.zeros_length)
                             | (rw [List.length_set, Win.clrTo_length]; with_reducible assumption)
                             | (rw [List.length_set, Win.clrTo_length]; with_reducible exact Win.zeros_length)))))
                 | ((refine' Ef_storeM (i := 0) rfl rfl ?q1 ?q2 rfl ?q3 ?q4 ?_)
                    (case q1 => kernel_rfl)
                    (case q2 => with_reducible exact zeros_all)
                    (case q3 =>
                       ((with_reducible refine' winA_le _ _ _ ?q1)
                        (case q1 =>
                           first
                           | with_reducible assumption
                           | with_reducible exact Win.zeros_length
                           | (rw [Win.clrTo_length]; with_reducible assumption)
                           | (rw [Win.clrTo_length]; with_reducible exact Win.zeros_length)
                           | (rw [List.length_set, Win.clrTo_length]; with_reducible assumption)
                           | (rw [List.length_set, Win.clrTo_length]; with_reducible exact Win.zeros_length))))
                    (case q4 =>
                       ((with_reducible refine' winA_zeros _ _ _ ?q1)
                        (case q1 =>
                           first
                           | with_reducible assumption
                           | with_reducible exact Win.zeros_length
                           | (rw [Win.clrTo_length]; with_reducible assumption)
                           | (rw [Win.clrTo_length]; with_reducible exact Win.zeros_length)
                           | (rw [List.length_set, Win.clrTo_length]; with_reducible assumption)
                           | (rw [List.length_set, Win.clrTo_length]; with_reducible exact Win.zeros_length)))))
                 | ((refine' Ef_storeC rfl rfl ?q1 ?q2 ?q3 ?q4 ?q5 ?_)
                    (case q1 => rfl)
                    (case q2 => exact siz_of rfl)
                    (case q3 => (first | exact at0 | exact at1 | exact at2 | exact at3 | exact at4 | exact at5 | exact at6))
                    (case q4 => exact Nat.le_of_ble_eq_true rfl)
                    (case q5 => rfl))))
              | ((with_reducible refine ie_callf ?_); (first | fail))
              | ((with_reducible refine ie_app ?_)
                 (first
                 | (refine Ef_alloc rfl Zw ?_
                    (first
                    | ((fail_if_success have := b1); intro b1)
                    | ((fail_if_success have := b2); intro b2)
                    | ((fail_if_success have := b3); intro b3)
                    | ((fail_if_success have := b4); intro b4)
                    | ((fail_if_success have := b5); intro b5)
                    | ((fail_if_success have := b6); intro b6)
                    | ((fail_if_success have := b7); intro b7)
                    | ((fail_if_success have := b8); intro b8)
                    | ((fail_if_success have := b9); intro b9)))
                 | (((refine' Ef_append_row rfl rfl rfl ?q1 ?q2 ?q3 ?q4 ?q5 ?q6 ?_)
                     (case q1 => exact app_of rfl)
                     (case q2 => (first | exact at0 | exact at1 | exact at2 | exact at3 | exact at4 | exact at5 | exact at6))
                     (case q3 => (repeat (first | exact .head _ | apply List.Mem.tail)))
                     (case q4 => (first | assumption | (intro u hu; rcases hu with _ | ⟨_, _ | ⟨_, _ | ⟨_, _ | ⟨_, hu⟩⟩⟩⟩ <;> first | rfl | (cases hu; done))))
                     (case q5 => omega)
                     (case q6 => omega))
                    (first
                    | ((fail_if_success have := A1); intro A1 c1)
                    | ((fail_if_success have := A2); intro A2 c2)
                    | ((fail_if_success have := A3); intro A3 c3)
                    | ((fail_if_success have := A4); intro A4 c4)
                    | ((fail_if_success have := A5); intro A5 c5)
                    | ((fail_if_success have := A6); intro A6 c6)
                    | ((fail_if_success have := A7); intro A7 c7)))
                 | (((refine' Ef_append_rd rfl rfl rfl ?q1 ?q2 ?q3 List.not_mem_nil ?q4 ?q5 ?q6 ?q7 ?_)
                     (case q1 => exact app_of rfl)
                     (case q2 => (first | exact at0 | exact at1 | exact at2 | exact at3 | exact at4 | exact at5 | exact at6))
                     (case q3 => assumption)
                     (case q4 => omega)
                     (case q5 => (first | assumption | (intro u hu; rcases hu with _ | ⟨_, _ | ⟨_, _ | ⟨_, _ | ⟨_, hu⟩⟩⟩⟩ <;> first | rfl | (cases hu; done))))
                     (case q6 => omega)
                     (case q7 => omega))
                    (first
                    | ((fail_if_success have := A1); intro A1 c1)
                    | ((fail_if_success have := A2); intro A2 c2)
                    | ((fail_if_success have := A3); intro A3 c3)
                    | ((fail_if_success have := A4); intro A4 c4)
                    | ((fail_if_success have := A5); intro A5 c5)
                    | ((fail_if_success have := A6); intro A6 c6)
                    | ((fail_if_success have := A7); intro A7 c7)))))
              | ((with_reducible refine ie_bsl ?_)
                 (first
                 | (refine Ef_alloc rfl Zw ?_
                    (first
                    | ((fail_if_success have := b1); intro b1)
                    | ((fail_if_success have := b2); intro b2)
                    | ((fail_if_success have := b3); intro b3)
                    | ((fail_if_success have := b4); intro b4)
                    | ((fail_if_success have := b5); intro b5)
                    | ((fail_if_success have := b6); intro b6)
                    | ((fail_if_success have := b7); intro b7)
                    | ((fail_if_success have := b8); intro b8)
                    | ((fail_if_success have := b9); intro b9)))
                 | (((refine' Ef_bslA rfl rfl ?q1 ?q2 ?q3 ?_); (case q1 => exact app_of rfl); (case q2 => rfl); (case q3 => decide))
                    (first
                    | ((fail_if_success have := b1); intro b1)
                    | ((fail_if_success have := b2); intro b2)
                    | ((fail_if_success have := b3); intro b3)
                    | ((fail_if_success have := b4); intro b4)
                    | ((fail_if_success have := b5); intro b5)
                    | ((fail_if_success have := b6); intro b6)
                    | ((fail_if_success have := b7); intro b7)
                    | ((fail_if_success have := b8); intro b8)
                    | ((fail_if_success have := b9); intro b9)))
                 | (((refine' Ef_bsl1 rfl rfl rfl ?q1 ?_); (case q1 => exact app_of rfl))
                    (first
                    | ((fail_if_success have := b1); intro b1)
                    | ((fail_if_success have := b2); intro b2)
                    | ((fail_if_success have := b3); intro b3)
                    | ((fail_if_success have := b4); intro b4)
                    | ((fail_if_success have := b5); intro b5)
                    | ((fail_if_success have := b6); intro b6)
                    | ((fail_if_success have := b7); intro b7)
                    | ((fail_if_success have := b8); intro b8)
                    | ((fail_if_success have := b9); intro b9)))))
              | (first
                | (refine Ef_alloc rfl Zw ?_
                   (first
                   | ((fail_if_success have := b1); intro b1)
                   | ((fail_if_success have := b2); intro b2)
                   | ((fail_if_success have := b3); intro b3)
                   | ((fail_if_success have := b4); intro b4)
                   | ((fail_if_success have := b5); intro b5)
                   | ((fail_if_success have := b6); intro b6)
                   | ((fail_if_success have := b7); intro b7)
                   | ((fail_if_success have := b8); intro b8)
                   | ((fail_if_success have := b9); intro b9))))
              | refine Ef_y rfl rfl ?_)
      all_goals first
        | (with_reducible refine loopQ_n (j + 1, t + 1) ?_ ?_ ?_ ?_
           · (repeat (first | exact Sub.nil | refine Sub.cons rfl ?_))
           · subst e1; (repeat (first | exact List.nil_sublist _ | refine List.Sublist.cons_cons _ ?_ | refine List.Sublist.cons _ ?_))
           · exact ⟨by dsimp only; omega, by dsimp only; omega⟩
           · dsimp only; omega)
        | (((refine' ret_n [] (resC rfl rfl ?q1 ?q2) (List.nil_sublist _) ⟨?_, rfl⟩); (case q1 => (repeat (first | exact .head _ | apply List.Mem.tail))); (case q2 => ((with_reducible refine' agg_38.trans (congrArg some (winA_size _ _ _ ?q1).symm)); (case q1 => first | with_reducible assumption | with_reducible exact Win.zeros_length | (rw [Win.clrTo_length]; with_reducible assumption) | (rw [Win.clrTo_length]; with_reducible exact Win.zeros_length) | (rw [List.length_set, Win.clrTo_length]; with_reducible assumption) | (rw [List.length_set, Win.clrTo_length]; with_reducible exact Win.zeros_length)))))
           rw [e]
           have e3 : j = (n - s.top).toNat := by omega
           have e4 : t = max s.top n := by omega
           rw [e3, e4])
end Go.Proofs.Ytbmegafjphcdnaa
