/- The examples that the laws begin with: they come to true. -/
import Derived.Test.YtbmegafjphcdnaaT4
namespace Go.Proofs.Ytbmegafjphcdnaa
open Go.RowKit
set_option maxRecDepth 20000

def aw1 : Win.St := (Win.take Win.new 0 1).1
def aw2 : Win.St := (Win.take aw1 0 70).1
def aw3 : Win.St := (Win.take aw2 0 7).1
def aw4 : Win.St := (Win.take aw3 1 1).1
theorem awt0 : Win.take Win.new (0) 1 = (aw1, 0) := by kernel_rfl
theorem awt1 : Win.take aw1 (0) 1 = (aw1, 180) := by kernel_rfl
theorem awt2 : Win.take aw1 (0) 70 = (aw2, 0) := by kernel_rfl
theorem awt3 : Win.take aw2 (0) 6 = (aw2, 180) := by kernel_rfl
theorem awt4 : Win.take aw2 (0) 7 = (aw3, 0) := by kernel_rfl
theorem awt5 : Win.take aw3 (0) 7 = (aw3, 180) := by kernel_rfl
theorem awt6 : Win.take aw3 (1) 1 = (aw4, 0) := by kernel_rfl
theorem awt7 : Win.take aw4 (0) 80 = (aw4, 180) := by kernel_rfl
theorem awt8 : Win.take aw4 (-1) 1 = (aw4, 2) := by kernel_rfl
theorem awt9 : Win.take aw4 (1) 0 = (aw4, 2) := by kernel_rfl
theorem awi1 : Win.Inv aw1 := Win.take_inv _ _ _ Win.new_inv (by decide) (by decide)
theorem awi2 : Win.Inv aw2 := Win.take_inv _ _ _ awi1 (by decide) (by decide)
theorem awi3 : Win.Inv aw3 := Win.take_inv _ _ _ awi2 (by decide) (by decide)
theorem awi4 : Win.Inv aw4 := Win.take_inv _ _ _ awi3 (by decide) (by decide)

theorem awx : ∃ s0 s1 s2 s3 s4 : Win.St, Win.new = s0 ∧ Win.Inv s0 ∧ Win.Inv s1 ∧ Win.Inv s2 ∧ Win.Inv s3 ∧ Win.Inv s4 ∧ Win.take s0 (0) 1 = (s1, 0) ∧ Win.take s1 (0) 1 = (s1, 180) ∧ Win.take s1 (0) 70 = (s2, 0) ∧ Win.take s2 (0) 6 = (s2, 180) ∧ Win.take s2 (0) 7 = (s3, 0) ∧ Win.take s3 (0) 7 = (s3, 180) ∧ Win.take s3 (1) 1 = (s4, 0) ∧ Win.take s4 (0) 80 = (s4, 180) ∧ Win.take s4 (-1) 1 = (s4, 2) ∧ Win.take s4 (1) 0 = (s4, 2) ∧ s3.top = 70 ∧ s4.boot = 1 :=
  ⟨Win.new, aw1, aw2, aw3, aw4, rfl, Win.new_inv, awi1, awi2, awi3, awi4, awt0, awt1, awt2, awt3, awt4, awt5, awt6, awt7, awt8, awt9, by kernel_rfl, by kernel_rfl⟩

theorem top_v (b : Nat) (s : Win.St) (w : World) (hb : w.heap[b]? = some (.cells (winA s.boot s.top s.came) 38)) {m : Int} (hm : s.top = m) : Sp Try.prog 12 [.pointer (some ⟨b, 0, none⟩)] w [] fun v N => v = .int .i64 m ∧ N = [] := hm ▸ top_c b s w hb
theorem boot_v (b : Nat) (s : Win.St) (w : World) (hb : w.heap[b]? = some (.cells (winA s.boot s.top s.came) 38)) {m : Int} (hm : s.boot = m) : Sp Try.prog 13 [.pointer (some ⟨b, 0, none⟩)] w [] fun v N => v = .int .i64 m ∧ N = [] := hm ▸ boot_c b s w hb

theorem take_at (b : Nat) (s s' : Win.St) (boot n e : Int) (w : World) (hi : Win.Inv s) (hb2 : boot ≤ 9223372036854775807) (hn2 : n ≤ 9223372036854775807) (ht : Win.take s boot n = (s', e)) (hp : Hp w [b] [wB b s] w) :
    Sp Try.prog 11 [.pointer (some ⟨b, 0, none⟩), .int .i64 boot, .int .i64 n] w [b] fun v N => v = .int .i64 e ∧ N = [wB b s'] := by
  have := take_c b s boot n w hi hb2 hn2 hp
  rw [ht] at this
  exact this

theorem awake_c (w : World) : Sp Try.prog 9 [] w [] fun v N => v = .bool true ∧ N = [] := by
  refine Sp.enter (n := 71) Try.func9 rfl rfl rfl (Hp.refl w) ?_
  obtain ⟨s0, s1, s2, s3, s4, e0, i0, i1, i2, i3, i4, t0, t1, t2, t3, t4, t5, t6, t7, t8, t9, etop, eboot⟩ := awx
  have hnew : ∀ w, Sp Try.prog 10 [] w [] fun v N => ∃ b : Nat, v = .pointer (some ⟨b, 0, none⟩) ∧ N = [wB b s0] := fun w => e0 ▸ new_c w
  repeat' (first
          | with_reducible refine T.seq ?_
          | with_reducible refine T.block ?_
          | with_reducible refine T.region ?_
          | with_reducible refine T.skip ?_
          | with_reducible refine T.ret ?_
          | with_reducible refine T.exit ?_
          | with_reducible refine seqQ_n ?_
          | with_reducible refine seqQ_x ?_
          | with_reducible refine seqQ_r ?_
          | with_reducible refine blockQ_n ?_
          | with_reducible refine blockQ_r ?_
          | with_reducible refine blockQ_x ?_
          | ((with_reducible refine g_blkx ?_); refine blockQ_y rfl ?_)
          | with_reducible refine loopQ_x ?_
          | with_reducible refine loopQ_r ?_
          | ((with_reducible refine g_cond ?_); (first | refine T.cond_t rfl ?_ | refine T.cond_f rfl ?_ | (refine T.cond_s rfl ?_ ?_ <;> intro hc)))
          | with_reducible refine TL_nil ?_
          | with_reducible refine TS_nil ?_
          | ((with_reducible refine g_draw ?_); (first | fail))
          | ((with_reducible refine TL_y' ?hy ?hd ?_); (case hy => rfl); (case hd => rfl))
          | with_reducible refine TL_e ?_
          | ((with_reducible refine g_TL ?_); (first | refine TL_gy' rfl rfl rfl rfl ?_ | refine TL_gn rfl rfl rfl ?_ | refine TL_gu rfl rfl rfl ?_ | refine TL_ge rfl rfl ?_ | refine TL_gn0 rfl rfl ?_))
          | ((with_reducible refine g_TS ?_)
             (first
             | refine TS_y rfl rfl ?_
             | refine TS_e rfl ?_
             | refine TS_gy rfl rfl rfl rfl ?_
             | refine TS_gn rfl rfl rfl rfl ?_
             | refine TS_gu rfl rfl rfl rfl ?_
             | refine TS_ge rfl rfl rfl ?_
             | refine TS_gne rfl rfl rfl rfl ?_
             | refine TS_gue rfl rfl rfl rfl ?_
             | refine TS_gne0 rfl rfl rfl ?_))
          | ((with_reducible refine TSand ?hd ?_); (case hd => (repeat (first | exact List.nil_sublist _ | refine List.Sublist.cons_cons _ ?_ | refine List.Sublist.cons _ ?_))))
          | ((with_reducible refine is_move ?_); refine ⟨_, Yl_move rfl, ?_⟩)
          | ((with_reducible refine is_assign ?_); refine ⟨_, Yl_assign rfl, ?_⟩)
          | ((with_reducible refine is_pick ?_); (first | refine ⟨_, Yl_pick_t rfl rfl, ?_⟩ | refine ⟨_, Yl_pick_f rfl rfl, ?_⟩))
          | ((with_reducible refine is_nil ?_); refine ⟨_, Yl_nilCheck rfl, ?_⟩)
          | ((with_reducible refine is_fld ?_)
             (first | ((refine' ⟨_, Yl_fld_blk0 rfl ?q1, ?_⟩); (case q1 => exact fld_of rfl rfl)) | ((refine' ⟨_, Yl_fld_blk rfl ?q1, ?_⟩); (case q1 => exact fld_of rfl rfl)) | ((refine' ⟨_, Yl_fld_ad rfl ?q1, ?_⟩); (case q1 => exact fld_of rfl rfl))))
          | ((with_reducible refine is_load ?_)
             (first
             | fail
             | ((refine' ⟨_, Yl_load_blk rfl ?q1 ?q2 ?q3, ?_⟩); (case q1 => exact one_of rfl); (case q2 => (repeat (first | exact .head _ | apply List.Mem.tail))); (case q3 => rfl))
             | ((refine' ⟨_, Yl_loadA_blk rfl ?q1 ?q2, ?_⟩); (case q1 => (repeat (first | exact .head _ | apply List.Mem.tail))); (case q2 => exact agg_of rfl))
             | ((refine' ⟨_, Yl_load_blk rfl ?q1 ?q2 ?q3, ?_⟩); (case q1 => exact one_of rfl); (case q2 => (repeat (first | exact .head _ | apply List.Mem.tail))); (case q3 => assumption))
             | ((refine' ⟨_, Yl_load_rd rfl ?q1 ?q2 List.not_mem_nil ?q3, ?_⟩); (case q1 => exact one_of rfl); (case q2 => assumption); (case q3 => assumption))
             | ((refine' ⟨_, Yl_load_row rfl ?q1 ?q2 ?q3, ?_⟩); (case q1 => exact one_of rfl); (case q2 => (repeat (first | exact .head _ | apply List.Mem.tail))); (case q3 => assumption))
             | ((refine' ⟨_, Yl_loadA_rd rfl ?qa ?qb List.not_mem_nil ?ql ?qc, ?_⟩); (case qa => exact agg_of rfl); (case qb => assumption); (case qc => assumption); (case ql => rfl))
             | ((refine' ⟨_, Yl_loadA_row rfl ?qa ?qb ?ql ?qc, ?_⟩); (case qa => exact agg_of rfl); (case qb => (repeat (first | exact .head _ | apply List.Mem.tail))); (case qc => assumption); (case ql => rfl))))
          | ((with_reducible refine is_idx ?_)
             (first
             | fail
             | ((refine' ⟨_, Yl_index rfl rfl ?q1 ?q2 ?q3 (Rd.some_ ?q4 ?q5), ?_⟩); (case q1 => exact und_of rfl); (case q2 => exact siz_of rfl); (case q3 => omega); (case q4 => assumption); (case q5 => omega))
             | ((refine' ⟨_, Yl_index_row rfl rfl ?q1 ?q2 ?q3 ?q4, ?_⟩); (case q1 => exact und_of rfl); (case q2 => exact siz_of rfl); (case q3 => omega); (case q4 => (repeat (first | exact .head _ | apply List.Mem.tail))))
             | ((refine' ⟨_, Yl_index rfl rfl ?q1 ?q2 ?q3 rfl, ?_⟩); (case q1 => exact und_of rfl); (case q2 => exact siz_of rfl); (case q3 => omega))))
          | ((with_reducible refine is_ext ?_); refine ⟨_, Yl_extract rfl rfl, ?_⟩)
          | ((with_reducible refine is_un ?_); refine ⟨_, Yl_not rfl, ?_⟩)
          | ((with_reducible refine is_len ?_); (first | ((refine' ⟨_, Yl_len_slice rfl ?q1, ?_⟩); (case q1 => exact und_of rfl)) | ((refine' ⟨_, Yl_len_string rfl ?q1, ?_⟩); (case q1 => exact und_of rfl))))
          | ((with_reducible refine is_b_lss ?_); (first | ((refine' ⟨_, Yl_lss_t rfl rfl ?q1, ?_⟩); (case q1 => omega)) | ((refine' ⟨_, Yl_lss_f rfl rfl ?q1, ?_⟩); (case q1 => omega)) | (refine sp_lss rfl rfl ?_ ?_ <;> intro hc)))
          | ((with_reducible refine is_b_leq ?_); (first | ((refine' ⟨_, Yl_leq_t rfl rfl ?q1, ?_⟩); (case q1 => omega)) | ((refine' ⟨_, Yl_leq_f rfl rfl ?q1, ?_⟩); (case q1 => omega)) | (refine sp_leq rfl rfl ?_ ?_ <;> intro hc)))
          | ((with_reducible refine is_b_gtr ?_); (first | ((refine' ⟨_, Yl_gtr_t rfl rfl ?q1, ?_⟩); (case q1 => omega)) | ((refine' ⟨_, Yl_gtr_f rfl rfl ?q1, ?_⟩); (case q1 => omega)) | (refine sp_gtr rfl rfl ?_ ?_ <;> intro hc)))
          | ((with_reducible refine is_b_geq ?_); (first | ((refine' ⟨_, Yl_geq_t rfl rfl ?q1, ?_⟩); (case q1 => omega)) | ((refine' ⟨_, Yl_geq_f rfl rfl ?q1, ?_⟩); (case q1 => omega)) | (refine sp_geq rfl rfl ?_ ?_ <;> intro hc)))
          | ((with_reducible refine is_b_eql ?_); (first | ((refine' ⟨_, Yl_eql_t rfl rfl ?q1, ?_⟩); (case q1 => omega)) | ((refine' ⟨_, Yl_eql_f rfl rfl ?q1, ?_⟩); (case q1 => omega)) | (refine sp_eql rfl rfl ?_ ?_ <;> intro hc) | fail))
          | ((with_reducible refine is_b_neq ?_); (first | ((refine' ⟨_, Yl_neq_t rfl rfl ?q1, ?_⟩); (case q1 => omega)) | ((refine' ⟨_, Yl_neq_f rfl rfl ?q1, ?_⟩); (case q1 => omega)) | (refine sp_neq rfl rfl ?_ ?_ <;> intro hc) | fail))
          | ((with_reducible refine is_b_add ?_); (first | ((refine' ⟨_, Yl_add rfl rfl ?q1 ?q2, ?_⟩); (case q1 => omega); (case q2 => omega)) | fail))
          | ((with_reducible refine is_b_sub ?_); (first | ((refine' ⟨_, Yl_sub rfl rfl ?q1 ?q2, ?_⟩); (case q1 => omega); (case q2 => omega)) | fail))
          | ((with_reducible refine is_build ?_); (first | fail))
          | (first | fail)
          | ((with_reducible refine ie_box ?_)
             (first
             | (refine Ef_boxA rfl rfl ?_
                (first
                | ((fail_if_success have := b1); intro b1)
                | ((fail_if_success have := b2); intro b2)
                | ((fail_if_success have := b3); intro b3)
                | ((fail_if_success have := b4); intro b4)
                | ((fail_if_success have := b5); intro b5)
                | ((fail_if_success have := b6); intro b6)
                | ((fail_if_success have := b7); intro b7)
                | ((fail_if_success have := b8); intro b8)
                | ((fail_if_success have := b9); intro b9)))
             | (refine Ef_box1 rfl rfl rfl ?_
                (first
                | ((fail_if_success have := b1); intro b1)
                | ((fail_if_success have := b2); intro b2)
                | ((fail_if_success have := b3); intro b3)
                | ((fail_if_success have := b4); intro b4)
                | ((fail_if_success have := b5); intro b5)
                | ((fail_if_success have := b6); intro b6)
                | ((fail_if_success have := b7); intro b7)
                | ((fail_if_success have := b8); intro b8)
                | ((fail_if_success have := b9); intro b9)))))
          | ((with_reducible refine ie_alloc ?_)
             (first
             | fail
             | (((refine' Ef_alloc rfl ?q1 ?_); (case q1 => exact zer_of rfl))
                (first
                | ((fail_if_success have := b1); intro b1)
                | ((fail_if_success have := b2); intro b2)
                | ((fail_if_success have := b3); intro b3)
                | ((fail_if_success have := b4); intro b4)
                | ((fail_if_success have := b5); intro b5)
                | ((fail_if_success have := b6); intro b6)
                | ((fail_if_success have := b7); intro b7)
                | ((fail_if_success have := b8); intro b8)
                | ((fail_if_success have := b9); intro b9)))))
          | ((with_reducible refine ie_store ?_)
             (first
             | fail
             | ((refine' Ef_storeC rfl rfl ?q1 ?q2 ?q3 ?q4 ?q5 ?_)
                (case q1 => rfl)
                (case q2 => exact siz_of rfl)
                (case q3 => (first | exact at0 | exact at1 | exact at2 | exact at3 | exact at4 | exact at5 | exact at6))
                (case q4 => exact Nat.le_of_ble_eq_true rfl)
                (case q5 => rfl))))
          | ((with_reducible refine ie_callf ?_)
             (first
             | ((with_reducible refine g_call 10 ?_)
                (first
                | (refine Ef_callN rfl rfl ent_10 (fun w _ => hnew w) ?_
                   (first
                   | ((fail_if_success have := b1); intro b1)
                   | ((fail_if_success have := b2); intro b2)
                   | ((fail_if_success have := b3); intro b3)
                   | ((fail_if_success have := b4); intro b4)
                   | ((fail_if_success have := b5); intro b5)
                   | ((fail_if_success have := b6); intro b6)
                   | ((fail_if_success have := b7); intro b7)
                   | ((fail_if_success have := b8); intro b8)
                   | ((fail_if_success have := b9); intro b9)))))
             | ((with_reducible refine g_call 11 ?_)
                (first
                | ((refine' Ef_callT [true] rfl rfl ent_11 rfl rfl rfl (fun w hp => take_at b1 s0 s1 (0) 1 0 w i0 ?q1 ?q2 t0 hp) ?_); (case q1 => decide); (case q2 => decide))
                | ((refine' Ef_callT [true] rfl rfl ent_11 rfl rfl rfl (fun w hp => take_at b1 s1 s1 (0) 1 180 w i1 ?q1 ?q2 t1 hp) ?_); (case q1 => decide); (case q2 => decide))
                | ((refine' Ef_callT [true] rfl rfl ent_11 rfl rfl rfl (fun w hp => take_at b1 s1 s2 (0) 70 0 w i1 ?q1 ?q2 t2 hp) ?_); (case q1 => decide); (case q2 => decide))
                | ((refine' Ef_callT [true] rfl rfl ent_11 rfl rfl rfl (fun w hp => take_at b1 s2 s2 (0) 6 180 w i2 ?q1 ?q2 t3 hp) ?_); (case q1 => decide); (case q2 => decide))
                | ((refine' Ef_callT [true] rfl rfl ent_11 rfl rfl rfl (fun w hp => take_at b1 s2 s3 (0) 7 0 w i2 ?q1 ?q2 t4 hp) ?_); (case q1 => decide); (case q2 => decide))
                | ((refine' Ef_callT [true] rfl rfl ent_11 rfl rfl rfl (fun w hp => take_at b1 s3 s3 (0) 7 180 w i3 ?q1 ?q2 t5 hp) ?_); (case q1 => decide); (case q2 => decide))
                | ((refine' Ef_callT [true] rfl rfl ent_11 rfl rfl rfl (fun w hp => take_at b1 s3 s4 (1) 1 0 w i3 ?q1 ?q2 t6 hp) ?_); (case q1 => decide); (case q2 => decide))
                | ((refine' Ef_callT [true] rfl rfl ent_11 rfl rfl rfl (fun w hp => take_at b1 s4 s4 (0) 80 180 w i4 ?q1 ?q2 t7 hp) ?_); (case q1 => decide); (case q2 => decide))
                | ((refine' Ef_callT [true] rfl rfl ent_11 rfl rfl rfl (fun w hp => take_at b1 s4 s4 (-1) 1 2 w i4 ?q1 ?q2 t8 hp) ?_); (case q1 => decide); (case q2 => decide))
                | ((refine' Ef_callT [true] rfl rfl ent_11 rfl rfl rfl (fun w hp => take_at b1 s4 s4 (1) 0 2 w i4 ?q1 ?q2 t9 hp) ?_); (case q1 => decide); (case q2 => decide))))
             | ((with_reducible refine g_call 12 ?_); (first | ((refine' Ef_callP rfl rfl ent_12 (fun w hp => top_v b1 s3 w (hp.blkOf ?q1) etop) ?_); (case q1 => (repeat (first | exact .head _ | apply List.Mem.tail))))))
             | ((with_reducible refine g_call 13 ?_); (first | ((refine' Ef_callP rfl rfl ent_13 (fun w hp => boot_v b1 s4 w (hp.blkOf ?q1) eboot) ?_); (case q1 => (repeat (first | exact .head _ | apply List.Mem.tail))))))))
          | ((with_reducible refine ie_app ?_)
             (first
             | fail
             | (((refine' Ef_append_row rfl rfl rfl ?q1 ?q2 ?q3 ?q4 ?q5 ?q6 ?_)
                 (case q1 => exact app_of rfl)
                 (case q2 => (first | exact at0 | exact at1 | exact at2 | exact at3 | exact at4 | exact at5 | exact at6))
                 (case q3 => (repeat (first | exact .head _ | apply List.Mem.tail)))
                 (case q4 => (first | assumption | (intro u hu; rcases hu with _ | ⟨_, _ | ⟨_, _ | ⟨_, _ | ⟨_, hu⟩⟩⟩⟩ <;> first | rfl | (cases hu; done))))
                 (case q5 => omega)
                 (case q6 => omega))
                (first
                | ((fail_if_success have := A1); intro A1 c1)
                | ((fail_if_success have := A2); intro A2 c2)
                | ((fail_if_success have := A3); intro A3 c3)
                | ((fail_if_success have := A4); intro A4 c4)
                | ((fail_if_success have := A5); intro A5 c5)
                | ((fail_if_success have := A6); intro A6 c6)
                | ((fail_if_success have := A7); intro A7 c7)))
             | (((refine' Ef_append_rd rfl rfl rfl ?q1 ?q2 ?q3 List.not_mem_nil ?q4 ?q5 ?q6 ?q7 ?_)
                 (case q1 => exact app_of rfl)
                 (case q2 => (first | exact at0 | exact at1 | exact at2 | exact at3 | exact at4 | exact at5 | exact at6))
                 (case q3 => assumption)
                 (case q4 => omega)
                 (case q5 => (first | assumption | (intro u hu; rcases hu with _ | ⟨_, _ | ⟨_, _ | ⟨_, _ | ⟨_, hu⟩⟩⟩⟩ <;> first | rfl | (cases hu; done))))
                 (case q6 => omega)
                 (case q7 => omega))
                (first
                | ((fail_if_success have := A1); intro A1 c1)
                | ((fail_if_success have := A2); intro A2 c2)
                | ((fail_if_success have := A3); intro A3 c3)
                | ((fail_if_success have := A4); intro A4 c4)
                | ((fail_if_success have := A5); intro A5 c5)
                | ((fail_if_success have := A6); intro A6 c6)
                | ((fail_if_success have := A7); intro A7 c7)))))
          | ((with_reducible refine ie_bsl ?_)
             (first
             | fail
             | (((refine' Ef_bslA rfl rfl ?q1 ?q2 ?q3 ?_); (case q1 => exact app_of rfl); (case q2 => rfl); (case q3 => decide))
                (first
                | ((fail_if_success have := b1); intro b1)
                | ((fail_if_success have := b2); intro b2)
                | ((fail_if_success have := b3); intro b3)
                | ((fail_if_success have := b4); intro b4)
                | ((fail_if_success have := b5); intro b5)
                | ((fail_if_success have := b6); intro b6)
                | ((fail_if_success have := b7); intro b7)
                | ((fail_if_success have := b8); intro b8)
                | ((fail_if_success have := b9); intro b9)))
             | (((refine' Ef_bsl1 rfl rfl rfl ?q1 ?_); (case q1 => exact app_of rfl))
                (first
                | ((fail_if_success have := b1); intro b1)
                | ((fail_if_success have := b2); intro b2)
                | ((fail_if_success have := b3); intro b3)
                | ((fail_if_success have := b4); intro b4)
                | ((fail_if_success have := b5); intro b5)
                | ((fail_if_success have := b6); intro b6)
                | ((fail_if_success have := b7); intro b7)
                | ((fail_if_success have := b8); intro b8)
                | ((fail_if_success have := b9); intro b9)))))
          | (first | fail)
          | refine Ef_y rfl rfl ?_)
  exact ret_n [] (res1 rfl rfl) (List.nil_sublist _) ⟨rfl, rfl⟩
end Go.Proofs.Ytbmegafjphcdnaa
