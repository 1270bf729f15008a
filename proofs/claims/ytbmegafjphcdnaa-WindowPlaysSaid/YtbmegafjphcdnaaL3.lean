/- The law on numbers that are taken once: what a call of it comes to: for every slice of numbers of 64 bits. -/
import Derived.Test.YtbmegafjphcdnaaT5
import Derived.Test.YtbmegafjphcdnaaT6
import Derived.Test.YtbmegafjphcdnaaRead
namespace Go.Proofs.Ytbmegafjphcdnaa
open Go.RowKit
set_option maxRecDepth 20000

def nE (p : Int × Int) : List Value := [.int .i64 p.1, .int .i64 p.2]
theorem nE_len (p : Int × Int) : (nE p).length = 2 := rfl
theorem nE_one (p : Int × Int) : ∀ u ∈ nE p, u.oneCell' = true := fun u hu => by
  simp [nE] at hu
  rcases hu with rfl | rfl <;> rfl
theorem eqN (a b : Int × Int) : EqR Try.prog 10000 29 (.agg (nE a).toArray) (.agg (nE b).toArray) (decide (a.1 = b.1) && (decide (a.2 = b.2) && true)) := by
  refine EqR_struct str_29 (sto_of rfl) fls_29 ?_
  refine .cons (part_one (by exact one_of rfl) rfl) (part_one (by exact one_of rfl) rfl) (EqR_int (k' := .i64) (by exact und_of rfl)) ?_
  exact .cons (part_one (by exact one_of rfl) rfl) (part_one (by exact one_of rfl) rfl) (EqR_int (k' := .i64) (by exact und_of rfl)) .nil

theorem eqN_f (a b : Int × Int) (h : a ≠ b) : EqR Try.prog 10000 29 (.agg (nE a).toArray) (.agg (nE b).toArray) false := by
  have e : (decide (a.1 = b.1) && (decide (a.2 = b.2) && true)) = false := by
    rw [Bool.eq_false_iff]
    intro h'
    simp at h'
    exact h (Prod.ext h'.1 h'.2)
  have := eqN a b
  rwa [e] at this
theorem nE_snoc (l : List (Int × Int)) (x : Int × Int) : l.flatMap nE ++ [.int .i64 x.1, .int .i64 x.2] = (l ++ [x]).flatMap nE := by simp [nE]
theorem len_snoc (l : List (Int × Int)) (x : Int × Int) : l.length + 1 = (l ++ [x]).length := by simp

set_option maxHeartbeats 1000000 in
theorem once_c (A : Option Addr) (len cap : Nat) (zs : List (Int × Int)) (w : World) (hr : Rd w A len 2 (zs.flatMap nE)) (hl : zs.length = len) (hz : ∀ x ∈ zs, x.1 ≤ 9223372036854775807 ∧ x.2 ≤ 9223372036854775807) :
    Sp Try.prog 3 [.slice A len cap] w [] fun v N => v = .bool true ∧ N = [] := by
  refine Sp.enter (n := 67) Try.func3 rfl rfl rfl (Hp.refl w) ?_
  repeat' (first
          | with_reducible refine T.seq ?_
          | with_reducible refine T.block ?_
          | with_reducible refine T.region ?_
          | with_reducible refine T.skip ?_
          | with_reducible refine T.ret ?_
          | with_reducible refine T.exit ?_
          | with_reducible refine seqQ_n ?_
          | with_reducible refine seqQ_x ?_
          | with_reducible refine seqQ_r ?_
          | with_reducible refine blockQ_n ?_
          | with_reducible refine blockQ_r ?_
          | with_reducible refine blockQ_x ?_
          | ((with_reducible refine g_blkx ?_); refine blockQ_y rfl ?_)
          | with_reducible refine loopQ_x ?_
          | with_reducible refine loopQ_r ?_
          | ((with_reducible refine g_cond ?_); (first | refine T.cond_t rfl ?_ | refine T.cond_f rfl ?_ | (refine T.cond_s rfl ?_ ?_ <;> intro hc)))
          | with_reducible refine TL_nil ?_
          | with_reducible refine TS_nil ?_
          | ((with_reducible refine g_draw ?_)
             (first
             | (((with_reducible refine' T.draw0 (id := 10) [(0, true), (1, true), (2, true), (3, true), (4, true), (5, true), (6, true), (7, true), (8, true), (9, true), (10, true), (11, false), (12, true)] mixd ?q1 ?_); (case q1 => kernel_rfl)))
             | (((with_reducible refine' T.drawM (id := 14) [(0, true), (1, true), (2, true), (3, true), (4, true), (5, true), (6, true), (7, true), (8, true), (9, true), (10, true), (11, true), (12, true), (13, true), (14, true), (15, true), (16, true), (17, true), (18, true), (19, true), (20, true), (21, true)] mixd ?q1 ?_)
                 (case q1 => kernel_rfl)))))
          | ((with_reducible refine TL_y' ?hy ?hd ?_); (case hy => rfl); (case hd => rfl))
          | with_reducible refine TL_e ?_
          | ((with_reducible refine g_TL ?_); (first | refine TL_gy' rfl rfl rfl rfl ?_ | refine TL_gn rfl rfl rfl ?_ | refine TL_gu rfl rfl rfl ?_ | refine TL_ge rfl rfl ?_ | refine TL_gn0 rfl rfl ?_))
          | ((with_reducible refine g_TS ?_)
             (first
             | refine TS_y rfl rfl ?_
             | refine TS_e rfl ?_
             | refine TS_gy rfl rfl rfl rfl ?_
             | refine TS_gn rfl rfl rfl rfl ?_
             | refine TS_gu rfl rfl rfl rfl ?_
             | refine TS_ge rfl rfl rfl ?_
             | refine TS_gne rfl rfl rfl rfl ?_
             | refine TS_gue rfl rfl rfl rfl ?_
             | refine TS_gne0 rfl rfl rfl ?_))
          | ((with_reducible refine TSand ?hd ?_); (case hd => (repeat (first | exact List.nil_sublist _ | refine List.Sublist.cons_cons _ ?_ | refine List.Sublist.cons _ ?_))))
          | ((with_reducible refine is_move ?_); refine ⟨_, Yl_move rfl, ?_⟩)
          | ((with_reducible refine is_assign ?_); refine ⟨_, Yl_assign rfl, ?_⟩)
          | ((with_reducible refine is_pick ?_); (first | refine ⟨_, Yl_pick_t rfl rfl, ?_⟩ | refine ⟨_, Yl_pick_f rfl rfl, ?_⟩))
          | ((with_reducible refine is_nil ?_); refine ⟨_, Yl_nilCheck rfl, ?_⟩)
          | ((with_reducible refine is_fld ?_)
             (first | ((refine' ⟨_, Yl_fld_blk0 rfl ?q1, ?_⟩); (case q1 => exact fld_of rfl rfl)) | ((refine' ⟨_, Yl_fld_blk rfl ?q1, ?_⟩); (case q1 => exact fld_of rfl rfl)) | ((refine' ⟨_, Yl_fld_ad rfl ?q1, ?_⟩); (case q1 => exact fld_of rfl rfl))))
          | ((with_reducible refine is_load ?_)
             (first
             | fail
             | ((refine' ⟨_, Yl_load_blk rfl ?q1 ?q2 ?q3, ?_⟩); (case q1 => exact one_of rfl); (case q2 => (repeat (first | exact .head _ | apply List.Mem.tail))); (case q3 => rfl))
             | ((refine' ⟨_, Yl_loadA_blk rfl ?q1 ?q2, ?_⟩); (case q1 => (repeat (first | exact .head _ | apply List.Mem.tail))); (case q2 => exact agg_of rfl))
             | ((refine' ⟨_, Yl_load_blk rfl ?q1 ?q2 ?q3, ?_⟩); (case q1 => exact one_of rfl); (case q2 => (repeat (first | exact .head _ | apply List.Mem.tail))); (case q3 => assumption))
             | ((refine' ⟨_, Yl_load_rd rfl ?q1 ?q2 List.not_mem_nil ?q3, ?_⟩); (case q1 => exact one_of rfl); (case q2 => assumption); (case q3 => assumption))
             | ((refine' ⟨_, Yl_load_row rfl ?q1 ?q2 ?q3, ?_⟩); (case q1 => exact one_of rfl); (case q2 => (repeat (first | exact .head _ | apply List.Mem.tail))); (case q3 => assumption))
             | ((refine' ⟨_, Yl_loadA_rd rfl ?qa ?qb List.not_mem_nil ?ql ?qc, ?_⟩); (case qa => exact agg_of rfl); (case qb => assumption); (case qc => assumption); (case ql => rfl))
             | ((refine' ⟨_, Yl_loadA_row rfl ?qa ?qb ?ql ?qc, ?_⟩); (case qa => exact agg_of rfl); (case qb => (repeat (first | exact .head _ | apply List.Mem.tail))); (case qc => assumption); (case ql => rfl))))
          | ((with_reducible refine is_idx ?_)
             (first
             | fail
             | ((refine' ⟨_, Yl_index rfl rfl ?q1 ?q2 ?q3 (Rd.some_ ?q4 ?q5), ?_⟩); (case q1 => exact und_of rfl); (case q2 => exact siz_of rfl); (case q3 => omega); (case q4 => assumption); (case q5 => omega))
             | ((refine' ⟨_, Yl_index_row rfl rfl ?q1 ?q2 ?q3 ?q4, ?_⟩); (case q1 => exact und_of rfl); (case q2 => exact siz_of rfl); (case q3 => omega); (case q4 => (repeat (first | exact .head _ | apply List.Mem.tail))))
             | ((refine' ⟨_, Yl_index rfl rfl ?q1 ?q2 ?q3 rfl, ?_⟩); (case q1 => exact und_of rfl); (case q2 => exact siz_of rfl); (case q3 => omega))))
          | ((with_reducible refine is_ext ?_); refine ⟨_, Yl_extract rfl rfl, ?_⟩)
          | ((with_reducible refine is_un ?_); refine ⟨_, Yl_not rfl, ?_⟩)
          | ((with_reducible refine is_len ?_); (first | ((refine' ⟨_, Yl_len_slice rfl ?q1, ?_⟩); (case q1 => exact und_of rfl)) | ((refine' ⟨_, Yl_len_string rfl ?q1, ?_⟩); (case q1 => exact und_of rfl))))
          | ((with_reducible refine is_b_lss ?_); (first | ((refine' ⟨_, Yl_lss_t rfl rfl ?q1, ?_⟩); (case q1 => omega)) | ((refine' ⟨_, Yl_lss_f rfl rfl ?q1, ?_⟩); (case q1 => omega)) | (refine sp_lss rfl rfl ?_ ?_ <;> intro hc)))
          | ((with_reducible refine is_b_leq ?_); (first | ((refine' ⟨_, Yl_leq_t rfl rfl ?q1, ?_⟩); (case q1 => omega)) | ((refine' ⟨_, Yl_leq_f rfl rfl ?q1, ?_⟩); (case q1 => omega)) | (refine sp_leq rfl rfl ?_ ?_ <;> intro hc)))
          | ((with_reducible refine is_b_gtr ?_); (first | ((refine' ⟨_, Yl_gtr_t rfl rfl ?q1, ?_⟩); (case q1 => omega)) | ((refine' ⟨_, Yl_gtr_f rfl rfl ?q1, ?_⟩); (case q1 => omega)) | (refine sp_gtr rfl rfl ?_ ?_ <;> intro hc)))
          | ((with_reducible refine is_b_geq ?_); (first | ((refine' ⟨_, Yl_geq_t rfl rfl ?q1, ?_⟩); (case q1 => omega)) | ((refine' ⟨_, Yl_geq_f rfl rfl ?q1, ?_⟩); (case q1 => omega)) | (refine sp_geq rfl rfl ?_ ?_ <;> intro hc)))
          | ((with_reducible refine is_b_eql ?_)
             (first
             | ((refine' ⟨_, Yl_eql_t rfl rfl ?q1, ?_⟩); (case q1 => omega))
             | ((refine' ⟨_, Yl_eql_f rfl rfl ?q1, ?_⟩); (case q1 => omega))
             | (refine sp_eql rfl rfl ?_ ?_ <;> intro hc)
             | ((refine' ⟨_, Yl_eqlA rfl rfl (eqg_of rfl) (eqN_f _ _ ?q1).run, ?_⟩); (case q1 => assumption))))
          | ((with_reducible refine is_b_neq ?_)
             (first
             | ((refine' ⟨_, Yl_neq_t rfl rfl ?q1, ?_⟩); (case q1 => omega))
             | ((refine' ⟨_, Yl_neq_f rfl rfl ?q1, ?_⟩); (case q1 => omega))
             | (refine sp_neq rfl rfl ?_ ?_ <;> intro hc)
             | ((refine' ⟨_, Yl_eqlA rfl rfl (eqg_of rfl) (eqN_f _ _ ?q1).run, ?_⟩); (case q1 => assumption))))
          | ((with_reducible refine is_b_add ?_); (first | ((refine' ⟨_, Yl_add rfl rfl ?q1 ?q2, ?_⟩); (case q1 => omega); (case q2 => omega)) | ((refine' ⟨_, Yl_eqlA rfl rfl (eqg_of rfl) (eqN_f _ _ ?q1).run, ?_⟩); (case q1 => assumption))))
          | ((with_reducible refine is_b_sub ?_); (first | ((refine' ⟨_, Yl_sub rfl rfl ?q1 ?q2, ?_⟩); (case q1 => omega); (case q2 => omega)) | ((refine' ⟨_, Yl_eqlA rfl rfl (eqg_of rfl) (eqN_f _ _ ?q1).run, ?_⟩); (case q1 => assumption))))
          | ((with_reducible refine is_build ?_); (first | fail))
          | (first | ((refine' ⟨_, Yl_eqlA rfl rfl (eqg_of rfl) (eqN_f _ _ ?q1).run, ?_⟩); (case q1 => assumption)))
          | ((with_reducible refine ie_box ?_)
             (first
             | (refine Ef_boxA rfl rfl ?_
                (first
                | ((fail_if_success have := b1); intro b1)
                | ((fail_if_success have := b2); intro b2)
                | ((fail_if_success have := b3); intro b3)
                | ((fail_if_success have := b4); intro b4)
                | ((fail_if_success have := b5); intro b5)
                | ((fail_if_success have := b6); intro b6)
                | ((fail_if_success have := b7); intro b7)
                | ((fail_if_success have := b8); intro b8)
                | ((fail_if_success have := b9); intro b9)))
             | (refine Ef_box1 rfl rfl rfl ?_
                (first
                | ((fail_if_success have := b1); intro b1)
                | ((fail_if_success have := b2); intro b2)
                | ((fail_if_success have := b3); intro b3)
                | ((fail_if_success have := b4); intro b4)
                | ((fail_if_success have := b5); intro b5)
                | ((fail_if_success have := b6); intro b6)
                | ((fail_if_success have := b7); intro b7)
                | ((fail_if_success have := b8); intro b8)
                | ((fail_if_success have := b9); intro b9)))))
          | ((with_reducible refine ie_alloc ?_)
             (first
             | fail
             | (((refine' Ef_alloc rfl ?q1 ?_); (case q1 => exact zer_of rfl))
                (first
                | ((fail_if_success have := b1); intro b1)
                | ((fail_if_success have := b2); intro b2)
                | ((fail_if_success have := b3); intro b3)
                | ((fail_if_success have := b4); intro b4)
                | ((fail_if_success have := b5); intro b5)
                | ((fail_if_success have := b6); intro b6)
                | ((fail_if_success have := b7); intro b7)
                | ((fail_if_success have := b8); intro b8)
                | ((fail_if_success have := b9); intro b9)))))
          | ((with_reducible refine ie_store ?_)
             (first
             | fail
             | ((refine' Ef_storeC rfl rfl ?q1 ?q2 ?q3 ?q4 ?q5 ?_)
                (case q1 => rfl)
                (case q2 => exact siz_of rfl)
                (case q3 => (first | exact at0 | exact at1 | exact at2 | exact at3 | exact at4 | exact at5 | exact at6))
                (case q4 => exact Nat.le_of_ble_eq_true rfl)
                (case q5 => rfl))))
          | ((with_reducible refine ie_callf ?_)
             (first
             | ((with_reducible refine g_call 9 ?_); (first | refine Ef_callP rfl rfl ent_9 (fun w _ => awake_c w) ?_))
             | ((with_reducible refine g_call 10 ?_)
                (first
                | (refine Ef_callN rfl rfl ent_10 (fun w _ => new_c w) ?_
                   (first
                   | ((fail_if_success have := b1); intro b1)
                   | ((fail_if_success have := b2); intro b2)
                   | ((fail_if_success have := b3); intro b3)
                   | ((fail_if_success have := b4); intro b4)
                   | ((fail_if_success have := b5); intro b5)
                   | ((fail_if_success have := b6); intro b6)
                   | ((fail_if_success have := b7); intro b7)
                   | ((fail_if_success have := b8); intro b8)
                   | ((fail_if_success have := b9); intro b9)))))
             | ((with_reducible refine g_call 11 ?_); (first | ((refine' Ef_callT [true] rfl rfl ent_11 rfl rfl rfl (fun w hp => take_c b1 s x.1 x.2 w hk.inv ?q1 ?q2 hp) ?_); (case q1 => omega); (case q2 => omega))))))
          | ((with_reducible refine ie_app ?_)
             (first
             | fail
             | (((refine' Ef_append_row rfl rfl rfl ?q1 ?q2 ?q3 ?q4 ?q5 ?q6 ?_)
                 (case q1 => exact app_of rfl)
                 (case q2 => (first | exact at0 | exact at1 | exact at2 | exact at3 | exact at4 | exact at5 | exact at6))
                 (case q3 => (repeat (first | exact .head _ | apply List.Mem.tail)))
                 (case q4 => (first | assumption | (intro u hu; rcases hu with _ | ⟨_, _ | ⟨_, _ | ⟨_, _ | ⟨_, hu⟩⟩⟩⟩ <;> first | rfl | (cases hu; done))))
                 (case q5 => omega)
                 (case q6 => omega))
                (first
                | ((fail_if_success have := A1); intro A1 c1)
                | ((fail_if_success have := A2); intro A2 c2)
                | ((fail_if_success have := A3); intro A3 c3)
                | ((fail_if_success have := A4); intro A4 c4)
                | ((fail_if_success have := A5); intro A5 c5)
                | ((fail_if_success have := A6); intro A6 c6)
                | ((fail_if_success have := A7); intro A7 c7)))
             | (((refine' Ef_append_rd rfl rfl rfl ?q1 ?q2 ?q3 List.not_mem_nil ?q4 ?q5 ?q6 ?q7 ?_)
                 (case q1 => exact app_of rfl)
                 (case q2 => (first | exact at0 | exact at1 | exact at2 | exact at3 | exact at4 | exact at5 | exact at6))
                 (case q3 => assumption)
                 (case q4 => omega)
                 (case q5 => (first | assumption | (intro u hu; rcases hu with _ | ⟨_, _ | ⟨_, _ | ⟨_, _ | ⟨_, hu⟩⟩⟩⟩ <;> first | rfl | (cases hu; done))))
                 (case q6 => omega)
                 (case q7 => omega))
                (first
                | ((fail_if_success have := A1); intro A1 c1)
                | ((fail_if_success have := A2); intro A2 c2)
                | ((fail_if_success have := A3); intro A3 c3)
                | ((fail_if_success have := A4); intro A4 c4)
                | ((fail_if_success have := A5); intro A5 c5)
                | ((fail_if_success have := A6); intro A6 c6)
                | ((fail_if_success have := A7); intro A7 c7)))))
          | ((with_reducible refine ie_bsl ?_)
             (first
             | fail
             | (((refine' Ef_bslA rfl rfl ?q1 ?q2 ?q3 ?_); (case q1 => exact app_of rfl); (case q2 => rfl); (case q3 => decide))
                (first
                | ((fail_if_success have := b1); intro b1)
                | ((fail_if_success have := b2); intro b2)
                | ((fail_if_success have := b3); intro b3)
                | ((fail_if_success have := b4); intro b4)
                | ((fail_if_success have := b5); intro b5)
                | ((fail_if_success have := b6); intro b6)
                | ((fail_if_success have := b7); intro b7)
                | ((fail_if_success have := b8); intro b8)
                | ((fail_if_success have := b9); intro b9)))
             | (((refine' Ef_bsl1 rfl rfl rfl ?q1 ?_); (case q1 => exact app_of rfl))
                (first
                | ((fail_if_success have := b1); intro b1)
                | ((fail_if_success have := b2); intro b2)
                | ((fail_if_success have := b3); intro b3)
                | ((fail_if_success have := b4); intro b4)
                | ((fail_if_success have := b5); intro b5)
                | ((fail_if_success have := b6); intro b6)
                | ((fail_if_success have := b7); intro b7)
                | ((fail_if_success have := b8); intro b8)
                | ((fail_if_success have := b9); intro b9)))))
          | (first | fail)
          | refine Ef_y rfl rfl ?_)
  · exact ret_n [] (res1 rfl rfl) (List.nil_sublist _) ⟨rfl, rfl⟩
  refine T.row0e 29 2 ?_
  refine T.loop (α := Win.St × Nat × List (Int × Int) × Option Addr × Nat) (fun x => [(0, .slice A len cap), (3, .pointer (some ⟨b1, 0, none⟩)), (4, .slice x.2.2.2.1 x.2.2.1.length x.2.2.2.2), (5, .int .i64 (x.2.1 : Int))])
    (fun x => [wB b1 x.1, .row 29 2 (.slice x.2.2.2.1 x.2.2.1.length x.2.2.2.2) x.2.2.1.length (x.2.2.1.flatMap nE)])
    (fun x => Win.Knows x.1 (fun b m => (b, m) ∈ x.2.2.1) ∧ x.2.2.1.length ≤ x.2.1 ∧ x.2.1 ≤ len) (fun x => len - x.2.1) (Win.new, 0, [], none, 0) ?_ ?_ ?_ ?_
  · (repeat (first | exact Sub.nil | refine Sub.cons rfl ?_))
  · (repeat (first | exact List.nil_sublist _ | refine List.Sublist.cons_cons _ ?_ | refine List.Sublist.cons _ ?_))
  · exact ⟨Win.knows_new.congr fun b m => by simp, Nat.le_refl _, Nat.zero_le _⟩
  · rintro ⟨s, i, tk, A2, c2⟩ ⟨hk, h1, h2⟩
    dsimp only at hk h1 h2 ⊢
    by_cases hlt : i < len
    · obtain ⟨x, hx⟩ := some_of_lt (l := zs) (i := i) (by omega)
      have e0 : (zs.flatMap nE)[i * 2 + 0]? = some (.int .i64 x.1) := enc_at nE_len hx (by omega)
      have e1 : (zs.flatMap nE)[i * 2 + 1]? = some (.int .i64 x.2) := enc_at nE_len hx (by omega)
      have eA := enc_atA nE_len hx
      have oE := nE_one x
      have hxb := hz x (mem_of_some hx)
      repeat' (first
              | with_reducible refine T.seq ?_
              | with_reducible refine T.block ?_
              | with_reducible refine T.region ?_
              | with_reducible refine T.skip ?_
              | with_reducible refine T.ret ?_
              | with_reducible refine T.exit ?_
              | with_reducible refine seqQ_n ?_
              | with_reducible refine seqQ_x ?_
              | with_reducible refine seqQ_r ?_
              | with_reducible refine blockQ_n ?_
              | with_reducible refine blockQ_r ?_
              | with_reducible refine blockQ_x ?_
              | ((with_reducible refine g_blkx ?_); refine blockQ_y rfl ?_)
              | with_reducible refine loopQ_x ?_
              | with_reducible refine loopQ_r ?_
              | ((with_reducible refine g_cond ?_); (first | refine T.cond_t rfl ?_ | refine T.cond_f rfl ?_ | (refine T.cond_s rfl ?_ ?_ <;> intro hc)))
              | with_reducible refine TL_nil ?_
              | with_reducible refine TS_nil ?_
              | ((with_reducible refine g_draw ?_)
                 (first
                 | (((with_reducible refine' T.draw0 (id := 10) [(0, true), (1, true), (2, true), (3, true), (4, true), (5, true), (6, true), (7, true), (8, true), (9, true), (10, true), (11, false), (12, true)] mixd ?q1 ?_); (case q1 => kernel_rfl)))
                 | (((with_reducible refine' T.drawM (id := 14) [(0, true), (1, true), (2, true), (3, true), (4, true), (5, true), (6, true), (7, true), (8, true), (9, true), (10, true), (11, true), (12, true), (13, true), (14, true), (15, true), (16, true), (17, true), (18, true), (19, true), (20, true), (21, true)] mixd ?q1 ?_)
                     (case q1 => kernel_rfl)))))
              | ((with_reducible refine TL_y' ?hy ?hd ?_); (case hy => rfl); (case hd => rfl))
              | with_reducible refine TL_e ?_
              | ((with_reducible refine g_TL ?_); (first | refine TL_gy' rfl rfl rfl rfl ?_ | refine TL_gn rfl rfl rfl ?_ | refine TL_gu rfl rfl rfl ?_ | refine TL_ge rfl rfl ?_ | refine TL_gn0 rfl rfl ?_))
              | ((with_reducible refine g_TS ?_)
                 (first
                 | refine TS_y rfl rfl ?_
                 | refine TS_e rfl ?_
                 | refine TS_gy rfl rfl rfl rfl ?_
                 | refine TS_gn rfl rfl rfl rfl ?_
                 | refine TS_gu rfl rfl rfl rfl ?_
                 | refine TS_ge rfl rfl rfl ?_
                 | refine TS_gne rfl rfl rfl rfl ?_
                 | refine TS_gue rfl rfl rfl rfl ?_
                 | refine TS_gne0 rfl rfl rfl ?_))
              | ((with_reducible refine TSand ?hd ?_); (case hd => (repeat (first | exact List.nil_sublist _ | refine List.Sublist.cons_cons _ ?_ | refine List.Sublist.cons _ ?_))))
              | ((with_reducible refine is_move ?_); refine ⟨_, Yl_move rfl, ?_⟩)
              | ((with_reducible refine is_assign ?_); refine ⟨_, Yl_assign rfl, ?_⟩)
              | ((with_reducible refine is_pick ?_); (first | refine ⟨_, Yl_pick_t rfl rfl, ?_⟩ | refine ⟨_, Yl_pick_f rfl rfl, ?_⟩))
              | ((with_reducible refine is_nil ?_); refine ⟨_, Yl_nilCheck rfl, ?_⟩)
              | ((with_reducible refine is_fld ?_)
                 (first | ((refine' ⟨_, Yl_fld_blk0 rfl ?q1, ?_⟩); (case q1 => exact fld_of rfl rfl)) | ((refine' ⟨_, Yl_fld_blk rfl ?q1, ?_⟩); (case q1 => exact fld_of rfl rfl)) | ((refine' ⟨_, Yl_fld_ad rfl ?q1, ?_⟩); (case q1 => exact fld_of rfl rfl))))
              | ((with_reducible refine is_load ?_)
                 (first
                 | fail
                 | ((refine' ⟨_, Yl_load_blk rfl ?q1 ?q2 ?q3, ?_⟩); (case q1 => exact one_of rfl); (case q2 => (repeat (first | exact .head _ | apply List.Mem.tail))); (case q3 => rfl))
                 | ((refine' ⟨_, Yl_loadA_blk rfl ?q1 ?q2, ?_⟩); (case q1 => (repeat (first | exact .head _ | apply List.Mem.tail))); (case q2 => exact agg_of rfl))
                 | ((refine' ⟨_, Yl_load_blk rfl ?q1 ?q2 ?q3, ?_⟩); (case q1 => exact one_of rfl); (case q2 => (repeat (first | exact .head _ | apply List.Mem.tail))); (case q3 => assumption))
                 | ((refine' ⟨_, Yl_load_rd rfl ?q1 ?q2 List.not_mem_nil ?q3, ?_⟩); (case q1 => exact one_of rfl); (case q2 => assumption); (case q3 => assumption))
                 | ((refine' ⟨_, Yl_load_row rfl ?q1 ?q2 ?q3, ?_⟩); (case q1 => exact one_of rfl); (case q2 => (repeat (first | exact .head _ | apply List.Mem.tail))); (case q3 => assumption))
                 | ((refine' ⟨_, Yl_loadA_rd rfl ?qa ?qb List.not_mem_nil ?ql ?qc, ?_⟩); (case qa => exact agg_of rfl); (case qb => assumption); (case qc => assumption); (case ql => rfl))
                 | ((refine' ⟨_, Yl_loadA_row rfl ?qa ?qb ?ql ?qc, ?_⟩); (case qa => exact agg_of rfl); (case qb => (repeat (first | exact .head _ | apply List.Mem.tail))); (case qc => assumption); (case ql => rfl))))
              | ((with_reducible refine is_idx ?_)
                 (first
                 | fail
                 | ((refine' ⟨_, Yl_index rfl rfl ?q1 ?q2 ?q3 (Rd.some_ ?q4 ?q5), ?_⟩); (case q1 => exact und_of rfl); (case q2 => exact siz_of rfl); (case q3 => omega); (case q4 => assumption); (case q5 => omega))
                 | ((refine' ⟨_, Yl_index_row rfl rfl ?q1 ?q2 ?q3 ?q4, ?_⟩); (case q1 => exact und_of rfl); (case q2 => exact siz_of rfl); (case q3 => omega); (case q4 => (repeat (first | exact .head _ | apply List.Mem.tail))))
                 | ((refine' ⟨_, Yl_index rfl rfl ?q1 ?q2 ?q3 rfl, ?_⟩); (case q1 => exact und_of rfl); (case q2 => exact siz_of rfl); (case q3 => omega))))
              | ((with_reducible refine is_ext ?_); refine ⟨_, Yl_extract rfl rfl, ?_⟩)
              | ((with_reducible refine is_un ?_); refine ⟨_, Yl_not rfl, ?_⟩)
              | ((with_reducible refine is_len ?_); (first | ((refine' ⟨_, Yl_len_slice rfl ?q1, ?_⟩); (case q1 => exact und_of rfl)) | ((refine' ⟨_, Yl_len_string rfl ?q1, ?_⟩); (case q1 => exact und_of rfl))))
              | ((with_reducible refine is_b_lss ?_); (first | ((refine' ⟨_, Yl_lss_t rfl rfl ?q1, ?_⟩); (case q1 => omega)) | ((refine' ⟨_, Yl_lss_f rfl rfl ?q1, ?_⟩); (case q1 => omega)) | (refine sp_lss rfl rfl ?_ ?_ <;> intro hc)))
              | ((with_reducible refine is_b_leq ?_); (first | ((refine' ⟨_, Yl_leq_t rfl rfl ?q1, ?_⟩); (case q1 => omega)) | ((refine' ⟨_, Yl_leq_f rfl rfl ?q1, ?_⟩); (case q1 => omega)) | (refine sp_leq rfl rfl ?_ ?_ <;> intro hc)))
              | ((with_reducible refine is_b_gtr ?_); (first | ((refine' ⟨_, Yl_gtr_t rfl rfl ?q1, ?_⟩); (case q1 => omega)) | ((refine' ⟨_, Yl_gtr_f rfl rfl ?q1, ?_⟩); (case q1 => omega)) | (refine sp_gtr rfl rfl ?_ ?_ <;> intro hc)))
              | ((with_reducible refine is_b_geq ?_); (first | ((refine' ⟨_, Yl_geq_t rfl rfl ?q1, ?_⟩); (case q1 => omega)) | ((refine' ⟨_, Yl_geq_f rfl rfl ?q1, ?_⟩); (case q1 => omega)) | (refine sp_geq rfl rfl ?_ ?_ <;> intro hc)))
              | ((with_reducible refine is_b_eql ?_)
                 (first
                 | ((refine' ⟨_, Yl_eql_t rfl rfl ?q1, ?_⟩); (case q1 => omega))
                 | ((refine' ⟨_, Yl_eql_f rfl rfl ?q1, ?_⟩); (case q1 => omega))
                 | (refine sp_eql rfl rfl ?_ ?_ <;> intro hc)
                 | ((refine' ⟨_, Yl_eqlA rfl rfl (eqg_of rfl) (eqN_f _ _ ?q1).run, ?_⟩); (case q1 => assumption))))
              | ((with_reducible refine is_b_neq ?_)
                 (first
                 | ((refine' ⟨_, Yl_neq_t rfl rfl ?q1, ?_⟩); (case q1 => omega))
                 | ((refine' ⟨_, Yl_neq_f rfl rfl ?q1, ?_⟩); (case q1 => omega))
                 | (refine sp_neq rfl rfl ?_ ?_ <;> intro hc)
                 | ((refine' ⟨_, Yl_eqlA rfl rfl (eqg_of rfl) (eqN_f _ _ ?q1).run, ?_⟩); (case q1 => assumption))))
              | ((with_reducible refine is_b_add ?_); (first | ((refine' ⟨_, Yl_add rfl rfl ?q1 ?q2, ?_⟩); (case q1 => omega); (case q2 => omega)) | ((refine' ⟨_, Yl_eqlA rfl rfl (eqg_of rfl) (eqN_f _ _ ?q1).run, ?_⟩); (case q1 => assumption))))
              | ((with_reducible refine is_b_sub ?_); (first | ((refine' ⟨_, Yl_sub rfl rfl ?q1 ?q2, ?_⟩); (case q1 => omega); (case q2 => omega)) | ((refine' ⟨_, Yl_eqlA rfl rfl (eqg_of rfl) (eqN_f _ _ ?q1).run, ?_⟩); (case q1 => assumption))))
              | ((with_reducible refine is_build ?_); (first | fail))
              | (first | ((refine' ⟨_, Yl_eqlA rfl rfl (eqg_of rfl) (eqN_f _ _ ?q1).run, ?_⟩); (case q1 => assumption)))
              | ((with_reducible refine ie_box ?_)
                 (first
                 | (refine Ef_boxA rfl rfl ?_
                    (first
                    | ((fail_if_success have := b1); intro b1)
                    | ((fail_if_success have := b2); intro b2)
                    | ((fail_if_success have := b3); intro b3)
                    | ((fail_if_success have := b4); intro b4)
                    | ((fail_if_success have := b5); intro b5)
                    | ((fail_if_success have := b6); intro b6)
                    | ((fail_if_success have := b7); intro b7)
                    | ((fail_if_success have := b8); intro b8)
                    | ((fail_if_success have := b9); intro b9)))
                 | (refine Ef_box1 rfl rfl rfl ?_
                    (first
                    | ((fail_if_success have := b1); intro b1)
                    | ((fail_if_success have := b2); intro b2)
                    | ((fail_if_success have := b3); intro b3)
                    | ((fail_if_success have := b4); intro b4)
                    | ((fail_if_success have := b5); intro b5)
                    | ((fail_if_success have := b6); intro b6)
                    | ((fail_if_success have := b7); intro b7)
                    | ((fail_if_success have := b8); intro b8)
                    | ((fail_if_success have := b9); intro b9)))))
              | ((with_reducible refine ie_alloc ?_)
                 (first
                 | fail
                 | (((refine' Ef_alloc rfl ?q1 ?_); (case q1 => exact zer_of rfl))
                    (first
                    | ((fail_if_success have := b1); intro b1)
                    | ((fail_if_success have := b2); intro b2)
                    | ((fail_if_success have := b3); intro b3)
                    | ((fail_if_success have := b4); intro b4)
                    | ((fail_if_success have := b5); intro b5)
                    | ((fail_if_success have := b6); intro b6)
                    | ((fail_if_success have := b7); intro b7)
                    | ((fail_if_success have := b8); intro b8)
                    | ((fail_if_success have := b9); intro b9)))))
              | ((with_reducible refine ie_store ?_)
                 (first
                 | fail
                 | ((refine' Ef_storeC rfl rfl ?q1 ?q2 ?q3 ?q4 ?q5 ?_)
                    (case q1 => rfl)
                    (case q2 => exact siz_of rfl)
                    (case q3 => (first | exact at0 | exact at1 | exact at2 | exact at3 | exact at4 | exact at5 | exact at6))
                    (case q4 => exact Nat.le_of_ble_eq_true rfl)
                    (case q5 => rfl))))
              | ((with_reducible refine ie_callf ?_)
                 (first
                 | ((with_reducible refine g_call 9 ?_); (first | refine Ef_callP rfl rfl ent_9 (fun w _ => awake_c w) ?_))
                 | ((with_reducible refine g_call 10 ?_)
                    (first
                    | (refine Ef_callN rfl rfl ent_10 (fun w _ => new_c w) ?_
                       (first
                       | ((fail_if_success have := b1); intro b1)
                       | ((fail_if_success have := b2); intro b2)
                       | ((fail_if_success have := b3); intro b3)
                       | ((fail_if_success have := b4); intro b4)
                       | ((fail_if_success have := b5); intro b5)
                       | ((fail_if_success have := b6); intro b6)
                       | ((fail_if_success have := b7); intro b7)
                       | ((fail_if_success have := b8); intro b8)
                       | ((fail_if_success have := b9); intro b9)))))
                 | ((with_reducible refine g_call 11 ?_); (first | ((refine' Ef_callT [true] rfl rfl ent_11 rfl rfl rfl (fun w hp => take_c b1 s x.1 x.2 w hk.inv ?q1 ?q2 hp) ?_); (case q1 => omega); (case q2 => omega))))))
              | ((with_reducible refine ie_app ?_)
                 (first
                 | fail
                 | (((refine' Ef_append_row rfl rfl rfl ?q1 ?q2 ?q3 ?q4 ?q5 ?q6 ?_)
                     (case q1 => exact app_of rfl)
                     (case q2 => (first | exact at0 | exact at1 | exact at2 | exact at3 | exact at4 | exact at5 | exact at6))
                     (case q3 => (repeat (first | exact .head _ | apply List.Mem.tail)))
                     (case q4 => (first | assumption | (intro u hu; rcases hu with _ | ⟨_, _ | ⟨_, _ | ⟨_, _ | ⟨_, hu⟩⟩⟩⟩ <;> first | rfl | (cases hu; done))))
                     (case q5 => omega)
                     (case q6 => omega))
                    (first
                    | ((fail_if_success have := A1); intro A1 c1)
                    | ((fail_if_success have := A2); intro A2 c2)
                    | ((fail_if_success have := A3); intro A3 c3)
                    | ((fail_if_success have := A4); intro A4 c4)
                    | ((fail_if_success have := A5); intro A5 c5)
                    | ((fail_if_success have := A6); intro A6 c6)
                    | ((fail_if_success have := A7); intro A7 c7)))
                 | (((refine' Ef_append_rd rfl rfl rfl ?q1 ?q2 ?q3 List.not_mem_nil ?q4 ?q5 ?q6 ?q7 ?_)
                     (case q1 => exact app_of rfl)
                     (case q2 => (first | exact at0 | exact at1 | exact at2 | exact at3 | exact at4 | exact at5 | exact at6))
                     (case q3 => assumption)
                     (case q4 => omega)
                     (case q5 => (first | assumption | (intro u hu; rcases hu with _ | ⟨_, _ | ⟨_, _ | ⟨_, _ | ⟨_, hu⟩⟩⟩⟩ <;> first | rfl | (cases hu; done))))
                     (case q6 => omega)
                     (case q7 => omega))
                    (first
                    | ((fail_if_success have := A1); intro A1 c1)
                    | ((fail_if_success have := A2); intro A2 c2)
                    | ((fail_if_success have := A3); intro A3 c3)
                    | ((fail_if_success have := A4); intro A4 c4)
                    | ((fail_if_success have := A5); intro A5 c5)
                    | ((fail_if_success have := A6); intro A6 c6)
                    | ((fail_if_success have := A7); intro A7 c7)))))
              | ((with_reducible refine ie_bsl ?_)
                 (first
                 | fail
                 | (((refine' Ef_bslA rfl rfl ?q1 ?q2 ?q3 ?_); (case q1 => exact app_of rfl); (case q2 => rfl); (case q3 => decide))
                    (first
                    | ((fail_if_success have := b1); intro b1)
                    | ((fail_if_success have := b2); intro b2)
                    | ((fail_if_success have := b3); intro b3)
                    | ((fail_if_success have := b4); intro b4)
                    | ((fail_if_success have := b5); intro b5)
                    | ((fail_if_success have := b6); intro b6)
                    | ((fail_if_success have := b7); intro b7)
                    | ((fail_if_success have := b8); intro b8)
                    | ((fail_if_success have := b9); intro b9)))
                 | (((refine' Ef_bsl1 rfl rfl rfl ?q1 ?_); (case q1 => exact app_of rfl))
                    (first
                    | ((fail_if_success have := b1); intro b1)
                    | ((fail_if_success have := b2); intro b2)
                    | ((fail_if_success have := b3); intro b3)
                    | ((fail_if_success have := b4); intro b4)
                    | ((fail_if_success have := b5); intro b5)
                    | ((fail_if_success have := b6); intro b6)
                    | ((fail_if_success have := b7); intro b7)
                    | ((fail_if_success have := b8); intro b8)
                    | ((fail_if_success have := b9); intro b9)))))
              | (first | fail)
              | refine Ef_y rfl rfl ?_)
      · refine loopQ_n ((Win.take s x.1 x.2).1, i + 1, tk, A2, c2) ?_ ?_ ⟨by rw [Win.take_err s x.1 x.2 hc]; exact hk, by (first | omega | (dsimp only; omega) | (simp; omega)), by (first | omega | (dsimp only; omega) | (simp; omega))⟩ (by (first | omega | (dsimp only; omega) | (simp; omega)))
        · (repeat (first | exact Sub.nil | refine Sub.cons rfl ?_))
        · (repeat (first | exact List.nil_sublist _ | refine List.Sublist.cons_cons _ ?_ | refine List.Sublist.cons _ ?_))
      · obtain ⟨o1, o2, o3⟩ := Win.once_step hk hxb.1 hxb.2 hc
        refine T.loop (α := Nat) (fun k => [(0, .slice A len cap), (3, .pointer (some ⟨b1, 0, none⟩)), (4, .slice A2 tk.length c2), (5, .int .i64 (i : Int)), (6, .int .i64 (k : Int))])
          (fun _ => [wB b1 (Win.take s x.1 x.2).1, .row 29 2 (.slice A2 tk.length c2) tk.length (tk.flatMap nE)]) (fun k => k ≤ tk.length) (fun k => tk.length - k) 0 ?_ ?_ ?_ ?_
        · (repeat (first | exact Sub.nil | refine Sub.cons rfl ?_))
        · (repeat (first | exact List.nil_sublist _ | refine List.Sublist.cons_cons _ ?_ | refine List.Sublist.cons _ ?_))
        · exact Nat.zero_le _
        · intro k hkk
          try dsimp only at hkk ⊢
          by_cases hlk : k < tk.length
          · obtain ⟨y, hy⟩ := some_of_lt hlk
            have f0 : (tk.flatMap nE)[k * 2 + 0]? = some (.int .i64 y.1) := enc_at nE_len hy (by omega)
            have fA := enc_atA nE_len hy
            have hyx : y ≠ x := fun e => o1 (e ▸ mem_of_some hy)
            have hyb := o2 y (mem_of_some hy)
            repeat' (first
                    | with_reducible refine T.seq ?_
                    | with_reducible refine T.block ?_
                    | with_reducible refine T.region ?_
                    | with_reducible refine T.skip ?_
                    | with_reducible refine T.ret ?_
                    | with_reducible refine T.exit ?_
                    | with_reducible refine seqQ_n ?_
                    | with_reducible refine seqQ_x ?_
                    | with_reducible refine seqQ_r ?_
                    | with_reducible refine blockQ_n ?_
                    | with_reducible refine blockQ_r ?_
                    | with_reducible refine blockQ_x ?_
                    | ((with_reducible refine g_blkx ?_); refine blockQ_y rfl ?_)
                    | with_reducible refine loopQ_x ?_
                    | with_reducible refine loopQ_r ?_
                    | ((with_reducible refine g_cond ?_); (first | refine T.cond_t rfl ?_ | refine T.cond_f rfl ?_ | (refine T.cond_s rfl ?_ ?_ <;> intro hc)))
                    | with_reducible refine TL_nil ?_
                    | with_reducible refine TS_nil ?_
                    | ((with_reducible refine g_draw ?_)
                       (first
                       | (((with_reducible refine' T.draw0 (id := 10) [(0, true), (1, true), (2, true), (3, true), (4, true), (5, true), (6, true), (7, true), (8, true), (9, true), (10, true), (11, false), (12, true)] mixd ?q1 ?_); (case q1 => kernel_rfl)))
                       | (((with_reducible refine' T.drawM (id := 14) [(0, true), (1, true), (2, true), (3, true), (4, true), (5, true), (6, true), (7, true), (8, true), (9, true), (10, true), (11, true), (12, true), (13, true), (14, true), (15, true), (16, true), (17, true), (18, true), (19, true), (20, true), (21, true)] mixd ?q1 ?_)
                           (case q1 => kernel_rfl)))))
                    | ((with_reducible refine TL_y' ?hy ?hd ?_); (case hy => rfl); (case hd => rfl))
                    | with_reducible refine TL_e ?_
                    | ((with_reducible refine g_TL ?_); (first | refine TL_gy' rfl rfl rfl rfl ?_ | refine TL_gn rfl rfl rfl ?_ | refine TL_gu rfl rfl rfl ?_ | refine TL_ge rfl rfl ?_ | refine TL_gn0 rfl rfl ?_))
                    | ((with_reducible refine g_TS ?_)
                       (first
                       | refine TS_y rfl rfl ?_
                       | refine TS_e rfl ?_
                       | refine TS_gy rfl rfl rfl rfl ?_
                       | refine TS_gn rfl rfl rfl rfl ?_
                       | refine TS_gu rfl rfl rfl rfl ?_
                       | refine TS_ge rfl rfl rfl ?_
                       | refine TS_gne rfl rfl rfl rfl ?_
                       | refine TS_gue rfl rfl rfl rfl ?_
                       | refine TS_gne0 rfl rfl rfl ?_))
                    | ((with_reducible refine TSand ?hd ?_); (case hd => (repeat (first | exact List.nil_sublist _ | refine List.Sublist.cons_cons _ ?_ | refine List.Sublist.cons _ ?_))))
                    | ((with_reducible refine is_move ?_); refine ⟨_, Yl_move rfl, ?_⟩)
                    | ((with_reducible refine is_assign ?_); refine ⟨_, Yl_assign rfl, ?_⟩)
                    | ((with_reducible refine is_pick ?_); (first | refine ⟨_, Yl_pick_t rfl rfl, ?_⟩ | refine ⟨_, Yl_pick_f rfl rfl, ?_⟩))
                    | ((with_reducible refine is_nil ?_); refine ⟨_, Yl_nilCheck rfl, ?_⟩)
                    | ((with_reducible refine is_fld ?_)
                       (first | ((refine' ⟨_, Yl_fld_blk0 rfl ?q1, ?_⟩); (case q1 => exact fld_of rfl rfl)) | ((refine' ⟨_, Yl_fld_blk rfl ?q1, ?_⟩); (case q1 => exact fld_of rfl rfl)) | ((refine' ⟨_, Yl_fld_ad rfl ?q1, ?_⟩); (case q1 => exact fld_of rfl rfl))))
                    | ((with_reducible refine is_load ?_)
                       (first
                       | fail
                       | ((refine' ⟨_, Yl_load_blk rfl ?q1 ?q2 ?q3, ?_⟩); (case q1 => exact one_of rfl); (case q2 => (repeat (first | exact .head _ | apply List.Mem.tail))); (case q3 => rfl))
                       | ((refine' ⟨_, Yl_loadA_blk rfl ?q1 ?q2, ?_⟩); (case q1 => (repeat (first | exact .head _ | apply List.Mem.tail))); (case q2 => exact agg_of rfl))
                       | ((refine' ⟨_, Yl_load_blk rfl ?q1 ?q2 ?q3, ?_⟩); (case q1 => exact one_of rfl); (case q2 => (repeat (first | exact .head _ | apply List.Mem.tail))); (case q3 => assumption))
                       | ((refine' ⟨_, Yl_load_rd rfl ?q1 ?q2 List.not_mem_nil ?q3, ?_⟩); (case q1 => exact one_of rfl); (case q2 => assumption); (case q3 => assumption))
                       | ((refine' ⟨_, Yl_load_row rfl ?q1 ?q2 ?q3, ?_⟩); (case q1 => exact one_of rfl); (case q2 => (repeat (first | exact .head _ | apply List.Mem.tail))); (case q3 => assumption))
                       | ((refine' ⟨_, Yl_loadA_rd rfl ?qa ?qb List.not_mem_nil ?ql ?qc, ?_⟩); (case qa => exact agg_of rfl); (case qb => assumption); (case qc => assumption); (case ql => rfl))
                       | ((refine' ⟨_, Yl_loadA_row rfl ?qa ?qb ?ql ?qc, ?_⟩); (case qa => exact agg_of rfl); (case qb => (repeat (first | exact .head _ | apply List.Mem.tail))); (case qc => assumption); (case ql => rfl))))
                    | ((with_reducible refine is_idx ?_)
                       (first
                       | fail
                       | ((refine' ⟨_, Yl_index rfl rfl ?q1 ?q2 ?q3 (Rd.some_ ?q4 ?q5), ?_⟩); (case q1 => exact und_of rfl); (case q2 => exact siz_of rfl); (case q3 => omega); (case q4 => assumption); (case q5 => omega))
                       | ((refine' ⟨_, Yl_index_row rfl rfl ?q1 ?q2 ?q3 ?q4, ?_⟩); (case q1 => exact und_of rfl); (case q2 => exact siz_of rfl); (case q3 => omega); (case q4 => (repeat (first | exact .head _ | apply List.Mem.tail))))
                       | ((refine' ⟨_, Yl_index rfl rfl ?q1 ?q2 ?q3 rfl, ?_⟩); (case q1 => exact und_of rfl); (case q2 => exact siz_of rfl); (case q3 => omega))))
                    | ((with_reducible refine is_ext ?_); refine ⟨_, Yl_extract rfl rfl, ?_⟩)
                    | ((with_reducible refine is_un ?_); refine ⟨_, Yl_not rfl, ?_⟩)
                    | ((with_reducible refine is_len ?_); (first | ((refine' ⟨_, Yl_len_slice rfl ?q1, ?_⟩); (case q1 => exact und_of rfl)) | ((refine' ⟨_, Yl_len_string rfl ?q1, ?_⟩); (case q1 => exact und_of rfl))))
                    | ((with_reducible refine is_b_lss ?_); (first | ((refine' ⟨_, Yl_lss_t rfl rfl ?q1, ?_⟩); (case q1 => omega)) | ((refine' ⟨_, Yl_lss_f rfl rfl ?q1, ?_⟩); (case q1 => omega)) | (refine sp_lss rfl rfl ?_ ?_ <;> intro hc)))
                    | ((with_reducible refine is_b_leq ?_); (first | ((refine' ⟨_, Yl_leq_t rfl rfl ?q1, ?_⟩); (case q1 => omega)) | ((refine' ⟨_, Yl_leq_f rfl rfl ?q1, ?_⟩); (case q1 => omega)) | (refine sp_leq rfl rfl ?_ ?_ <;> intro hc)))
                    | ((with_reducible refine is_b_gtr ?_); (first | ((refine' ⟨_, Yl_gtr_t rfl rfl ?q1, ?_⟩); (case q1 => omega)) | ((refine' ⟨_, Yl_gtr_f rfl rfl ?q1, ?_⟩); (case q1 => omega)) | (refine sp_gtr rfl rfl ?_ ?_ <;> intro hc)))
                    | ((with_reducible refine is_b_geq ?_); (first | ((refine' ⟨_, Yl_geq_t rfl rfl ?q1, ?_⟩); (case q1 => omega)) | ((refine' ⟨_, Yl_geq_f rfl rfl ?q1, ?_⟩); (case q1 => omega)) | (refine sp_geq rfl rfl ?_ ?_ <;> intro hc)))
                    | ((with_reducible refine is_b_eql ?_)
                       (first
                       | ((refine' ⟨_, Yl_eql_t rfl rfl ?q1, ?_⟩); (case q1 => omega))
                       | ((refine' ⟨_, Yl_eql_f rfl rfl ?q1, ?_⟩); (case q1 => omega))
                       | (refine sp_eql rfl rfl ?_ ?_ <;> intro hc)
                       | ((refine' ⟨_, Yl_eqlA rfl rfl (eqg_of rfl) (eqN_f _ _ ?q1).run, ?_⟩); (case q1 => assumption))))
                    | ((with_reducible refine is_b_neq ?_)
                       (first
                       | ((refine' ⟨_, Yl_neq_t rfl rfl ?q1, ?_⟩); (case q1 => omega))
                       | ((refine' ⟨_, Yl_neq_f rfl rfl ?q1, ?_⟩); (case q1 => omega))
                       | (refine sp_neq rfl rfl ?_ ?_ <;> intro hc)
                       | ((refine' ⟨_, Yl_eqlA rfl rfl (eqg_of rfl) (eqN_f _ _ ?q1).run, ?_⟩); (case q1 => assumption))))
                    | ((with_reducible refine is_b_add ?_); (first | ((refine' ⟨_, Yl_add rfl rfl ?q1 ?q2, ?_⟩); (case q1 => omega); (case q2 => omega)) | ((refine' ⟨_, Yl_eqlA rfl rfl (eqg_of rfl) (eqN_f _ _ ?q1).run, ?_⟩); (case q1 => assumption))))
                    | ((with_reducible refine is_b_sub ?_); (first | ((refine' ⟨_, Yl_sub rfl rfl ?q1 ?q2, ?_⟩); (case q1 => omega); (case q2 => omega)) | ((refine' ⟨_, Yl_eqlA rfl rfl (eqg_of rfl) (eqN_f _ _ ?q1).run, ?_⟩); (case q1 => assumption))))
                    | ((with_reducible refine is_build ?_); (first | fail))
                    | (first | ((refine' ⟨_, Yl_eqlA rfl rfl (eqg_of rfl) (eqN_f _ _ ?q1).run, ?_⟩); (case q1 => assumption)))
                    | ((with_reducible refine ie_box ?_)
                       (first
                       | (refine Ef_boxA rfl rfl ?_
                          (first
                          | ((fail_if_success have := b1); intro b1)
                          | ((fail_if_success have := b2); intro b2)
                          | ((fail_if_success have := b3); intro b3)
                          | ((fail_if_success have := b4); intro b4)
                          | ((fail_if_success have := b5); intro b5)
                          | ((fail_if_success have := b6); intro b6)
                          | ((fail_if_success have := b7); intro b7)
                          | ((fail_if_success have := b8); intro b8)
                          | ((fail_if_success have := b9); intro b9)))
                       | (refine Ef_box1 rfl rfl rfl ?_
                          (first
                          | ((fail_if_success have := b1); intro b1)
                          | ((fail_if_success have := b2); intro b2)
                          | ((fail_if_success have := b3); intro b3)
                          | ((fail_if_success have := b4); intro b4)
                          | ((fail_if_success have := b5); intro b5)
                          | ((fail_if_success have := b6); intro b6)
                          | ((fail_if_success have := b7); intro b7)
                          | ((fail_if_success have := b8); intro b8)
                          | ((fail_if_success have := b9); intro b9)))))
                    | ((with_reducible refine ie_alloc ?_)
                       (first
                       | fail
                       | (((refine' Ef_alloc rfl ?q1 ?_); (case q1 => exact zer_of rfl))
                          (first
                          | ((fail_if_success have := b1); intro b1)
                          | ((fail_if_success have := b2); intro b2)
                          | ((fail_if_success have := b3); intro b3)
                          | ((fail_if_success have := b4); intro b4)
                          | ((fail_if_success have := b5); intro b5)
                          | ((fail_if_success have := b6); intro b6)
                          | ((fail_if_success have := b7); intro b7)
                          | ((fail_if_success have := b8); intro b8)
                          | ((fail_if_success have := b9); intro b9)))))
                    | ((with_reducible refine ie_store ?_)
                       (first
                       | fail
                       | ((refine' Ef_storeC rfl rfl ?q1 ?q2 ?q3 ?q4 ?q5 ?_)
                          (case q1 => rfl)
                          (case q2 => exact siz_of rfl)
                          (case q3 => (first | exact at0 | exact at1 | exact at2 | exact at3 | exact at4 | exact at5 | exact at6))
                          (case q4 => exact Nat.le_of_ble_eq_true rfl)
                          (case q5 => rfl))))
                    | ((with_reducible refine ie_callf ?_)
                       (first
                       | ((with_reducible refine g_call 9 ?_); (first | refine Ef_callP rfl rfl ent_9 (fun w _ => awake_c w) ?_))
                       | ((with_reducible refine g_call 10 ?_)
                          (first
                          | (refine Ef_callN rfl rfl ent_10 (fun w _ => new_c w) ?_
                             (first
                             | ((fail_if_success have := b1); intro b1)
                             | ((fail_if_success have := b2); intro b2)
                             | ((fail_if_success have := b3); intro b3)
                             | ((fail_if_success have := b4); intro b4)
                             | ((fail_if_success have := b5); intro b5)
                             | ((fail_if_success have := b6); intro b6)
                             | ((fail_if_success have := b7); intro b7)
                             | ((fail_if_success have := b8); intro b8)
                             | ((fail_if_success have := b9); intro b9)))))
                       | ((with_reducible refine g_call 11 ?_); (first | ((refine' Ef_callT [true] rfl rfl ent_11 rfl rfl rfl (fun w hp => take_c b1 s x.1 x.2 w hk.inv ?q1 ?q2 hp) ?_); (case q1 => omega); (case q2 => omega))))))
                    | ((with_reducible refine ie_app ?_)
                       (first
                       | fail
                       | (((refine' Ef_append_row rfl rfl rfl ?q1 ?q2 ?q3 ?q4 ?q5 ?q6 ?_)
                           (case q1 => exact app_of rfl)
                           (case q2 => (first | exact at0 | exact at1 | exact at2 | exact at3 | exact at4 | exact at5 | exact at6))
                           (case q3 => (repeat (first | exact .head _ | apply List.Mem.tail)))
                           (case q4 => (first | assumption | (intro u hu; rcases hu with _ | ⟨_, _ | ⟨_, _ | ⟨_, _ | ⟨_, hu⟩⟩⟩⟩ <;> first | rfl | (cases hu; done))))
                           (case q5 => omega)
                           (case q6 => omega))
                          (first
                          | ((fail_if_success have := A1); intro A1 c1)
                          | ((fail_if_success have := A2); intro A2 c2)
                          | ((fail_if_success have := A3); intro A3 c3)
                          | ((fail_if_success have := A4); intro A4 c4)
                          | ((fail_if_success have := A5); intro A5 c5)
                          | ((fail_if_success have := A6); intro A6 c6)
                          | ((fail_if_success have := A7); intro A7 c7)))
                       | (((refine' Ef_append_rd rfl rfl rfl ?q1 ?q2 ?q3 List.not_mem_nil ?q4 ?q5 ?q6 ?q7 ?_)
                           (case q1 => exact app_of rfl)
                           (case q2 => (first | exact at0 | exact at1 | exact at2 | exact at3 | exact at4 | exact at5 | exact at6))
                           (case q3 => assumption)
                           (case q4 => omega)
                           (case q5 => (first | assumption | (intro u hu; rcases hu with _ | ⟨_, _ | ⟨_, _ | ⟨_, _ | ⟨_, hu⟩⟩⟩⟩ <;> first | rfl | (cases hu; done))))
                           (case q6 => omega)
                           (case q7 => omega))
                          (first
                          | ((fail_if_success have := A1); intro A1 c1)
                          | ((fail_if_success have := A2); intro A2 c2)
                          | ((fail_if_success have := A3); intro A3 c3)
                          | ((fail_if_success have := A4); intro A4 c4)
                          | ((fail_if_success have := A5); intro A5 c5)
                          | ((fail_if_success have := A6); intro A6 c6)
                          | ((fail_if_success have := A7); intro A7 c7)))))
                    | ((with_reducible refine ie_bsl ?_)
                       (first
                       | fail
                       | (((refine' Ef_bslA rfl rfl ?q1 ?q2 ?q3 ?_); (case q1 => exact app_of rfl); (case q2 => rfl); (case q3 => decide))
                          (first
                          | ((fail_if_success have := b1); intro b1)
                          | ((fail_if_success have := b2); intro b2)
                          | ((fail_if_success have := b3); intro b3)
                          | ((fail_if_success have := b4); intro b4)
                          | ((fail_if_success have := b5); intro b5)
                          | ((fail_if_success have := b6); intro b6)
                          | ((fail_if_success have := b7); intro b7)
                          | ((fail_if_success have := b8); intro b8)
                          | ((fail_if_success have := b9); intro b9)))
                       | (((refine' Ef_bsl1 rfl rfl rfl ?q1 ?_); (case q1 => exact app_of rfl))
                          (first
                          | ((fail_if_success have := b1); intro b1)
                          | ((fail_if_success have := b2); intro b2)
                          | ((fail_if_success have := b3); intro b3)
                          | ((fail_if_success have := b4); intro b4)
                          | ((fail_if_success have := b5); intro b5)
                          | ((fail_if_success have := b6); intro b6)
                          | ((fail_if_success have := b7); intro b7)
                          | ((fail_if_success have := b8); intro b8)
                          | ((fail_if_success have := b9); intro b9)))))
                    | (first | fail)
                    | refine Ef_y rfl rfl ?_)
            refine loopQ_n (k + 1) ?_ ?_ (by (first | omega | (dsimp only; omega) | (simp; omega))) (by (first | omega | (dsimp only; omega) | (simp; omega)))
            · (repeat (first | exact Sub.nil | refine Sub.cons rfl ?_))
            · (repeat (first | exact List.nil_sublist _ | refine List.Sublist.cons_cons _ ?_ | refine List.Sublist.cons _ ?_))
          · repeat' (first
                    | with_reducible refine T.seq ?_
                    | with_reducible refine T.block ?_
                    | with_reducible refine T.region ?_
                    | with_reducible refine T.skip ?_
                    | with_reducible refine T.ret ?_
                    | with_reducible refine T.exit ?_
                    | with_reducible refine seqQ_n ?_
                    | with_reducible refine seqQ_x ?_
                    | with_reducible refine seqQ_r ?_
                    | with_reducible refine blockQ_n ?_
                    | with_reducible refine blockQ_r ?_
                    | with_reducible refine blockQ_x ?_
                    | ((with_reducible refine g_blkx ?_); refine blockQ_y rfl ?_)
                    | with_reducible refine loopQ_x ?_
                    | with_reducible refine loopQ_r ?_
                    | ((with_reducible refine g_cond ?_); (first | refine T.cond_t rfl ?_ | refine T.cond_f rfl ?_ | (refine T.cond_s rfl ?_ ?_ <;> intro hc)))
                    | with_reducible refine TL_nil ?_
                    | with_reducible refine TS_nil ?_
                    | ((with_reducible refine g_draw ?_)
                       (first
                       | (((with_reducible refine' T.draw0 (id := 10) [(0, true), (1, true), (2, true), (3, true), (4, true), (5, true), (6, true), (7, true), (8, true), (9, true), (10, true), (11, false), (12, true)] mixd ?q1 ?_); (case q1 => kernel_rfl)))
                       | (((with_reducible refine' T.drawM (id := 14) [(0, true), (1, true), (2, true), (3, true), (4, true), (5, true), (6, true), (7, true), (8, true), (9, true), (10, true), (11, true), (12, true), (13, true), (14, true), (15, true), (16, true), (17, true), (18, true), (19, true), (20, true), (21, true)] mixd ?q1 ?_)
                           (case q1 => kernel_rfl)))))
                    | ((with_reducible refine TL_y' ?hy ?hd ?_); (case hy => rfl); (case hd => rfl))
                    | with_reducible refine TL_e ?_
                    | ((with_reducible refine g_TL ?_); (first | refine TL_gy' rfl rfl rfl rfl ?_ | refine TL_gn rfl rfl rfl ?_ | refine TL_gu rfl rfl rfl ?_ | refine TL_ge rfl rfl ?_ | refine TL_gn0 rfl rfl ?_))
                    | ((with_reducible refine g_TS ?_)
                       (first
                       | refine TS_y rfl rfl ?_
                       | refine TS_e rfl ?_
                       | refine TS_gy rfl rfl rfl rfl ?_
                       | refine TS_gn rfl rfl rfl rfl ?_
                       | refine TS_gu rfl rfl rfl rfl ?_
                       | refine TS_ge rfl rfl rfl ?_
                       | refine TS_gne rfl rfl rfl rfl ?_
                       | refine TS_gue rfl rfl rfl rfl ?_
                       | refine TS_gne0 rfl rfl rfl ?_))
                    | ((with_reducible refine TSand ?hd ?_); (case hd => (repeat (first | exact List.nil_sublist _ | refine List.Sublist.cons_cons _ ?_ | refine List.Sublist.cons _ ?_))))
                    | ((with_reducible refine is_move ?_); refine ⟨_, Yl_move rfl, ?_⟩)
                    | ((with_reducible refine is_assign ?_); refine ⟨_, Yl_assign rfl, ?_⟩)
                    | ((with_reducible refine is_pick ?_); (first | refine ⟨_, Yl_pick_t rfl rfl, ?_⟩ | refine ⟨_, Yl_pick_f rfl rfl, ?_⟩))
                    | ((with_reducible refine is_nil ?_); refine ⟨_, Yl_nilCheck rfl, ?_⟩)
                    | ((with_reducible refine is_fld ?_)
                       (first | ((refine' ⟨_, Yl_fld_blk0 rfl ?q1, ?_⟩); (case q1 => exact fld_of rfl rfl)) | ((refine' ⟨_, Yl_fld_blk rfl ?q1, ?_⟩); (case q1 => exact fld_of rfl rfl)) | ((refine' ⟨_, Yl_fld_ad rfl ?q1, ?_⟩); (case q1 => exact fld_of rfl rfl))))
                    | ((with_reducible refine is_load ?_)
                       (first
                       | fail
                       | ((refine' ⟨_, Yl_load_blk rfl ?q1 ?q2 ?q3, ?_⟩); (case q1 => exact one_of rfl); (case q2 => (repeat (first | exact .head _ | apply List.Mem.tail))); (case q3 => rfl))
                       | ((refine' ⟨_, Yl_loadA_blk rfl ?q1 ?q2, ?_⟩); (case q1 => (repeat (first | exact .head _ | apply List.Mem.tail))); (case q2 => exact agg_of rfl))
                       | ((refine' ⟨_, Yl_load_blk rfl ?q1 ?q2 ?q3, ?_⟩); (case q1 => exact one_of rfl); (case q2 => (repeat (first | exact .head _ | apply List.Mem.tail))); (case q3 => assumption))
                       | ((refine' ⟨_, Yl_load_rd rfl ?q1 ?q2 List.not_mem_nil ?q3, ?_⟩); (case q1 => exact one_of rfl); (case q2 => assumption); (case q3 => assumption))
                       | ((refine' ⟨_, Yl_load_row rfl ?q1 ?q2 ?q3, ?_⟩); (case q1 => exact one_of rfl); (case q2 => (repeat (first | exact .head _ | apply List.Mem.tail))); (case q3 => assumption))
                       | ((refine' ⟨_, Yl_loadA_rd rfl ?qa ?qb List.not_mem_nil ?ql ?qc, ?_⟩); (case qa => exact agg_of rfl); (case qb => assumption); (case qc => assumption); (case ql => rfl))
                       | ((refine' ⟨_, Yl_loadA_row rfl ?qa ?qb ?ql ?qc, ?_⟩); (case qa => exact agg_of rfl); (case qb => (repeat (first | exact .head _ | apply List.Mem.tail))); (case qc => assumption); (case ql => rfl))))
                    | ((with_reducible refine is_idx ?_)
                       (first
                       | fail
                       | ((refine' ⟨_, Yl_index rfl rfl ?q1 ?q2 ?q3 (Rd.some_ ?q4 ?q5), ?_⟩); (case q1 => exact und_of rfl); (case q2 => exact siz_of rfl); (case q3 => omega); (case q4 => assumption); (case q5 => omega))
                       | ((refine' ⟨_, Yl_index_row rfl rfl ?q1 ?q2 ?q3 ?q4, ?_⟩); (case q1 => exact und_of rfl); (case q2 => exact siz_of rfl); (case q3 => omega); (case q4 => (repeat (first | exact .head _ | apply List.Mem.tail))))
                       | ((refine' ⟨_, Yl_index rfl rfl ?q1 ?q2 ?q3 rfl, ?_⟩); (case q1 => exact und_of rfl); (case q2 => exact siz_of rfl); (case q3 => omega))))
                    | ((with_reducible refine is_ext ?_); refine ⟨_, Yl_extract rfl rfl, ?_⟩)
                    | ((with_reducible refine is_un ?_); refine ⟨_, Yl_not rfl, ?_⟩)
                    | ((with_reducible refine is_len ?_); (first | ((refine' ⟨_, Yl_len_slice rfl ?q1, ?_⟩); (case q1 => exact und_of rfl)) | ((refine' ⟨_, Yl_len_string rfl ?q1, ?_⟩); (case q1 => exact und_of rfl))))
                    | ((with_reducible refine is_b_lss ?_); (first | ((refine' ⟨_, Yl_lss_t rfl rfl ?q1, ?_⟩); (case q1 => omega)) | ((refine' ⟨_, Yl_lss_f rfl rfl ?q1, ?_⟩); (case q1 => omega)) | (refine sp_lss rfl rfl ?_ ?_ <;> intro hc)))
                    | ((with_reducible refine is_b_leq ?_); (first | ((refine' ⟨_, Yl_leq_t rfl rfl ?q1, ?_⟩); (case q1 => omega)) | ((refine' ⟨_, Yl_leq_f rfl rfl ?q1, ?_⟩); (case q1 => omega)) | (refine sp_leq rfl rfl ?_ ?_ <;> intro hc)))
                    | ((with_reducible refine is_b_gtr ?_); (first | ((refine' ⟨_, Yl_gtr_t rfl rfl ?q1, ?_⟩); (case q1 => omega)) | ((refine' ⟨_, Yl_gtr_f rfl rfl ?q1, ?_⟩); (case q1 => omega)) | (refine sp_gtr rfl rfl ?_ ?_ <;> intro hc)))
                    | ((with_reducible refine is_b_geq ?_); (first | ((refine' ⟨_, Yl_geq_t rfl rfl ?q1, ?_⟩); (case q1 => omega)) | ((refine' ⟨_, Yl_geq_f rfl rfl ?q1, ?_⟩); (case q1 => omega)) | (refine sp_geq rfl rfl ?_ ?_ <;> intro hc)))
                    | ((with_reducible refine is_b_eql ?_)
                       (first
                       | ((refine' ⟨_, Yl_eql_t rfl rfl ?q1, ?_⟩); (case q1 => omega))
                       | ((refine' ⟨_, Yl_eql_f rfl rfl ?q1, ?_⟩); (case q1 => omega))
                       | (refine sp_eql rfl rfl ?_ ?_ <;> intro hc)
                       | ((refine' ⟨_, Yl_eqlA rfl rfl (eqg_of rfl) (eqN_f _ _ ?q1).run, ?_⟩); (case q1 => assumption))))
                    | ((with_reducible refine is_b_neq ?_)
                       (first
                       | ((refine' ⟨_, Yl_neq_t rfl rfl ?q1, ?_⟩); (case q1 => omega))
                       | ((refine' ⟨_, Yl_neq_f rfl rfl ?q1, ?_⟩); (case q1 => omega))
                       | (refine sp_neq rfl rfl ?_ ?_ <;> intro hc)
                       | ((refine' ⟨_, Yl_eqlA rfl rfl (eqg_of rfl) (eqN_f _ _ ?q1).run, ?_⟩); (case q1 => assumption))))
                    | ((with_reducible refine is_b_add ?_); (first | ((refine' ⟨_, Yl_add rfl rfl ?q1 ?q2, ?_⟩); (case q1 => omega); (case q2 => omega)) | ((refine' ⟨_, Yl_eqlA rfl rfl (eqg_of rfl) (eqN_f _ _ ?q1).run, ?_⟩); (case q1 => assumption))))
                    | ((with_reducible refine is_b_sub ?_); (first | ((refine' ⟨_, Yl_sub rfl rfl ?q1 ?q2, ?_⟩); (case q1 => omega); (case q2 => omega)) | ((refine' ⟨_, Yl_eqlA rfl rfl (eqg_of rfl) (eqN_f _ _ ?q1).run, ?_⟩); (case q1 => assumption))))
                    | ((with_reducible refine is_build ?_); (first | fail))
                    | (first | ((refine' ⟨_, Yl_eqlA rfl rfl (eqg_of rfl) (eqN_f _ _ ?q1).run, ?_⟩); (case q1 => assumption)))
                    | ((with_reducible refine ie_box ?_)
                       (first
                       | (refine Ef_boxA rfl rfl ?_
                          (first
                          | ((fail_if_success have := b1); intro b1)
                          | ((fail_if_success have := b2); intro b2)
                          | ((fail_if_success have := b3); intro b3)
                          | ((fail_if_success have := b4); intro b4)
                          | ((fail_if_success have := b5); intro b5)
                          | ((fail_if_success have := b6); intro b6)
                          | ((fail_if_success have := b7); intro b7)
                          | ((fail_if_success have := b8); intro b8)
                          | ((fail_if_success have := b9); intro b9)))
                       | (refine Ef_box1 rfl rfl rfl ?_
                          (first
                          | ((fail_if_success have := b1); intro b1)
                          | ((fail_if_success have := b2); intro b2)
                          | ((fail_if_success have := b3); intro b3)
                          | ((fail_if_success have := b4); intro b4)
                          | ((fail_if_success have := b5); intro b5)
                          | ((fail_if_success have := b6); intro b6)
                          | ((fail_if_success have := b7); intro b7)
                          | ((fail_if_success have := b8); intro b8)
                          | ((fail_if_success have := b9); intro b9)))))
                    | ((with_reducible refine ie_alloc ?_)
                       (first
                       | fail
                       | (((refine' Ef_alloc rfl ?q1 ?_); (case q1 => exact zer_of rfl))
                          (first
                          | ((fail_if_success have := b1); intro b1)
                          | ((fail_if_success have := b2); intro b2)
                          | ((fail_if_success have := b3); intro b3)
                          | ((fail_if_success have := b4); intro b4)
                          | ((fail_if_success have := b5); intro b5)
                          | ((fail_if_success have := b6); intro b6)
                          | ((fail_if_success have := b7); intro b7)
                          | ((fail_if_success have := b8); intro b8)
                          | ((fail_if_success have := b9); intro b9)))))
                    | ((with_reducible refine ie_store ?_)
                       (first
                       | fail
                       | ((refine' Ef_storeC rfl rfl ?q1 ?q2 ?q3 ?q4 ?q5 ?_)
                          (case q1 => rfl)
                          (case q2 => exact siz_of rfl)
                          (case q3 => (first | exact at0 | exact at1 | exact at2 | exact at3 | exact at4 | exact at5 | exact at6))
                          (case q4 => exact Nat.le_of_ble_eq_true rfl)
                          (case q5 => rfl))))
                    | ((with_reducible refine ie_callf ?_)
                       (first
                       | ((with_reducible refine g_call 9 ?_); (first | refine Ef_callP rfl rfl ent_9 (fun w _ => awake_c w) ?_))
                       | ((with_reducible refine g_call 10 ?_)
                          (first
                          | (refine Ef_callN rfl rfl ent_10 (fun w _ => new_c w) ?_
                             (first
                             | ((fail_if_success have := b1); intro b1)
                             | ((fail_if_success have := b2); intro b2)
                             | ((fail_if_success have := b3); intro b3)
                             | ((fail_if_success have := b4); intro b4)
                             | ((fail_if_success have := b5); intro b5)
                             | ((fail_if_success have := b6); intro b6)
                             | ((fail_if_success have := b7); intro b7)
                             | ((fail_if_success have := b8); intro b8)
                             | ((fail_if_success have := b9); intro b9)))))
                       | ((with_reducible refine g_call 11 ?_); (first | ((refine' Ef_callT [true] rfl rfl ent_11 rfl rfl rfl (fun w hp => take_c b1 s x.1 x.2 w hk.inv ?q1 ?q2 hp) ?_); (case q1 => omega); (case q2 => omega))))))
                    | ((with_reducible refine ie_app ?_)
                       (first
                       | fail
                       | (((refine' Ef_append_row rfl rfl rfl ?q1 ?q2 ?q3 ?q4 ?q5 ?q6 ?_)
                           (case q1 => exact app_of rfl)
                           (case q2 => (first | exact at0 | exact at1 | exact at2 | exact at3 | exact at4 | exact at5 | exact at6))
                           (case q3 => (repeat (first | exact .head _ | apply List.Mem.tail)))
                           (case q4 => (first | assumption | (intro u hu; rcases hu with _ | ⟨_, _ | ⟨_, _ | ⟨_, _ | ⟨_, hu⟩⟩⟩⟩ <;> first | rfl | (cases hu; done))))
                           (case q5 => omega)
                           (case q6 => omega))
                          (first
                          | ((fail_if_success have := A1); intro A1 c1)
                          | ((fail_if_success have := A2); intro A2 c2)
                          | ((fail_if_success have := A3); intro A3 c3)
                          | ((fail_if_success have := A4); intro A4 c4)
                          | ((fail_if_success have := A5); intro A5 c5)
                          | ((fail_if_success have := A6); intro A6 c6)
                          | ((fail_if_success have := A7); intro A7 c7)))
                       | (((refine' Ef_append_rd rfl rfl rfl ?q1 ?q2 ?q3 List.not_mem_nil ?q4 ?q5 ?q6 ?q7 ?_)
                           (case q1 => exact app_of rfl)
                           (case q2 => (first | exact at0 | exact at1 | exact at2 | exact at3 | exact at4 | exact at5 | exact at6))
                           (case q3 => assumption)
                           (case q4 => omega)
                           (case q5 => (first | assumption | (intro u hu; rcases hu with _ | ⟨_, _ | ⟨_, _ | ⟨_, _ | ⟨_, hu⟩⟩⟩⟩ <;> first | rfl | (cases hu; done))))
                           (case q6 => omega)
                           (case q7 => omega))
                          (first
                          | ((fail_if_success have := A1); intro A1 c1)
                          | ((fail_if_success have := A2); intro A2 c2)
                          | ((fail_if_success have := A3); intro A3 c3)
                          | ((fail_if_success have := A4); intro A4 c4)
                          | ((fail_if_success have := A5); intro A5 c5)
                          | ((fail_if_success have := A6); intro A6 c6)
                          | ((fail_if_success have := A7); intro A7 c7)))))
                    | ((with_reducible refine ie_bsl ?_)
                       (first
                       | fail
                       | (((refine' Ef_bslA rfl rfl ?q1 ?q2 ?q3 ?_); (case q1 => exact app_of rfl); (case q2 => rfl); (case q3 => decide))
                          (first
                          | ((fail_if_success have := b1); intro b1)
                          | ((fail_if_success have := b2); intro b2)
                          | ((fail_if_success have := b3); intro b3)
                          | ((fail_if_success have := b4); intro b4)
                          | ((fail_if_success have := b5); intro b5)
                          | ((fail_if_success have := b6); intro b6)
                          | ((fail_if_success have := b7); intro b7)
                          | ((fail_if_success have := b8); intro b8)
                          | ((fail_if_success have := b9); intro b9)))
                       | (((refine' Ef_bsl1 rfl rfl rfl ?q1 ?_); (case q1 => exact app_of rfl))
                          (first
                          | ((fail_if_success have := b1); intro b1)
                          | ((fail_if_success have := b2); intro b2)
                          | ((fail_if_success have := b3); intro b3)
                          | ((fail_if_success have := b4); intro b4)
                          | ((fail_if_success have := b5); intro b5)
                          | ((fail_if_success have := b6); intro b6)
                          | ((fail_if_success have := b7); intro b7)
                          | ((fail_if_success have := b8); intro b8)
                          | ((fail_if_success have := b9); intro b9)))))
                    | (first | fail)
                    | refine Ef_y rfl rfl ?_)
            refine loopQ_n ((Win.take s x.1 x.2).1, i + 1, tk ++ [x], A1, c1) ?_ ?_ ⟨o3, by (first | omega | (dsimp only; omega) | (simp; omega)), by (first | omega | (dsimp only; omega) | (simp; omega))⟩ (by (first | omega | (dsimp only; omega) | (simp; omega)))
            · dsimp only
              rw [← len_snoc]
              (repeat (first | exact Sub.nil | refine Sub.cons rfl ?_))
            · dsimp only
              rw [← len_snoc, ← nE_snoc]
              (repeat (first | exact List.nil_sublist _ | refine List.Sublist.cons_cons _ ?_ | refine List.Sublist.cons _ ?_))
    · repeat' (first
              | with_reducible refine T.seq ?_
              | with_reducible refine T.block ?_
              | with_reducible refine T.region ?_
              | with_reducible refine T.skip ?_
              | with_reducible refine T.ret ?_
              | with_reducible refine T.exit ?_
              | with_reducible refine seqQ_n ?_
              | with_reducible refine seqQ_x ?_
              | with_reducible refine seqQ_r ?_
              | with_reducible refine blockQ_n ?_
              | with_reducible refine blockQ_r ?_
              | with_reducible refine blockQ_x ?_
              | ((with_reducible refine g_blkx ?_); refine blockQ_y rfl ?_)
              | with_reducible refine loopQ_x ?_
              | with_reducible refine loopQ_r ?_
              | ((with_reducible refine g_cond ?_); (first | refine T.cond_t rfl ?_ | refine T.cond_f rfl ?_ | (refine T.cond_s rfl ?_ ?_ <;> intro hc)))
              | with_reducible refine TL_nil ?_
              | with_reducible refine TS_nil ?_
              | ((with_reducible refine g_draw ?_)
                 (first
                 | (((with_reducible refine' T.draw0 (id := 10) [(0, true), (1, true), (2, true), (3, true), (4, true), (5, true), (6, true), (7, true), (8, true), (9, true), (10, true), (11, false), (12, true)] mixd ?q1 ?_); (case q1 => kernel_rfl)))
                 | (((with_reducible refine' T.drawM (id := 14) [(0, true), (1, true), (2, true), (3, true), (4, true), (5, true), (6, true), (7, true), (8, true), (9, true), (10, true), (11, true), (12, true), (13, true), (14, true), (15, true), (16, true), (17, true), (18, true), (19, true), (20, true), (21, true)] mixd ?q1 ?_)
                     (case q1 => kernel_rfl)))))
              | ((with_reducible refine TL_y' ?hy ?hd ?_); (case hy => rfl); (case hd => rfl))
              | with_reducible refine TL_e ?_
              | ((with_reducible refine g_TL ?_); (first | refine TL_gy' rfl rfl rfl rfl ?_ | refine TL_gn rfl rfl rfl ?_ | refine TL_gu rfl rfl rfl ?_ | refine TL_ge rfl rfl ?_ | refine TL_gn0 rfl rfl ?_))
              | ((with_reducible refine g_TS ?_)
                 (first
                 | refine TS_y rfl rfl ?_
                 | refine TS_e rfl ?_
                 | refine TS_gy rfl rfl rfl rfl ?_
                 | refine TS_gn rfl rfl rfl rfl ?_
                 | refine TS_gu rfl rfl rfl rfl ?_
                 | refine TS_ge rfl rfl rfl ?_
                 | refine TS_gne rfl rfl rfl rfl ?_
                 | refine TS_gue rfl rfl rfl rfl ?_
                 | refine TS_gne0 rfl rfl rfl ?_))
              | ((with_reducible refine TSand ?hd ?_); (case hd => (repeat (first | exact List.nil_sublist _ | refine List.Sublist.cons_cons _ ?_ | refine List.Sublist.cons _ ?_))))
              | ((with_reducible refine is_move ?_); refine ⟨_, Yl_move rfl, ?_⟩)
              | ((with_reducible refine is_assign ?_); refine ⟨_, Yl_assign rfl, ?_⟩)
              | ((with_reducible refine is_pick ?_); (first | refine ⟨_, Yl_pick_t rfl rfl, ?_⟩ | refine ⟨_, Yl_pick_f rfl rfl, ?_⟩))
              | ((with_reducible refine is_nil ?_); refine ⟨_, Yl_nilCheck rfl, ?_⟩)
              | ((with_reducible refine is_fld ?_)
                 (first | ((refine' ⟨_, Yl_fld_blk0 rfl ?q1, ?_⟩); (case q1 => exact fld_of rfl rfl)) | ((refine' ⟨_, Yl_fld_blk rfl ?q1, ?_⟩); (case q1 => exact fld_of rfl rfl)) | ((refine' ⟨_, Yl_fld_ad rfl ?q1, ?_⟩); (case q1 => exact fld_of rfl rfl))))
              | ((with_reducible refine is_load ?_)
                 (first
                 | fail
                 | ((refine' ⟨_, Yl_load_blk rfl ?q1 ?q2 ?q3, ?_⟩); (case q1 => exact one_of rfl); (case q2 => (repeat (first | exact .head _ | apply List.Mem.tail))); (case q3 => rfl))
                 | ((refine' ⟨_, Yl_loadA_blk rfl ?q1 ?q2, ?_⟩); (case q1 => (repeat (first | exact .head _ | apply List.Mem.tail))); (case q2 => exact agg_of rfl))
                 | ((refine' ⟨_, Yl_load_blk rfl ?q1 ?q2 ?q3, ?_⟩); (case q1 => exact one_of rfl); (case q2 => (repeat (first | exact .head _ | apply List.Mem.tail))); (case q3 => assumption))
                 | ((refine' ⟨_, Yl_load_rd rfl ?q1 ?q2 List.not_mem_nil ?q3, ?_⟩); (case q1 => exact one_of rfl); (case q2 => assumption); (case q3 => assumption))
                 | ((refine' ⟨_, Yl_load_row rfl ?q1 ?q2 ?q3, ?_⟩); (case q1 => exact one_of rfl); (case q2 => (repeat (first | exact .head _ | apply List.Mem.tail))); (case q3 => assumption))
                 | ((refine' ⟨_, Yl_loadA_rd rfl ?qa ?qb List.not_mem_nil ?ql ?qc, ?_⟩); (case qa => exact agg_of rfl); (case qb => assumption); (case qc => assumption); (case ql => rfl))
                 | ((refine' ⟨_, Yl_loadA_row rfl ?qa ?qb ?ql ?qc, ?_⟩); (case qa => exact agg_of rfl); (case qb => (repeat (first | exact .head _ | apply List.Mem.tail))); (case qc => assumption); (case ql => rfl))))
              | ((with_reducible refine is_idx ?_)
                 (first
                 | fail
                 | ((refine' ⟨_, Yl_index rfl rfl ?q1 ?q2 ?q3 (Rd.some_ ?q4 ?q5), ?_⟩); (case q1 => exact und_of rfl); (case q2 => exact siz_of rfl); (case q3 => omega); (case q4 => assumption); (case q5 => omega))
                 | ((refine' ⟨_, Yl_index_row rfl rfl ?q1 ?q2 ?q3 ?q4, ?_⟩); (case q1 => exact und_of rfl); (case q2 => exact siz_of rfl); (case q3 => omega); (case q4 => (repeat (first | exact .head _ | apply List.Mem.tail))))
                 | ((refine' ⟨_, Yl_index rfl rfl ?q1 ?q2 ?q3 rfl, ?_⟩); (case q1 => exact und_of rfl); (case q2 => exact siz_of rfl); (case q3 => omega))))
              | ((with_reducible refine is_ext ?_); refine ⟨_, Yl_extract rfl rfl, ?_⟩)
              | ((with_reducible refine is_un ?_); refine ⟨_, Yl_not rfl, ?_⟩)
              | ((with_reducible refine is_len ?_); (first | ((refine' ⟨_, Yl_len_slice rfl ?q1, ?_⟩); (case q1 => exact und_of rfl)) | ((refine' ⟨_, Yl_len_string rfl ?q1, ?_⟩); (case q1 => exact und_of rfl))))
              | ((with_reducible refine is_b_lss ?_); (first | ((refine' ⟨_, Yl_lss_t rfl rfl ?q1, ?_⟩); (case q1 => omega)) | ((refine' ⟨_, Yl_lss_f rfl rfl ?q1, ?_⟩); (case q1 => omega)) | (refine sp_lss rfl rfl ?_ ?_ <;> intro hc)))
              | ((with_reducible refine is_b_leq ?_); (first | ((refine' ⟨_, Yl_leq_t rfl rfl ?q1, ?_⟩); (case q1 => omega)) | ((refine' ⟨_, Yl_leq_f rfl rfl ?q1, ?_⟩); (case q1 => omega)) | (refine sp_leq rfl rfl ?_ ?_ <;> intro hc)))
              | ((with_reducible refine is_b_gtr ?_); (first | ((refine' ⟨_, Yl_gtr_t rfl rfl ?q1, ?_⟩); (case q1 => omega)) | ((refine' ⟨_, Yl_gtr_f rfl rfl ?q1, ?_⟩); (case q1 => omega)) | (refine sp_gtr rfl rfl ?_ ?_ <;> intro hc)))
              | ((with_reducible refine is_b_geq ?_); (first | ((refine' ⟨_, Yl_geq_t rfl rfl ?q1, ?_⟩); (case q1 => omega)) | ((refine' ⟨_, Yl_geq_f rfl rfl ?q1, ?_⟩); (case q1 => omega)) | (refine sp_geq rfl rfl ?_ ?_ <;> intro hc)))
              | ((with_reducible refine is_b_eql ?_)
                 (first
                 | ((refine' ⟨_, Yl_eql_t rfl rfl ?q1, ?_⟩); (case q1 => omega))
                 | ((refine' ⟨_, Yl_eql_f rfl rfl ?q1, ?_⟩); (case q1 => omega))
                 | (refine sp_eql rfl rfl ?_ ?_ <;> intro hc)
                 | ((refine' ⟨_, Yl_eqlA rfl rfl (eqg_of rfl) (eqN_f _ _ ?q1).run, ?_⟩); (case q1 => assumption))))
              | ((with_reducible refine is_b_neq ?_)
                 (first
                 | ((refine' ⟨_, Yl_neq_t rfl rfl ?q1, ?_⟩); (case q1 => omega))
                 | ((refine' ⟨_, Yl_neq_f rfl rfl ?q1, ?_⟩); (case q1 => omega))
                 | (refine sp_neq rfl rfl ?_ ?_ <;> intro hc)
                 | ((refine' ⟨_, Yl_eqlA rfl rfl (eqg_of rfl) (eqN_f _ _ ?q1).run, ?_⟩); (case q1 => assumption))))
              | ((with_reducible refine is_b_add ?_); (first | ((refine' ⟨_, Yl_add rfl rfl ?q1 ?q2, ?_⟩); (case q1 => omega); (case q2 => omega)) | ((refine' ⟨_, Yl_eqlA rfl rfl (eqg_of rfl) (eqN_f _ _ ?q1).run, ?_⟩); (case q1 => assumption))))
              | ((with_reducible refine is_b_sub ?_); (first | ((refine' ⟨_, Yl_sub rfl rfl ?q1 ?q2, ?_⟩); (case q1 => omega); (case q2 => omega)) | ((refine' ⟨_, Yl_eqlA rfl rfl (eqg_of rfl) (eqN_f _ _ ?q1).run, ?_⟩); (case q1 => assumption))))
              | ((with_reducible refine is_build ?_); (first | fail))
              | (first | ((refine' ⟨_, Yl_eqlA rfl rfl (eqg_of rfl) (eqN_f _ _ ?q1).run, ?_⟩); (case q1 => assumption)))
              | ((with_reducible refine ie_box ?_)
                 (first
                 | (refine Ef_boxA rfl rfl ?_
                    (first
                    | ((fail_if_success have := b1); intro b1)
                    | ((fail_if_success have := b2); intro b2)
                    | ((fail_if_success have := b3); intro b3)
                    | ((fail_if_success have := b4); intro b4)
                    | ((fail_if_success have := b5); intro b5)
                    | ((fail_if_success have := b6); intro b6)
                    | ((fail_if_success have := b7); intro b7)
                    | ((fail_if_success have := b8); intro b8)
                    | ((fail_if_success have := b9); intro b9)))
                 | (refine Ef_box1 rfl rfl rfl ?_
                    (first
                    | ((fail_if_success have := b1); intro b1)
                    | ((fail_if_success have := b2); intro b2)
                    | ((fail_if_success have := b3); intro b3)
                    | ((fail_if_success have := b4); intro b4)
                    | ((fail_if_success have := b5); intro b5)
                    | ((fail_if_success have := b6); intro b6)
                    | ((fail_if_success have := b7); intro b7)
                    | ((fail_if_success have := b8); intro b8)
                    | ((fail_if_success have := b9); intro b9)))))
              | ((with_reducible refine ie_alloc ?_)
                 (first
                 | fail
                 | (((refine' Ef_alloc rfl ?q1 ?_); (case q1 => exact zer_of rfl))
                    (first
                    | ((fail_if_success have := b1); intro b1)
                    | ((fail_if_success have := b2); intro b2)
                    | ((fail_if_success have := b3); intro b3)
                    | ((fail_if_success have := b4); intro b4)
                    | ((fail_if_success have := b5); intro b5)
                    | ((fail_if_success have := b6); intro b6)
                    | ((fail_if_success have := b7); intro b7)
                    | ((fail_if_success have := b8); intro b8)
                    | ((fail_if_success have := b9); intro b9)))))
              | ((with_reducible refine ie_store ?_)
                 (first
                 | fail
                 | ((refine' Ef_storeC rfl rfl ?q1 ?q2 ?q3 ?q4 ?q5 ?_)
                    (case q1 => rfl)
                    (case q2 => exact siz_of rfl)
                    (case q3 => (first | exact at0 | exact at1 | exact at2 | exact at3 | exact at4 | exact at5 | exact at6))
                    (case q4 => exact Nat.le_of_ble_eq_true rfl)
                    (case q5 => rfl))))
              | ((with_reducible refine ie_callf ?_)
                 (first
                 | ((with_reducible refine g_call 9 ?_); (first | refine Ef_callP rfl rfl ent_9 (fun w _ => awake_c w) ?_))
                 | ((with_reducible refine g_call 10 ?_)
                    (first
                    | (refine Ef_callN rfl rfl ent_10 (fun w _ => new_c w) ?_
                       (first
                       | ((fail_if_success have := b1); intro b1)
                       | ((fail_if_success have := b2); intro b2)
                       | ((fail_if_success have := b3); intro b3)
                       | ((fail_if_success have := b4); intro b4)
                       | ((fail_if_success have := b5); intro b5)
                       | ((fail_if_success have := b6); intro b6)
                       | ((fail_if_success have := b7); intro b7)
                       | ((fail_if_success have := b8); intro b8)
                       | ((fail_if_success have := b9); intro b9)))))
                 | ((with_reducible refine g_call 11 ?_); (first | ((refine' Ef_callT [true] rfl rfl ent_11 rfl rfl rfl (fun w hp => take_c b1 s x.1 x.2 w hk.inv ?q1 ?q2 hp) ?_); (case q1 => omega); (case q2 => omega))))))
              | ((with_reducible refine ie_app ?_)
                 (first
                 | fail
                 | (((refine' Ef_append_row rfl rfl rfl ?q1 ?q2 ?q3 ?q4 ?q5 ?q6 ?_)
                     (case q1 => exact app_of rfl)
                     (case q2 => (first | exact at0 | exact at1 | exact at2 | exact at3 | exact at4 | exact at5 | exact at6))
                     (case q3 => (repeat (first | exact .head _ | apply List.Mem.tail)))
                     (case q4 => (first | assumption | (intro u hu; rcases hu with _ | ⟨_, _ | ⟨_, _ | ⟨_, _ | ⟨_, hu⟩⟩⟩⟩ <;> first | rfl | (cases hu; done))))
                     (case q5 => omega)
                     (case q6 => omega))
                    (first
                    | ((fail_if_success have := A1); intro A1 c1)
                    | ((fail_if_success have := A2); intro A2 c2)
                    | ((fail_if_success have := A3); intro A3 c3)
                    | ((fail_if_success have := A4); intro A4 c4)
                    | ((fail_if_success have := A5); intro A5 c5)
                    | ((fail_if_success have := A6); intro A6 c6)
                    | ((fail_if_success have := A7); intro A7 c7)))
                 | (((refine' Ef_append_rd rfl rfl rfl ?q1 ?q2 ?q3 List.not_mem_nil ?q4 ?q5 ?q6 ?q7 ?_)
                     (case q1 => exact app_of rfl)
                     (case q2 => (first | exact at0 | exact at1 | exact at2 | exact at3 | exact at4 | exact at5 | exact at6))
                     (case q3 => assumption)
                     (case q4 => omega)
                     (case q5 => (first | assumption | (intro u hu; rcases hu with _ | ⟨_, _ | ⟨_, _ | ⟨_, _ | ⟨_, hu⟩⟩⟩⟩ <;> first | rfl | (cases hu; done))))
                     (case q6 => omega)
                     (case q7 => omega))
                    (first
                    | ((fail_if_success have := A1); intro A1 c1)
                    | ((fail_if_success have := A2); intro A2 c2)
                    | ((fail_if_success have := A3); intro A3 c3)
                    | ((fail_if_success have := A4); intro A4 c4)
                    | ((fail_if_success have := A5); intro A5 c5)
                    | ((fail_if_success have := A6); intro A6 c6)
                    | ((fail_if_success have := A7); intro A7 c7)))))
              | ((with_reducible refine ie_bsl ?_)
                 (first
                 | fail
                 | (((refine' Ef_bslA rfl rfl ?q1 ?q2 ?q3 ?_); (case q1 => exact app_of rfl); (case q2 => rfl); (case q3 => decide))
                    (first
                    | ((fail_if_success have := b1); intro b1)
                    | ((fail_if_success have := b2); intro b2)
                    | ((fail_if_success have := b3); intro b3)
                    | ((fail_if_success have := b4); intro b4)
                    | ((fail_if_success have := b5); intro b5)
                    | ((fail_if_success have := b6); intro b6)
                    | ((fail_if_success have := b7); intro b7)
                    | ((fail_if_success have := b8); intro b8)
                    | ((fail_if_success have := b9); intro b9)))
                 | (((refine' Ef_bsl1 rfl rfl rfl ?q1 ?_); (case q1 => exact app_of rfl))
                    (first
                    | ((fail_if_success have := b1); intro b1)
                    | ((fail_if_success have := b2); intro b2)
                    | ((fail_if_success have := b3); intro b3)
                    | ((fail_if_success have := b4); intro b4)
                    | ((fail_if_success have := b5); intro b5)
                    | ((fail_if_success have := b6); intro b6)
                    | ((fail_if_success have := b7); intro b7)
                    | ((fail_if_success have := b8); intro b8)
                    | ((fail_if_success have := b9); intro b9)))))
              | (first | fail)
              | refine Ef_y rfl rfl ?_)
      exact ret_n [] (res1 rfl rfl) (List.nil_sublist _) ⟨rfl, rfl⟩

/-- What a slice of numbers reads as. -/
theorem nums_of {w : World} {A : Option Addr} {len : Nat} {xs : List Value} (hr : Rd w A len 2 xs) (hi : ∀ i, i < len → Is w (.pair (.int .i64) (.pair (.int .i64) .unit)) ((xs.drop (i * 2)).take 2)) :
    ∃ zs : List (Int × Int), zs.length = len ∧ xs = zs.flatMap nE ∧ ∀ x ∈ zs, (-9223372036854775808 ≤ x.1 ∧ x.1 ≤ 9223372036854775807) ∧ (-9223372036854775808 ≤ x.2 ∧ x.2 ≤ 9223372036854775807) :=
  rows_enc nE_len len xs hr.len fun i hil => by
    obtain ⟨⟨a, h1, wa⟩, ⟨b, h2, wb⟩, h3⟩ := hi i hil
    refine ⟨(a, b), ?_, int_wf wa, int_wf wb⟩
    generalize (xs.drop (i * 2)).take 2 = l at h1 h2 h3
    simp only [Sh.n] at h1 h2 h3
    match l, h1, h2, h3 with
    | [x, y], h1, h2, _ => simp at h1 h2; rw [h1, h2]; rfl
theorem num_of {w : World} {cs : List Value} (h : Is w (.pair (.int .i64) (.pair (.int .i64) .unit)) cs) : ∃ x : Int × Int, cs = nE x := by
  obtain ⟨⟨a, h1, _⟩, ⟨b, h2, _⟩, h3⟩ := h
  refine ⟨(a, b), ?_⟩
  simp only [Sh.n] at h1 h2 h3
  match cs, h1, h2, h3 with
  | [x, y], h1, h2, _ => simp at h1 h2; rw [h1, h2]; rfl
end Go.Proofs.Ytbmegafjphcdnaa
