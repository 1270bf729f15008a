/- A serial more; the document's Add; whether rows are the same: what a call of each comes to: for every slices of numbers of 64 bits. -/
import Derived.Test.YtmiimnlboighmaaT4
namespace Go.Proofs.Ytmiimnlboighmaa
open Go.RowKit
set_option maxRecDepth 20000

section
variable (A : Option Addr) (len cap : Nat) (a : List Int)

theorem add_c (n : Int) (w : World) (hra : Rd w A len 1 (a.flatMap (eI .i64))) (hla : a.length = len) (hca : len ≤ cap) :
    Sp Try.prog 9 [.slice A len cap, .int .i64 n] w [] fun v N => ∃ z : Option Addr × Nat, v = .tuple #[.slice z.1 (Rv.add a n).1.length z.2, .int .i64 (Rv.add a n).2] ∧ N = [rO (Rv.add a n).1 z] := by
  unfold Rv.add
  cases hsx : Rv.serial n with
  | false =>
    refine Sp.enter (n := 15) Try.func9 rfl rfl rfl (Hp.refl w) ?_
    refine T.row0e 3 1 ?_
    repeat' (first
        | with_reducible refine T.seq ?_
        | with_reducible refine T.block ?_
        | with_reducible refine T.region ?_
        | with_reducible refine T.skip ?_
        | with_reducible refine T.scope ?_
        | with_reducible refine T.label ?_
        | with_reducible refine scopeQ_n ?_
        | with_reducible refine scopeQ_r ?_
        | with_reducible refine scopeQ_x ?_
        | with_reducible refine T.ret ?_
        | with_reducible refine T.exit ?_
        | with_reducible refine seqQ_n ?_
        | with_reducible refine seqQ_x ?_
        | with_reducible refine seqQ_r ?_
        | with_reducible refine blockQ_n ?_
        | with_reducible refine blockQ_r ?_
        | with_reducible refine blockQ_x ?_
        | ((with_reducible refine g_blkx ?_); refine blockQ_y rfl ?_)
        | with_reducible refine loopQ_x ?_
        | with_reducible refine loopQ_r ?_
        | with_reducible refine joinQ_r ?_
        | with_reducible refine joinQ_x ?_
        | ((with_reducible refine g_cond ?_); (first | refine T.cond_t rfl ?_ | refine T.cond_f rfl ?_ | (refine T.cond_s rfl ?_ ?_ <;> intro hc)))
        | with_reducible refine TL_nil ?_
        | with_reducible refine TS_nil ?_
        | ((with_reducible refine TL_y' ?hy ?hd ?_); (case hy => rfl); (case hd => rfl))
        | with_reducible refine TL_e ?_
        | ((with_reducible refine g_TL ?_); (first | refine TL_gy' rfl rfl rfl rfl ?_ | refine TL_gn rfl rfl rfl ?_ | refine TL_gu rfl rfl rfl ?_ | refine TL_ge rfl rfl ?_ | refine TL_gn0 rfl rfl ?_))
        | ((with_reducible refine g_TS ?_); (first | refine TS_y rfl rfl ?_ | refine TS_e rfl ?_ | refine TS_gy rfl rfl rfl rfl ?_ | refine TS_gn rfl rfl rfl rfl ?_ | refine TS_gu rfl rfl rfl rfl ?_ | refine TS_ge rfl rfl rfl ?_ | refine TS_gne rfl rfl rfl rfl ?_ | refine TS_gue rfl rfl rfl rfl ?_ | refine TS_gne0 rfl rfl rfl ?_))
        | ((with_reducible refine TSand ?hd ?_); (case hd => (repeat (first | exact List.nil_sublist _ | refine List.Sublist.cons_cons _ ?_ | refine List.Sublist.cons _ ?_))))
        | ((with_reducible refine TBand ?hd ?_); (case hd => (repeat (first | exact List.nil_sublist _ | refine List.Sublist.cons_cons _ ?_ | refine List.Sublist.cons _ ?_))))
        | ((with_reducible refine g_TB ?_); (first | with_reducible refine TB_run ?_ | refine TB_y rfl rfl ?_ | refine TB_b rfl rfl ?_ ?_ | refine TB_e rfl ?_))
        | ((with_reducible refine is_move ?_); refine ⟨_, Yl_move rfl, ?_⟩)
        | ((with_reducible refine is_assign ?_); refine ⟨_, Yl_assign rfl, ?_⟩)
        | ((with_reducible refine is_ext ?_); refine ⟨_, Yl_extract rfl rfl, ?_⟩)
        | ((with_reducible refine is_un ?_); refine ⟨_, Yl_not rfl, ?_⟩)
        | ((with_reducible refine is_slice ?_); (first | ((refine' ⟨_, Yl_sl_l rfl rfl ?q1 ?q2 ?q3, ?_⟩); (case q1 => exact und_of rfl); (case q2 => exact siz_of rfl); (case q3 => omega)) | ((refine' ⟨_, Yl_sl_h rfl rfl ?q1 ?q2 ?q3, ?_⟩); (case q1 => exact und_of rfl); (case q2 => exact siz_of rfl); (case q3 => omega)) | ((refine' ⟨_, Yl_sl_lh rfl rfl rfl ?q1 ?q2 ?q3 ?q4, ?_⟩); (case q1 => exact und_of rfl); (case q2 => exact siz_of rfl); (case q3 => omega); (case q4 => omega)) | ((refine' ⟨_, Yl_sl_hm rfl rfl rfl ?q1 ?q2 ?q3 ?q4, ?_⟩); (case q1 => exact und_of rfl); (case q2 => exact siz_of rfl); (case q3 => omega); (case q4 => omega))))
        | ((with_reducible refine ie_callf ?_); (first   | ((with_reducible refine g_call 22 ?_); (first | refine Ef_callP rfl rfl ent_22 (fun w _ => serial_v n true w hsx) ?_ | refine Ef_callP rfl rfl ent_22 (fun w _ => serial_v n false w hsx) ?_)) | ((with_reducible refine g_call 19 ?_); (first | (((refine' Ef_callN rfl rfl ent_19 (fun w hp => union_c A len cap a (some ⟨b1, 0, none⟩) 1 1 [n] w (hp.rd hra fun _ => List.not_mem_nil) (hp.rowOf ?q1) hla rfl hca ?q2) ?_); (case q1 => (repeat (first | exact .head _ | apply List.Mem.tail))); (case q2 => decide)); rintro ⟨A9, c9⟩)))))
        | ((first   | ((with_reducible refine ie_bsl ?_); (first | ((refine' Ef_bsl0 rfl ?q1 ?_); (case q1 => exact app_of rfl)) | ((refine' Ef_bslA rfl rfl ?q1 ?q2 ?q3 ?_); (case q1 => exact app_of rfl); (case q2 => rfl); (case q3 => decide)) | ((refine' Ef_bsl1 rfl rfl rfl ?q1 ?_); (case q1 => exact app_of rfl))))); (first | ((fail_if_success have := b1); intro b1) | ((fail_if_success have := b2); intro b2) | ((fail_if_success have := b3); intro b3) | ((fail_if_success have := b4); intro b4) | ((fail_if_success have := b5); intro b5) | ((fail_if_success have := b6); intro b6) | ((fail_if_success have := b7); intro b7) | ((fail_if_success have := b8); intro b8) | ((fail_if_success have := b9); intro b9) | ((fail_if_success have := b10); intro b10) | ((fail_if_success have := b11); intro b11) | ((fail_if_success have := b12); intro b12)))
        | (fail; (first | ((fail_if_success have := A1); intro A1 c1) | ((fail_if_success have := A2); intro A2 c2) | ((fail_if_success have := A3); intro A3 c3) | ((fail_if_success have := A4); intro A4 c4) | ((fail_if_success have := A5); intro A5 c5) | ((fail_if_success have := A6); intro A6 c6) | ((fail_if_success have := A7); intro A7 c7)))
        | refine Ef_y rfl rfl ?_)
    exact ret_n [rO [] (none, 0)] (res2 rfl rfl rfl) (List.Sublist.refl _) ⟨(none, 0), rfl, rfl⟩
  | true =>
    refine Sp.enter (n := 15) Try.func9 rfl rfl rfl (Hp.refl w) ?_
    repeat' (first
        | with_reducible refine T.seq ?_
        | with_reducible refine T.block ?_
        | with_reducible refine T.region ?_
        | with_reducible refine T.skip ?_
        | with_reducible refine T.scope ?_
        | with_reducible refine T.label ?_
        | with_reducible refine scopeQ_n ?_
        | with_reducible refine scopeQ_r ?_
        | with_reducible refine scopeQ_x ?_
        | with_reducible refine T.ret ?_
        | with_reducible refine T.exit ?_
        | with_reducible refine seqQ_n ?_
        | with_reducible refine seqQ_x ?_
        | with_reducible refine seqQ_r ?_
        | with_reducible refine blockQ_n ?_
        | with_reducible refine blockQ_r ?_
        | with_reducible refine blockQ_x ?_
        | ((with_reducible refine g_blkx ?_); refine blockQ_y rfl ?_)
        | with_reducible refine loopQ_x ?_
        | with_reducible refine loopQ_r ?_
        | with_reducible refine joinQ_r ?_
        | with_reducible refine joinQ_x ?_
        | ((with_reducible refine g_cond ?_); (first | refine T.cond_t rfl ?_ | refine T.cond_f rfl ?_ | (refine T.cond_s rfl ?_ ?_ <;> intro hc)))
        | with_reducible refine TL_nil ?_
        | with_reducible refine TS_nil ?_
        | ((with_reducible refine TL_y' ?hy ?hd ?_); (case hy => rfl); (case hd => rfl))
        | with_reducible refine TL_e ?_
        | ((with_reducible refine g_TL ?_); (first | refine TL_gy' rfl rfl rfl rfl ?_ | refine TL_gn rfl rfl rfl ?_ | refine TL_gu rfl rfl rfl ?_ | refine TL_ge rfl rfl ?_ | refine TL_gn0 rfl rfl ?_))
        | ((with_reducible refine g_TS ?_); (first | refine TS_y rfl rfl ?_ | refine TS_e rfl ?_ | refine TS_gy rfl rfl rfl rfl ?_ | refine TS_gn rfl rfl rfl rfl ?_ | refine TS_gu rfl rfl rfl rfl ?_ | refine TS_ge rfl rfl rfl ?_ | refine TS_gne rfl rfl rfl rfl ?_ | refine TS_gue rfl rfl rfl rfl ?_ | refine TS_gne0 rfl rfl rfl ?_))
        | ((with_reducible refine TSand ?hd ?_); (case hd => (repeat (first | exact List.nil_sublist _ | refine List.Sublist.cons_cons _ ?_ | refine List.Sublist.cons _ ?_))))
        | ((with_reducible refine TBand ?hd ?_); (case hd => (repeat (first | exact List.nil_sublist _ | refine List.Sublist.cons_cons _ ?_ | refine List.Sublist.cons _ ?_))))
        | ((with_reducible refine g_TB ?_); (first | with_reducible refine TB_run ?_ | refine TB_y rfl rfl ?_ | refine TB_b rfl rfl ?_ ?_ | refine TB_e rfl ?_))
        | ((with_reducible refine is_move ?_); refine ⟨_, Yl_move rfl, ?_⟩)
        | ((with_reducible refine is_assign ?_); refine ⟨_, Yl_assign rfl, ?_⟩)
        | ((with_reducible refine is_ext ?_); refine ⟨_, Yl_extract rfl rfl, ?_⟩)
        | ((with_reducible refine is_un ?_); refine ⟨_, Yl_not rfl, ?_⟩)
        | ((with_reducible refine is_slice ?_); (first | ((refine' ⟨_, Yl_sl_l rfl rfl ?q1 ?q2 ?q3, ?_⟩); (case q1 => exact und_of rfl); (case q2 => exact siz_of rfl); (case q3 => omega)) | ((refine' ⟨_, Yl_sl_h rfl rfl ?q1 ?q2 ?q3, ?_⟩); (case q1 => exact und_of rfl); (case q2 => exact siz_of rfl); (case q3 => omega)) | ((refine' ⟨_, Yl_sl_lh rfl rfl rfl ?q1 ?q2 ?q3 ?q4, ?_⟩); (case q1 => exact und_of rfl); (case q2 => exact siz_of rfl); (case q3 => omega); (case q4 => omega)) | ((refine' ⟨_, Yl_sl_hm rfl rfl rfl ?q1 ?q2 ?q3 ?q4, ?_⟩); (case q1 => exact und_of rfl); (case q2 => exact siz_of rfl); (case q3 => omega); (case q4 => omega))))
        | ((with_reducible refine ie_callf ?_); (first   | ((with_reducible refine g_call 22 ?_); (first | refine Ef_callP rfl rfl ent_22 (fun w _ => serial_v n true w hsx) ?_ | refine Ef_callP rfl rfl ent_22 (fun w _ => serial_v n false w hsx) ?_)) | ((with_reducible refine g_call 19 ?_); (first | (((refine' Ef_callN rfl rfl ent_19 (fun w hp => union_c A len cap a (some ⟨b1, 0, none⟩) 1 1 [n] w (hp.rd hra fun _ => List.not_mem_nil) (hp.rowOf ?q1) hla rfl hca ?q2) ?_); (case q1 => (repeat (first | exact .head _ | apply List.Mem.tail))); (case q2 => decide)); rintro ⟨A9, c9⟩)))))
        | ((first   | ((with_reducible refine ie_bsl ?_); (first | ((refine' Ef_bsl0 rfl ?q1 ?_); (case q1 => exact app_of rfl)) | ((refine' Ef_bslA rfl rfl ?q1 ?q2 ?q3 ?_); (case q1 => exact app_of rfl); (case q2 => rfl); (case q3 => decide)) | ((refine' Ef_bsl1 rfl rfl rfl ?q1 ?_); (case q1 => exact app_of rfl))))); (first | ((fail_if_success have := b1); intro b1) | ((fail_if_success have := b2); intro b2) | ((fail_if_success have := b3); intro b3) | ((fail_if_success have := b4); intro b4) | ((fail_if_success have := b5); intro b5) | ((fail_if_success have := b6); intro b6) | ((fail_if_success have := b7); intro b7) | ((fail_if_success have := b8); intro b8) | ((fail_if_success have := b9); intro b9) | ((fail_if_success have := b10); intro b10) | ((fail_if_success have := b11); intro b11) | ((fail_if_success have := b12); intro b12)))
        | (fail; (first | ((fail_if_success have := A1); intro A1 c1) | ((fail_if_success have := A2); intro A2 c2) | ((fail_if_success have := A3); intro A3 c3) | ((fail_if_success have := A4); intro A4 c4) | ((fail_if_success have := A5); intro A5 c5) | ((fail_if_success have := A6); intro A6 c6) | ((fail_if_success have := A7); intro A7 c7)))
        | refine Ef_y rfl rfl ?_)
    exact ret_n [rO (Rv.union a [n]).1 (A9, c9)] (res2 rfl rfl rfl) (by (repeat (first | exact List.nil_sublist _ | refine List.Sublist.cons_cons _ ?_ | refine List.Sublist.cons _ ?_))) ⟨(A9, c9), rfl, rfl⟩

set_option maxHeartbeats 4000000 in
theorem radd_c (n : Int) (w : World) (hra : Rd w A len 1 (a.flatMap (eI .i64))) (hla : a.length = len) (hle : len ≤ 9223372036854775807) :
    Sp Try.prog 10 [.slice A len cap, .int .i64 n] w [] fun v N => ∃ z : Option Addr × Nat, v = .tuple #[.slice z.1 (Rv.raddR a n).1.length z.2, .int .i64 (Rv.raddR a n).2] ∧ N = [rO (Rv.raddR a n).1 z] := by
  have hma := fun w hr => rmay_v A len cap a (Rv.may a) w hr hla hle rfl
  by_cases hm : Rv.may a = true ∧ Rv.serial n = true
  case neg =>
    have e : Rv.raddR a n = ([], 2) := by unfold Rv.raddR; rw [if_neg hm]
    rw [e]
    have hcase : Rv.may a = false ∨ Rv.may a = true ∧ Rv.serial n = false := by
      cases h1 : Rv.may a
      · exact .inl rfl
      · cases h2 : Rv.serial n
        · exact .inr ⟨rfl, rfl⟩
        · exact absurd ⟨h1, h2⟩ hm
    rcases hcase with h1 | ⟨h1, hsx⟩
    all_goals
      rw [h1] at hma
      refine Sp.enter (n := 65) Try.func10 rfl rfl rfl (Hp.refl w) ?_
      refine T.row0e 3 1 ?_
      repeat' (first
          | with_reducible refine T.seq ?_
          | with_reducible refine T.block ?_
          | with_reducible refine T.region ?_
          | with_reducible refine T.skip ?_
          | with_reducible refine T.scope ?_
          | with_reducible refine T.label ?_
          | with_reducible refine scopeQ_n ?_
          | with_reducible refine scopeQ_r ?_
          | with_reducible refine scopeQ_x ?_
          | with_reducible refine T.ret ?_
          | with_reducible refine T.exit ?_
          | with_reducible refine seqQ_n ?_
          | with_reducible refine seqQ_x ?_
          | with_reducible refine seqQ_r ?_
          | with_reducible refine blockQ_n ?_
          | with_reducible refine blockQ_r ?_
          | with_reducible refine blockQ_x ?_
          | ((with_reducible refine g_blkx ?_); refine blockQ_y rfl ?_)
          | with_reducible refine loopQ_x ?_
          | with_reducible refine loopQ_r ?_
          | with_reducible refine joinQ_r ?_
          | with_reducible refine joinQ_x ?_
          | ((with_reducible refine g_cond ?_); (first | refine T.cond_t rfl ?_ | refine T.cond_f rfl ?_ | (refine T.cond_s rfl ?_ ?_ <;> intro hc)))
          | with_reducible refine TL_nil ?_
          | with_reducible refine TS_nil ?_
          | ((with_reducible refine TL_y' ?hy ?hd ?_); (case hy => rfl); (case hd => rfl))
          | with_reducible refine TL_e ?_
          | ((with_reducible refine g_TL ?_); (first | refine TL_gy' rfl rfl rfl rfl ?_ | refine TL_gn rfl rfl rfl ?_ | refine TL_gu rfl rfl rfl ?_ | refine TL_ge rfl rfl ?_ | refine TL_gn0 rfl rfl ?_))
          | ((with_reducible refine g_TS ?_); (first | refine TS_y rfl rfl ?_ | refine TS_e rfl ?_ | refine TS_gy rfl rfl rfl rfl ?_ | refine TS_gn rfl rfl rfl rfl ?_ | refine TS_gu rfl rfl rfl rfl ?_ | refine TS_ge rfl rfl rfl ?_ | refine TS_gne rfl rfl rfl rfl ?_ | refine TS_gue rfl rfl rfl rfl ?_ | refine TS_gne0 rfl rfl rfl ?_))
          | ((with_reducible refine TSand ?hd ?_); (case hd => (repeat (first | exact List.nil_sublist _ | refine List.Sublist.cons_cons _ ?_ | refine List.Sublist.cons _ ?_))))
          | ((with_reducible refine TBand ?hd ?_); (case hd => (repeat (first | exact List.nil_sublist _ | refine List.Sublist.cons_cons _ ?_ | refine List.Sublist.cons _ ?_))))
          | ((with_reducible refine g_TB ?_); (first | with_reducible refine TB_run ?_ | refine TB_y rfl rfl ?_ | refine TB_b rfl rfl ?_ ?_ | refine TB_e rfl ?_))
          | ((with_reducible refine is_move ?_); refine ⟨_, Yl_move rfl, ?_⟩)
          | ((with_reducible refine is_assign ?_); refine ⟨_, Yl_assign rfl, ?_⟩)
          | ((with_reducible refine is_pick ?_); (first | refine ⟨_, Yl_pick_t rfl rfl, ?_⟩ | refine ⟨_, Yl_pick_f rfl rfl, ?_⟩))
          | ((with_reducible refine is_load ?_); (first
          | ((refine' ⟨_, Yl_load_blk rfl ?q1 ?q2 ?q3, ?_⟩); (case q1 => exact one_of rfl); (case q2 => (repeat (first | exact .head _ | apply List.Mem.tail))); (case q3 => rfl))
          | ((refine' ⟨_, Yl_loadA_blk rfl ?q1 ?q2, ?_⟩); (case q1 => (repeat (first | exact .head _ | apply List.Mem.tail))); (case q2 => exact agg_of rfl))
          | ((refine' ⟨_, Yl_load_blk rfl ?q1 ?q2 ?q3, ?_⟩); (case q1 => exact one_of rfl); (case q2 => (repeat (first | exact .head _ | apply List.Mem.tail))); (case q3 => assumption))
          | ((refine' ⟨_, Yl_load_rd rfl ?q1 ?q2 List.not_mem_nil ?q3, ?_⟩); (case q1 => exact one_of rfl); (case q2 => assumption); (case q3 => assumption))
          | ((refine' ⟨_, Yl_load_row rfl ?q1 ?q2 ?q3, ?_⟩); (case q1 => exact one_of rfl); (case q2 => (repeat (first | exact .head _ | apply List.Mem.tail))); (case q3 => assumption))
          | ((refine' ⟨_, Yl_loadA_rd rfl ?qa ?qb List.not_mem_nil ?ql ?qc, ?_⟩); (case qa => exact agg_of rfl); (case qb => assumption); (case qc => assumption); (case ql => rfl))
          | ((refine' ⟨_, Yl_loadA_row rfl ?qa ?qb ?ql ?qc, ?_⟩); (case qa => exact agg_of rfl); (case qb => (repeat (first | exact .head _ | apply List.Mem.tail))); (case qc => assumption); (case ql => rfl))))
          | ((with_reducible refine is_idx ?_); (first
          | ((refine' ⟨_, Yl_index rfl rfl ?q1 ?q2 ?q3 (Rd.some_ ?q4 ?q5), ?_⟩); (case q1 => exact und_of rfl); (case q2 => exact siz_of rfl); (case q3 => omega); (case q4 => assumption); (case q5 => omega))
          | ((refine' ⟨_, Yl_index_row rfl rfl ?q1 ?q2 ?q3 ?q4, ?_⟩); (case q1 => exact und_of rfl); (case q2 => exact siz_of rfl); (case q3 => omega); (case q4 => (repeat (first | exact .head _ | apply List.Mem.tail))))
          | ((refine' ⟨_, Yl_index rfl rfl ?q1 ?q2 ?q3 rfl, ?_⟩); (case q1 => exact und_of rfl); (case q2 => exact siz_of rfl); (case q3 => omega))
          | ((refine' ⟨_, Yl_index (j := 0) rfl rfl ?q1 ?q2 ?q3 (Rd.some_ ?q4 ?q5), ?_⟩); (case q1 => exact und_of rfl); (case q2 => exact siz_of rfl); (case q3 => omega); (case q4 => assumption); (case q5 => omega))
          | ((refine' ⟨_, Yl_index_row (j := 0) rfl rfl ?q1 ?q2 ?q3 ?q4, ?_⟩); (case q1 => exact und_of rfl); (case q2 => exact siz_of rfl); (case q3 => omega); (case q4 => (repeat (first | exact .head _ | apply List.Mem.tail))))
          | ((refine' ⟨_, Yl_indexI rfl rfl ?q1 ?q2 ?q3 ?q4 (Rd.some_ ?q5 ?q6), ?_⟩); (case q1 => exact und_of rfl); (case q2 => exact siz_of rfl); (case q3 => omega); (case q4 => omega); (case q5 => assumption); (case q6 => omega))))
          | ((with_reducible refine is_un ?_); refine ⟨_, Yl_not rfl, ?_⟩)
          | ((with_reducible refine is_len ?_); (first | ((refine' ⟨_, Yl_len_slice rfl ?q1, ?_⟩); (case q1 => exact und_of rfl)) | ((refine' ⟨_, Yl_len_string rfl ?q1, ?_⟩); (case q1 => exact und_of rfl))))
          | ((with_reducible refine is_b_lss ?_); (first | ((refine' ⟨_, Yl_lss_t rfl rfl ?q1, ?_⟩); (case q1 => omega)) | ((refine' ⟨_, Yl_lss_f rfl rfl ?q1, ?_⟩); (case q1 => omega)) | (refine sp_lss rfl rfl ?_ ?_ <;> intro hc)))
          | ((with_reducible refine is_b_gtr ?_); (first | ((refine' ⟨_, Yl_gtr_t rfl rfl ?q1, ?_⟩); (case q1 => omega)) | ((refine' ⟨_, Yl_gtr_f rfl rfl ?q1, ?_⟩); (case q1 => omega)) | (refine sp_gtr rfl rfl ?_ ?_ <;> intro hc)))
          | ((with_reducible refine is_b_add ?_); (first | ((refine' ⟨_, Yl_add rfl rfl ?q1 ?q2, ?_⟩); (case q1 => omega); (case q2 => omega)) | ((refine' ⟨_, Yl_add8 rfl rfl ?q1 ?q2, ?_⟩); (case q1 => omega); (case q2 => omega))))
          | ((with_reducible refine is_slice ?_); (first | ((refine' ⟨_, Yl_sl_l rfl rfl ?q1 ?q2 ?q3, ?_⟩); (case q1 => exact und_of rfl); (case q2 => exact siz_of rfl); (case q3 => omega)) | ((refine' ⟨_, Yl_sl_h rfl rfl ?q1 ?q2 ?q3, ?_⟩); (case q1 => exact und_of rfl); (case q2 => exact siz_of rfl); (case q3 => omega)) | ((refine' ⟨_, Yl_sl_lh rfl rfl rfl ?q1 ?q2 ?q3 ?q4, ?_⟩); (case q1 => exact und_of rfl); (case q2 => exact siz_of rfl); (case q3 => omega); (case q4 => omega)) | ((refine' ⟨_, Yl_sl_hm rfl rfl rfl ?q1 ?q2 ?q3 ?q4, ?_⟩); (case q1 => exact und_of rfl); (case q2 => exact siz_of rfl); (case q3 => omega); (case q4 => omega))))
          | ((with_reducible refine ie_callf ?_); (first | ((with_reducible refine g_call 13 ?_); (first | refine Ef_callP rfl rfl ent_13 (fun w hp => hma w (hp.rd hra fun _ => List.not_mem_nil)) ?_)) | ((with_reducible refine g_call 23 ?_); (first | refine Ef_callP rfl rfl ent_23 (fun w _ => rserial_v n true w hsx) ?_ | refine Ef_callP rfl rfl ent_23 (fun w _ => rserial_v n false w hsx) ?_))))
          | ((first   | ((with_reducible refine ie_bsl ?_); (first | ((refine' Ef_bsl0 rfl ?q1 ?_); (case q1 => exact app_of rfl)) | ((refine' Ef_bslA rfl rfl ?q1 ?q2 ?q3 ?_); (case q1 => exact app_of rfl); (case q2 => rfl); (case q3 => decide)) | ((refine' Ef_bsl1 rfl rfl rfl ?q1 ?_); (case q1 => exact app_of rfl))))); (first | ((fail_if_success have := b1); intro b1) | ((fail_if_success have := b2); intro b2) | ((fail_if_success have := b3); intro b3) | ((fail_if_success have := b4); intro b4) | ((fail_if_success have := b5); intro b5) | ((fail_if_success have := b6); intro b6) | ((fail_if_success have := b7); intro b7) | ((fail_if_success have := b8); intro b8) | ((fail_if_success have := b9); intro b9) | ((fail_if_success have := b10); intro b10) | ((fail_if_success have := b11); intro b11) | ((fail_if_success have := b12); intro b12)))
          | (((with_reducible refine ie_app ?_); (first
          | ((refine' Ef_app0_rd rfl rfl rfl ?q1 ?q2 ?q3 ?q4 ?q5 ?q6 ?q7 ?_); (case q1 => exact app_of rfl); (case q2 => (first | exact at0 | exact at1 | exact at2 | exact at3 | exact at4 | exact at5 | exact at6)); (case q3 => assumption); (case q4 => (first | assumption | (intro u hu; rcases hu with _ | ⟨_, _ | ⟨_, _ | ⟨_, _ | ⟨_, hu⟩⟩⟩⟩ <;> first | rfl | (cases hu; done)))); (case q5 => omega); (case q6 => omega); (case q7 => exact List.not_mem_nil))
          | ((refine' Ef_appG_row rfl rfl rfl ?q1 ?q2 ?q3 ?q4 ?q5 ?q6 ?_); (case q1 => exact app_of rfl); (case q2 => (first | exact at0 | exact at1 | exact at2 | exact at3 | exact at4 | exact at5 | exact at6)); (case q3 => (repeat (first | exact .head _ | apply List.Mem.tail))); (case q4 => (first | assumption | (intro u hu; rcases hu with _ | ⟨_, _ | ⟨_, _ | ⟨_, _ | ⟨_, hu⟩⟩⟩⟩ <;> first | rfl | (cases hu; done)))); (case q5 => omega); (case q6 => omega))
          | ((refine' Ef_appG_rd rfl rfl rfl ?q1 ?q2 ?q3 ?q4 ?q5 ?q6 ?q7 ?_); (case q1 => exact app_of rfl); (case q2 => (first | exact at0 | exact at1 | exact at2 | exact at3 | exact at4 | exact at5 | exact at6)); (case q3 => assumption); (case q4 => (first | assumption | (intro u hu; rcases hu with _ | ⟨_, _ | ⟨_, _ | ⟨_, _ | ⟨_, hu⟩⟩⟩⟩ <;> first | rfl | (cases hu; done)))); (case q5 => omega); (case q6 => omega); (case q7 => exact List.not_mem_nil)))); (first | ((fail_if_success have := A1); intro A1 c1) | ((fail_if_success have := A2); intro A2 c2) | ((fail_if_success have := A3); intro A3 c3) | ((fail_if_success have := A4); intro A4 c4) | ((fail_if_success have := A5); intro A5 c5) | ((fail_if_success have := A6); intro A6 c6) | ((fail_if_success have := A7); intro A7 c7)))
          | refine Ef_y rfl rfl ?_)
      exact ret_n [rO [] (none, 0)] (res2 rfl rfl rfl) (List.Sublist.refl _) ⟨(none, 0), rfl, rfl⟩
  rw [hm.1] at hma
  have hsx := hm.2
  have e : Rv.raddR a n = if 32 < (Rv.radd a n).length then ([], 4) else (Rv.radd a n, 0) := by unfold Rv.raddR; rw [if_pos hm]
  have h32 := ((Rv.may_iff a).1 hm.1).len
  have hup := ((Rv.may_iff a).1 hm.1).up
  refine Sp.enter (n := 65) Try.func10 rfl rfl rfl (Hp.refl w) ?_
  refine T.row0e 3 1 ?_
  refine T.row0e 3 1 ?_
  repeat' (first
      | with_reducible refine T.seq ?_
      | with_reducible refine T.block ?_
      | with_reducible refine T.region ?_
      | with_reducible refine T.skip ?_
      | with_reducible refine T.scope ?_
      | with_reducible refine T.label ?_
      | with_reducible refine scopeQ_n ?_
      | with_reducible refine scopeQ_r ?_
      | with_reducible refine scopeQ_x ?_
      | with_reducible refine T.ret ?_
      | with_reducible refine T.exit ?_
      | with_reducible refine seqQ_n ?_
      | with_reducible refine seqQ_x ?_
      | with_reducible refine seqQ_r ?_
      | with_reducible refine blockQ_n ?_
      | with_reducible refine blockQ_r ?_
      | with_reducible refine blockQ_x ?_
      | ((with_reducible refine g_blkx ?_); refine blockQ_y rfl ?_)
      | with_reducible refine loopQ_x ?_
      | with_reducible refine loopQ_r ?_
      | with_reducible refine joinQ_r ?_
      | with_reducible refine joinQ_x ?_
      | ((with_reducible refine g_cond ?_); (first | refine T.cond_t rfl ?_ | refine T.cond_f rfl ?_ | (refine T.cond_s rfl ?_ ?_ <;> intro hc)))
      | with_reducible refine TL_nil ?_
      | with_reducible refine TS_nil ?_
      | ((with_reducible refine TL_y' ?hy ?hd ?_); (case hy => rfl); (case hd => rfl))
      | with_reducible refine TL_e ?_
      | ((with_reducible refine g_TL ?_); (first | refine TL_gy' rfl rfl rfl rfl ?_ | refine TL_gn rfl rfl rfl ?_ | refine TL_gu rfl rfl rfl ?_ | refine TL_ge rfl rfl ?_ | refine TL_gn0 rfl rfl ?_))
      | ((with_reducible refine g_TS ?_); (first | refine TS_y rfl rfl ?_ | refine TS_e rfl ?_ | refine TS_gy rfl rfl rfl rfl ?_ | refine TS_gn rfl rfl rfl rfl ?_ | refine TS_gu rfl rfl rfl rfl ?_ | refine TS_ge rfl rfl rfl ?_ | refine TS_gne rfl rfl rfl rfl ?_ | refine TS_gue rfl rfl rfl rfl ?_ | refine TS_gne0 rfl rfl rfl ?_))
      | ((with_reducible refine TSand ?hd ?_); (case hd => (repeat (first | exact List.nil_sublist _ | refine List.Sublist.cons_cons _ ?_ | refine List.Sublist.cons _ ?_))))
      | ((with_reducible refine TBand ?hd ?_); (case hd => (repeat (first | exact List.nil_sublist _ | refine List.Sublist.cons_cons _ ?_ | refine List.Sublist.cons _ ?_))))
      | ((with_reducible refine g_TB ?_); (first | with_reducible refine TB_run ?_ | refine TB_y rfl rfl ?_ | refine TB_b rfl rfl ?_ ?_ | refine TB_e rfl ?_))
      | ((with_reducible refine is_move ?_); refine ⟨_, Yl_move rfl, ?_⟩)
      | ((with_reducible refine is_assign ?_); refine ⟨_, Yl_assign rfl, ?_⟩)
      | ((with_reducible refine is_pick ?_); (first | refine ⟨_, Yl_pick_t rfl rfl, ?_⟩ | refine ⟨_, Yl_pick_f rfl rfl, ?_⟩))
      | ((with_reducible refine is_load ?_); (first
      | ((refine' ⟨_, Yl_load_blk rfl ?q1 ?q2 ?q3, ?_⟩); (case q1 => exact one_of rfl); (case q2 => (repeat (first | exact .head _ | apply List.Mem.tail))); (case q3 => rfl))
      | ((refine' ⟨_, Yl_loadA_blk rfl ?q1 ?q2, ?_⟩); (case q1 => (repeat (first | exact .head _ | apply List.Mem.tail))); (case q2 => exact agg_of rfl))
      | ((refine' ⟨_, Yl_load_blk rfl ?q1 ?q2 ?q3, ?_⟩); (case q1 => exact one_of rfl); (case q2 => (repeat (first | exact .head _ | apply List.Mem.tail))); (case q3 => assumption))
      | ((refine' ⟨_, Yl_load_rd rfl ?q1 ?q2 List.not_mem_nil ?q3, ?_⟩); (case q1 => exact one_of rfl); (case q2 => assumption); (case q3 => assumption))
      | ((refine' ⟨_, Yl_load_row rfl ?q1 ?q2 ?q3, ?_⟩); (case q1 => exact one_of rfl); (case q2 => (repeat (first | exact .head _ | apply List.Mem.tail))); (case q3 => assumption))
      | ((refine' ⟨_, Yl_loadA_rd rfl ?qa ?qb List.not_mem_nil ?ql ?qc, ?_⟩); (case qa => exact agg_of rfl); (case qb => assumption); (case qc => assumption); (case ql => rfl))
      | ((refine' ⟨_, Yl_loadA_row rfl ?qa ?qb ?ql ?qc, ?_⟩); (case qa => exact agg_of rfl); (case qb => (repeat (first | exact .head _ | apply List.Mem.tail))); (case qc => assumption); (case ql => rfl))))
      | ((with_reducible refine is_idx ?_); (first
      | ((refine' ⟨_, Yl_index rfl rfl ?q1 ?q2 ?q3 (Rd.some_ ?q4 ?q5), ?_⟩); (case q1 => exact und_of rfl); (case q2 => exact siz_of rfl); (case q3 => omega); (case q4 => assumption); (case q5 => omega))
      | ((refine' ⟨_, Yl_index_row rfl rfl ?q1 ?q2 ?q3 ?q4, ?_⟩); (case q1 => exact und_of rfl); (case q2 => exact siz_of rfl); (case q3 => omega); (case q4 => (repeat (first | exact .head _ | apply List.Mem.tail))))
      | ((refine' ⟨_, Yl_index rfl rfl ?q1 ?q2 ?q3 rfl, ?_⟩); (case q1 => exact und_of rfl); (case q2 => exact siz_of rfl); (case q3 => omega))
      | ((refine' ⟨_, Yl_index (j := 0) rfl rfl ?q1 ?q2 ?q3 (Rd.some_ ?q4 ?q5), ?_⟩); (case q1 => exact und_of rfl); (case q2 => exact siz_of rfl); (case q3 => omega); (case q4 => assumption); (case q5 => omega))
      | ((refine' ⟨_, Yl_index_row (j := 0) rfl rfl ?q1 ?q2 ?q3 ?q4, ?_⟩); (case q1 => exact und_of rfl); (case q2 => exact siz_of rfl); (case q3 => omega); (case q4 => (repeat (first | exact .head _ | apply List.Mem.tail))))
      | ((refine' ⟨_, Yl_indexI rfl rfl ?q1 ?q2 ?q3 ?q4 (Rd.some_ ?q5 ?q6), ?_⟩); (case q1 => exact und_of rfl); (case q2 => exact siz_of rfl); (case q3 => omega); (case q4 => omega); (case q5 => assumption); (case q6 => omega))))
      | ((with_reducible refine is_un ?_); refine ⟨_, Yl_not rfl, ?_⟩)
      | ((with_reducible refine is_len ?_); (first | ((refine' ⟨_, Yl_len_slice rfl ?q1, ?_⟩); (case q1 => exact und_of rfl)) | ((refine' ⟨_, Yl_len_string rfl ?q1, ?_⟩); (case q1 => exact und_of rfl))))
      | ((with_reducible refine is_b_lss ?_); (first | ((refine' ⟨_, Yl_lss_t rfl rfl ?q1, ?_⟩); (case q1 => omega)) | ((refine' ⟨_, Yl_lss_f rfl rfl ?q1, ?_⟩); (case q1 => omega)) | (refine sp_lss rfl rfl ?_ ?_ <;> intro hc)))
      | ((with_reducible refine is_b_gtr ?_); (first | ((refine' ⟨_, Yl_gtr_t rfl rfl ?q1, ?_⟩); (case q1 => omega)) | ((refine' ⟨_, Yl_gtr_f rfl rfl ?q1, ?_⟩); (case q1 => omega)) | (refine sp_gtr rfl rfl ?_ ?_ <;> intro hc)))
      | ((with_reducible refine is_b_add ?_); (first | ((refine' ⟨_, Yl_add rfl rfl ?q1 ?q2, ?_⟩); (case q1 => omega); (case q2 => omega)) | ((refine' ⟨_, Yl_add8 rfl rfl ?q1 ?q2, ?_⟩); (case q1 => omega); (case q2 => omega))))
      | ((with_reducible refine is_slice ?_); (first | ((refine' ⟨_, Yl_sl_l rfl rfl ?q1 ?q2 ?q3, ?_⟩); (case q1 => exact und_of rfl); (case q2 => exact siz_of rfl); (case q3 => omega)) | ((refine' ⟨_, Yl_sl_h rfl rfl ?q1 ?q2 ?q3, ?_⟩); (case q1 => exact und_of rfl); (case q2 => exact siz_of rfl); (case q3 => omega)) | ((refine' ⟨_, Yl_sl_lh rfl rfl rfl ?q1 ?q2 ?q3 ?q4, ?_⟩); (case q1 => exact und_of rfl); (case q2 => exact siz_of rfl); (case q3 => omega); (case q4 => omega)) | ((refine' ⟨_, Yl_sl_hm rfl rfl rfl ?q1 ?q2 ?q3 ?q4, ?_⟩); (case q1 => exact und_of rfl); (case q2 => exact siz_of rfl); (case q3 => omega); (case q4 => omega))))
      | ((with_reducible refine ie_callf ?_); (first | ((with_reducible refine g_call 13 ?_); (first | refine Ef_callP rfl rfl ent_13 (fun w hp => hma w (hp.rd hra fun _ => List.not_mem_nil)) ?_)) | ((with_reducible refine g_call 23 ?_); (first | refine Ef_callP rfl rfl ent_23 (fun w _ => rserial_v n true w hsx) ?_ | refine Ef_callP rfl rfl ent_23 (fun w _ => rserial_v n false w hsx) ?_))))
      | ((first   | ((with_reducible refine ie_bsl ?_); (first | ((refine' Ef_bsl0 rfl ?q1 ?_); (case q1 => exact app_of rfl)) | ((refine' Ef_bslA rfl rfl ?q1 ?q2 ?q3 ?_); (case q1 => exact app_of rfl); (case q2 => rfl); (case q3 => decide)) | ((refine' Ef_bsl1 rfl rfl rfl ?q1 ?_); (case q1 => exact app_of rfl))))); (first | ((fail_if_success have := b1); intro b1) | ((fail_if_success have := b2); intro b2) | ((fail_if_success have := b3); intro b3) | ((fail_if_success have := b4); intro b4) | ((fail_if_success have := b5); intro b5) | ((fail_if_success have := b6); intro b6) | ((fail_if_success have := b7); intro b7) | ((fail_if_success have := b8); intro b8) | ((fail_if_success have := b9); intro b9) | ((fail_if_success have := b10); intro b10) | ((fail_if_success have := b11); intro b11) | ((fail_if_success have := b12); intro b12)))
      | (((with_reducible refine ie_app ?_); (first
      | ((refine' Ef_app0_rd rfl rfl rfl ?q1 ?q2 ?q3 ?q4 ?q5 ?q6 ?q7 ?_); (case q1 => exact app_of rfl); (case q2 => (first | exact at0 | exact at1 | exact at2 | exact at3 | exact at4 | exact at5 | exact at6)); (case q3 => assumption); (case q4 => (first | assumption | (intro u hu; rcases hu with _ | ⟨_, _ | ⟨_, _ | ⟨_, _ | ⟨_, hu⟩⟩⟩⟩ <;> first | rfl | (cases hu; done)))); (case q5 => omega); (case q6 => omega); (case q7 => exact List.not_mem_nil))
      | ((refine' Ef_appG_row rfl rfl rfl ?q1 ?q2 ?q3 ?q4 ?q5 ?q6 ?_); (case q1 => exact app_of rfl); (case q2 => (first | exact at0 | exact at1 | exact at2 | exact at3 | exact at4 | exact at5 | exact at6)); (case q3 => (repeat (first | exact .head _ | apply List.Mem.tail))); (case q4 => (first | assumption | (intro u hu; rcases hu with _ | ⟨_, _ | ⟨_, _ | ⟨_, _ | ⟨_, hu⟩⟩⟩⟩ <;> first | rfl | (cases hu; done)))); (case q5 => omega); (case q6 => omega))
      | ((refine' Ef_appG_rd rfl rfl rfl ?q1 ?q2 ?q3 ?q4 ?q5 ?q6 ?q7 ?_); (case q1 => exact app_of rfl); (case q2 => (first | exact at0 | exact at1 | exact at2 | exact at3 | exact at4 | exact at5 | exact at6)); (case q3 => assumption); (case q4 => (first | assumption | (intro u hu; rcases hu with _ | ⟨_, _ | ⟨_, _ | ⟨_, _ | ⟨_, hu⟩⟩⟩⟩ <;> first | rfl | (cases hu; done)))); (case q5 => omega); (case q6 => omega); (case q7 => exact List.not_mem_nil)))); (first | ((fail_if_success have := A1); intro A1 c1) | ((fail_if_success have := A2); intro A2 c2) | ((fail_if_success have := A3); intro A3 c3) | ((fail_if_success have := A4); intro A4 c4) | ((fail_if_success have := A5); intro A5 c5) | ((fail_if_success have := A6); intro A6 c6) | ((fail_if_success have := A7); intro A7 c7)))
      | refine Ef_y rfl rfl ?_)
  refine T.loop (α := Nat × Option Addr × Nat) (fun x => [(0, .slice A len cap), (1, .int .i64 n), (6, .slice x.2.1 x.1 x.2.2), (7, .int .i64 (x.1 : Int))])
    (fun x => [.row 3 1 (.slice x.2.1 x.1 x.2.2) x.1 ((a.take x.1).flatMap (eI .i64)), .row 3 1 (.slice none 0 0) 0 []]) (fun x => x.1 ≤ len ∧ ∀ y ∈ a.take x.1, y < n) (fun x => len - x.1) (0, none, 0) ?_ ?_ ?_ ?_
  · (repeat (first | exact Sub.nil | refine Sub.cons rfl ?_))
  · (repeat (first | exact List.nil_sublist _ | refine List.Sublist.cons_cons _ ?_ | refine List.Sublist.cons _ ?_))
  · exact ⟨Nat.zero_le _, by simp⟩
  · rintro ⟨i, C, c⟩ ⟨hi, hlt⟩
    dsimp only at hi hlt ⊢
    by_cases hc1 : i < len ∧ ∃ y, a[i]? = some y ∧ y < n
    · obtain ⟨hil, y, hy, hyn⟩ := hc1
      have e0 : (a.flatMap (eI .i64))[i * 1 + 0]? = some (.int .i64 y) := enc_at (eI_len .i64) hy (by omega)
      repeat' (first
          | with_reducible refine T.seq ?_
          | with_reducible refine T.block ?_
          | with_reducible refine T.region ?_
          | with_reducible refine T.skip ?_
          | with_reducible refine T.scope ?_
          | with_reducible refine T.label ?_
          | with_reducible refine scopeQ_n ?_
          | with_reducible refine scopeQ_r ?_
          | with_reducible refine scopeQ_x ?_
          | with_reducible refine T.ret ?_
          | with_reducible refine T.exit ?_
          | with_reducible refine seqQ_n ?_
          | with_reducible refine seqQ_x ?_
          | with_reducible refine seqQ_r ?_
          | with_reducible refine blockQ_n ?_
          | with_reducible refine blockQ_r ?_
          | with_reducible refine blockQ_x ?_
          | ((with_reducible refine g_blkx ?_); refine blockQ_y rfl ?_)
          | with_reducible refine loopQ_x ?_
          | with_reducible refine loopQ_r ?_
          | with_reducible refine joinQ_r ?_
          | with_reducible refine joinQ_x ?_
          | ((with_reducible refine g_cond ?_); (first | refine T.cond_t rfl ?_ | refine T.cond_f rfl ?_ | (refine T.cond_s rfl ?_ ?_ <;> intro hc)))
          | with_reducible refine TL_nil ?_
          | with_reducible refine TS_nil ?_
          | ((with_reducible refine TL_y' ?hy ?hd ?_); (case hy => rfl); (case hd => rfl))
          | with_reducible refine TL_e ?_
          | ((with_reducible refine g_TL ?_); (first | refine TL_gy' rfl rfl rfl rfl ?_ | refine TL_gn rfl rfl rfl ?_ | refine TL_gu rfl rfl rfl ?_ | refine TL_ge rfl rfl ?_ | refine TL_gn0 rfl rfl ?_))
          | ((with_reducible refine g_TS ?_); (first | refine TS_y rfl rfl ?_ | refine TS_e rfl ?_ | refine TS_gy rfl rfl rfl rfl ?_ | refine TS_gn rfl rfl rfl rfl ?_ | refine TS_gu rfl rfl rfl rfl ?_ | refine TS_ge rfl rfl rfl ?_ | refine TS_gne rfl rfl rfl rfl ?_ | refine TS_gue rfl rfl rfl rfl ?_ | refine TS_gne0 rfl rfl rfl ?_))
          | ((with_reducible refine TSand ?hd ?_); (case hd => (repeat (first | exact List.nil_sublist _ | refine List.Sublist.cons_cons _ ?_ | refine List.Sublist.cons _ ?_))))
          | ((with_reducible refine TBand ?hd ?_); (case hd => (repeat (first | exact List.nil_sublist _ | refine List.Sublist.cons_cons _ ?_ | refine List.Sublist.cons _ ?_))))
          | ((with_reducible refine g_TB ?_); (first | with_reducible refine TB_run ?_ | refine TB_y rfl rfl ?_ | refine TB_b rfl rfl ?_ ?_ | refine TB_e rfl ?_))
          | ((with_reducible refine is_move ?_); refine ⟨_, Yl_move rfl, ?_⟩)
          | ((with_reducible refine is_assign ?_); refine ⟨_, Yl_assign rfl, ?_⟩)
          | ((with_reducible refine is_pick ?_); (first | refine ⟨_, Yl_pick_t rfl rfl, ?_⟩ | refine ⟨_, Yl_pick_f rfl rfl, ?_⟩))
          | ((with_reducible refine is_load ?_); (first
          | ((refine' ⟨_, Yl_load_blk rfl ?q1 ?q2 ?q3, ?_⟩); (case q1 => exact one_of rfl); (case q2 => (repeat (first | exact .head _ | apply List.Mem.tail))); (case q3 => rfl))
          | ((refine' ⟨_, Yl_loadA_blk rfl ?q1 ?q2, ?_⟩); (case q1 => (repeat (first | exact .head _ | apply List.Mem.tail))); (case q2 => exact agg_of rfl))
          | ((refine' ⟨_, Yl_load_blk rfl ?q1 ?q2 ?q3, ?_⟩); (case q1 => exact one_of rfl); (case q2 => (repeat (first | exact .head _ | apply List.Mem.tail))); (case q3 => assumption))
          | ((refine' ⟨_, Yl_load_rd rfl ?q1 ?q2 List.not_mem_nil ?q3, ?_⟩); (case q1 => exact one_of rfl); (case q2 => assumption); (case q3 => assumption))
          | ((refine' ⟨_, Yl_load_row rfl ?q1 ?q2 ?q3, ?_⟩); (case q1 => exact one_of rfl); (case q2 => (repeat (first | exact .head _ | apply List.Mem.tail))); (case q3 => assumption))
          | ((refine' ⟨_, Yl_loadA_rd rfl ?qa ?qb List.not_mem_nil ?ql ?qc, ?_⟩); (case qa => exact agg_of rfl); (case qb => assumption); (case qc => assumption); (case ql => rfl))
          | ((refine' ⟨_, Yl_loadA_row rfl ?qa ?qb ?ql ?qc, ?_⟩); (case qa => exact agg_of rfl); (case qb => (repeat (first | exact .head _ | apply List.Mem.tail))); (case qc => assumption); (case ql => rfl))))
          | ((with_reducible refine is_idx ?_); (first
          | ((refine' ⟨_, Yl_index rfl rfl ?q1 ?q2 ?q3 (Rd.some_ ?q4 ?q5), ?_⟩); (case q1 => exact und_of rfl); (case q2 => exact siz_of rfl); (case q3 => omega); (case q4 => assumption); (case q5 => omega))
          | ((refine' ⟨_, Yl_index_row rfl rfl ?q1 ?q2 ?q3 ?q4, ?_⟩); (case q1 => exact und_of rfl); (case q2 => exact siz_of rfl); (case q3 => omega); (case q4 => (repeat (first | exact .head _ | apply List.Mem.tail))))
          | ((refine' ⟨_, Yl_index rfl rfl ?q1 ?q2 ?q3 rfl, ?_⟩); (case q1 => exact und_of rfl); (case q2 => exact siz_of rfl); (case q3 => omega))
          | ((refine' ⟨_, Yl_index (j := 0) rfl rfl ?q1 ?q2 ?q3 (Rd.some_ ?q4 ?q5), ?_⟩); (case q1 => exact und_of rfl); (case q2 => exact siz_of rfl); (case q3 => omega); (case q4 => assumption); (case q5 => omega))
          | ((refine' ⟨_, Yl_index_row (j := 0) rfl rfl ?q1 ?q2 ?q3 ?q4, ?_⟩); (case q1 => exact und_of rfl); (case q2 => exact siz_of rfl); (case q3 => omega); (case q4 => (repeat (first | exact .head _ | apply List.Mem.tail))))
          | ((refine' ⟨_, Yl_indexI rfl rfl ?q1 ?q2 ?q3 ?q4 (Rd.some_ ?q5 ?q6), ?_⟩); (case q1 => exact und_of rfl); (case q2 => exact siz_of rfl); (case q3 => omega); (case q4 => omega); (case q5 => assumption); (case q6 => omega))))
          | ((with_reducible refine is_un ?_); refine ⟨_, Yl_not rfl, ?_⟩)
          | ((with_reducible refine is_len ?_); (first | ((refine' ⟨_, Yl_len_slice rfl ?q1, ?_⟩); (case q1 => exact und_of rfl)) | ((refine' ⟨_, Yl_len_string rfl ?q1, ?_⟩); (case q1 => exact und_of rfl))))
          | ((with_reducible refine is_b_lss ?_); (first | ((refine' ⟨_, Yl_lss_t rfl rfl ?q1, ?_⟩); (case q1 => omega)) | ((refine' ⟨_, Yl_lss_f rfl rfl ?q1, ?_⟩); (case q1 => omega)) | (refine sp_lss rfl rfl ?_ ?_ <;> intro hc)))
          | ((with_reducible refine is_b_gtr ?_); (first | ((refine' ⟨_, Yl_gtr_t rfl rfl ?q1, ?_⟩); (case q1 => omega)) | ((refine' ⟨_, Yl_gtr_f rfl rfl ?q1, ?_⟩); (case q1 => omega)) | (refine sp_gtr rfl rfl ?_ ?_ <;> intro hc)))
          | ((with_reducible refine is_b_add ?_); (first | ((refine' ⟨_, Yl_add rfl rfl ?q1 ?q2, ?_⟩); (case q1 => omega); (case q2 => omega)) | ((refine' ⟨_, Yl_add8 rfl rfl ?q1 ?q2, ?_⟩); (case q1 => omega); (case q2 => omega))))
          | ((with_reducible refine is_slice ?_); (first | ((refine' ⟨_, Yl_sl_l rfl rfl ?q1 ?q2 ?q3, ?_⟩); (case q1 => exact und_of rfl); (case q2 => exact siz_of rfl); (case q3 => omega)) | ((refine' ⟨_, Yl_sl_h rfl rfl ?q1 ?q2 ?q3, ?_⟩); (case q1 => exact und_of rfl); (case q2 => exact siz_of rfl); (case q3 => omega)) | ((refine' ⟨_, Yl_sl_lh rfl rfl rfl ?q1 ?q2 ?q3 ?q4, ?_⟩); (case q1 => exact und_of rfl); (case q2 => exact siz_of rfl); (case q3 => omega); (case q4 => omega)) | ((refine' ⟨_, Yl_sl_hm rfl rfl rfl ?q1 ?q2 ?q3 ?q4, ?_⟩); (case q1 => exact und_of rfl); (case q2 => exact siz_of rfl); (case q3 => omega); (case q4 => omega))))
          | ((with_reducible refine ie_callf ?_); (first | ((with_reducible refine g_call 13 ?_); (first | refine Ef_callP rfl rfl ent_13 (fun w hp => hma w (hp.rd hra fun _ => List.not_mem_nil)) ?_)) | ((with_reducible refine g_call 23 ?_); (first | refine Ef_callP rfl rfl ent_23 (fun w _ => rserial_v n true w hsx) ?_ | refine Ef_callP rfl rfl ent_23 (fun w _ => rserial_v n false w hsx) ?_))))
          | ((first   | ((with_reducible refine ie_bsl ?_); (first | ((refine' Ef_bsl0 rfl ?q1 ?_); (case q1 => exact app_of rfl)) | ((refine' Ef_bslA rfl rfl ?q1 ?q2 ?q3 ?_); (case q1 => exact app_of rfl); (case q2 => rfl); (case q3 => decide)) | ((refine' Ef_bsl1 rfl rfl rfl ?q1 ?_); (case q1 => exact app_of rfl))))); (first | ((fail_if_success have := b1); intro b1) | ((fail_if_success have := b2); intro b2) | ((fail_if_success have := b3); intro b3) | ((fail_if_success have := b4); intro b4) | ((fail_if_success have := b5); intro b5) | ((fail_if_success have := b6); intro b6) | ((fail_if_success have := b7); intro b7) | ((fail_if_success have := b8); intro b8) | ((fail_if_success have := b9); intro b9) | ((fail_if_success have := b10); intro b10) | ((fail_if_success have := b11); intro b11) | ((fail_if_success have := b12); intro b12)))
          | (((with_reducible refine ie_app ?_); (first
          | ((refine' Ef_app0_rd rfl rfl rfl ?q1 ?q2 ?q3 ?q4 ?q5 ?q6 ?q7 ?_); (case q1 => exact app_of rfl); (case q2 => (first | exact at0 | exact at1 | exact at2 | exact at3 | exact at4 | exact at5 | exact at6)); (case q3 => assumption); (case q4 => (first | assumption | (intro u hu; rcases hu with _ | ⟨_, _ | ⟨_, _ | ⟨_, _ | ⟨_, hu⟩⟩⟩⟩ <;> first | rfl | (cases hu; done)))); (case q5 => omega); (case q6 => omega); (case q7 => exact List.not_mem_nil))
          | ((refine' Ef_appG_row rfl rfl rfl ?q1 ?q2 ?q3 ?q4 ?q5 ?q6 ?_); (case q1 => exact app_of rfl); (case q2 => (first | exact at0 | exact at1 | exact at2 | exact at3 | exact at4 | exact at5 | exact at6)); (case q3 => (repeat (first | exact .head _ | apply List.Mem.tail))); (case q4 => (first | assumption | (intro u hu; rcases hu with _ | ⟨_, _ | ⟨_, _ | ⟨_, _ | ⟨_, hu⟩⟩⟩⟩ <;> first | rfl | (cases hu; done)))); (case q5 => omega); (case q6 => omega))
          | ((refine' Ef_appG_rd rfl rfl rfl ?q1 ?q2 ?q3 ?q4 ?q5 ?q6 ?q7 ?_); (case q1 => exact app_of rfl); (case q2 => (first | exact at0 | exact at1 | exact at2 | exact at3 | exact at4 | exact at5 | exact at6)); (case q3 => assumption); (case q4 => (first | assumption | (intro u hu; rcases hu with _ | ⟨_, _ | ⟨_, _ | ⟨_, _ | ⟨_, hu⟩⟩⟩⟩ <;> first | rfl | (cases hu; done)))); (case q5 => omega); (case q6 => omega); (case q7 => exact List.not_mem_nil)))); (first | ((fail_if_success have := A1); intro A1 c1) | ((fail_if_success have := A2); intro A2 c2) | ((fail_if_success have := A3); intro A3 c3) | ((fail_if_success have := A4); intro A4 c4) | ((fail_if_success have := A5); intro A5 c5) | ((fail_if_success have := A6); intro A6 c6) | ((fail_if_success have := A7); intro A7 c7)))
          | refine Ef_y rfl rfl ?_)
      refine loopQ_n (i + 1, A1, c1) ?_ ?_ ⟨by (first | omega | (dsimp only; omega) | (simp; omega)), fun z hz => ?_⟩ (by (first | omega | (dsimp only; omega) | (simp; omega)))
      · (repeat (first | exact Sub.nil | refine Sub.cons rfl ?_))
      · dsimp only
        rw [take_snoc hy, ← eI_snoc]
        (repeat (first | exact List.nil_sublist _ | refine List.Sublist.cons_cons _ ?_ | refine List.Sublist.cons _ ?_))
      · dsimp only at hz
        rw [take_snoc hy] at hz
        rcases List.mem_append.1 hz with hz | hz
        · exact hlt z hz
        · rw [List.mem_singleton.1 hz]; exact hyn
    · have htw : a.takeWhile (· < n) = a.take i := by
        refine Rv.tw_eq hlt ?_
        by_cases hil : i < len
        · obtain ⟨y, hy⟩ := some_of_lt (l := a) (i := i) (by omega)
          exact .inr ⟨y, hy, fun h => hc1 ⟨hil, y, hy, h⟩⟩
        · exact .inl (by omega)
      have hti : (a.take i).length = i := by rw [List.length_take]; omega
      have hcase : i = len ∨ ∃ y, a[i]? = some y ∧ ¬ y < n ∧ i < len := by
        by_cases hil : i < len
        · obtain ⟨y, hy⟩ := some_of_lt (l := a) (i := i) (by omega)
          exact .inr ⟨y, hy, fun h => hc1 ⟨hil, y, hy, h⟩, hil⟩
        · exact .inl (by omega)
      have e0 : ∀ y, a[i]? = some y → (a.flatMap (eI .i64))[i * 1 + 0]? = some (.int .i64 y) := fun y hy => enc_at (eI_len .i64) hy (by omega)
      rcases hcase with hil | ⟨y, hy, hyn, hil⟩
      all_goals
        try have e0 := e0 _ hy
        repeat' (first
            | with_reducible refine T.seq ?_
            | with_reducible refine T.block ?_
            | with_reducible refine T.region ?_
            | with_reducible refine T.skip ?_
            | with_reducible refine T.scope ?_
            | with_reducible refine T.label ?_
            | with_reducible refine scopeQ_n ?_
            | with_reducible refine scopeQ_r ?_
            | with_reducible refine scopeQ_x ?_
            | with_reducible refine T.ret ?_
            | with_reducible refine T.exit ?_
            | with_reducible refine seqQ_n ?_
            | with_reducible refine seqQ_x ?_
            | with_reducible refine seqQ_r ?_
            | with_reducible refine blockQ_n ?_
            | with_reducible refine blockQ_r ?_
            | with_reducible refine blockQ_x ?_
            | ((with_reducible refine g_blkx ?_); refine blockQ_y rfl ?_)
            | with_reducible refine loopQ_x ?_
            | with_reducible refine loopQ_r ?_
            | with_reducible refine joinQ_r ?_
            | with_reducible refine joinQ_x ?_
            | ((with_reducible refine g_cond ?_); (first | refine T.cond_t rfl ?_ | refine T.cond_f rfl ?_ | (refine T.cond_s rfl ?_ ?_ <;> intro hc)))
            | with_reducible refine TL_nil ?_
            | with_reducible refine TS_nil ?_
            | ((with_reducible refine TL_y' ?hy ?hd ?_); (case hy => rfl); (case hd => rfl))
            | with_reducible refine TL_e ?_
            | ((with_reducible refine g_TL ?_); (first | refine TL_gy' rfl rfl rfl rfl ?_ | refine TL_gn rfl rfl rfl ?_ | refine TL_gu rfl rfl rfl ?_ | refine TL_ge rfl rfl ?_ | refine TL_gn0 rfl rfl ?_))
            | ((with_reducible refine g_TS ?_); (first | refine TS_y rfl rfl ?_ | refine TS_e rfl ?_ | refine TS_gy rfl rfl rfl rfl ?_ | refine TS_gn rfl rfl rfl rfl ?_ | refine TS_gu rfl rfl rfl rfl ?_ | refine TS_ge rfl rfl rfl ?_ | refine TS_gne rfl rfl rfl rfl ?_ | refine TS_gue rfl rfl rfl rfl ?_ | refine TS_gne0 rfl rfl rfl ?_))
            | ((with_reducible refine TSand ?hd ?_); (case hd => (repeat (first | exact List.nil_sublist _ | refine List.Sublist.cons_cons _ ?_ | refine List.Sublist.cons _ ?_))))
            | ((with_reducible refine TBand ?hd ?_); (case hd => (repeat (first | exact List.nil_sublist _ | refine List.Sublist.cons_cons _ ?_ | refine List.Sublist.cons _ ?_))))
            | ((with_reducible refine g_TB ?_); (first | with_reducible refine TB_run ?_ | refine TB_y rfl rfl ?_ | refine TB_b rfl rfl ?_ ?_ | refine TB_e rfl ?_))
            | ((with_reducible refine is_move ?_); refine ⟨_, Yl_move rfl, ?_⟩)
            | ((with_reducible refine is_assign ?_); refine ⟨_, Yl_assign rfl, ?_⟩)
            | ((with_reducible refine is_pick ?_); (first | refine ⟨_, Yl_pick_t rfl rfl, ?_⟩ | refine ⟨_, Yl_pick_f rfl rfl, ?_⟩))
            | ((with_reducible refine is_load ?_); (first
            | ((refine' ⟨_, Yl_load_blk rfl ?q1 ?q2 ?q3, ?_⟩); (case q1 => exact one_of rfl); (case q2 => (repeat (first | exact .head _ | apply List.Mem.tail))); (case q3 => rfl))
            | ((refine' ⟨_, Yl_loadA_blk rfl ?q1 ?q2, ?_⟩); (case q1 => (repeat (first | exact .head _ | apply List.Mem.tail))); (case q2 => exact agg_of rfl))
            | ((refine' ⟨_, Yl_load_blk rfl ?q1 ?q2 ?q3, ?_⟩); (case q1 => exact one_of rfl); (case q2 => (repeat (first | exact .head _ | apply List.Mem.tail))); (case q3 => assumption))
            | ((refine' ⟨_, Yl_load_rd rfl ?q1 ?q2 List.not_mem_nil ?q3, ?_⟩); (case q1 => exact one_of rfl); (case q2 => assumption); (case q3 => assumption))
            | ((refine' ⟨_, Yl_load_row rfl ?q1 ?q2 ?q3, ?_⟩); (case q1 => exact one_of rfl); (case q2 => (repeat (first | exact .head _ | apply List.Mem.tail))); (case q3 => assumption))
            | ((refine' ⟨_, Yl_loadA_rd rfl ?qa ?qb List.not_mem_nil ?ql ?qc, ?_⟩); (case qa => exact agg_of rfl); (case qb => assumption); (case qc => assumption); (case ql => rfl))
            | ((refine' ⟨_, Yl_loadA_row rfl ?qa ?qb ?ql ?qc, ?_⟩); (case qa => exact agg_of rfl); (case qb => (repeat (first | exact .head _ | apply List.Mem.tail))); (case qc => assumption); (case ql => rfl))))
            | ((with_reducible refine is_idx ?_); (first
            | ((refine' ⟨_, Yl_index rfl rfl ?q1 ?q2 ?q3 (Rd.some_ ?q4 ?q5), ?_⟩); (case q1 => exact und_of rfl); (case q2 => exact siz_of rfl); (case q3 => omega); (case q4 => assumption); (case q5 => omega))
            | ((refine' ⟨_, Yl_index_row rfl rfl ?q1 ?q2 ?q3 ?q4, ?_⟩); (case q1 => exact und_of rfl); (case q2 => exact siz_of rfl); (case q3 => omega); (case q4 => (repeat (first | exact .head _ | apply List.Mem.tail))))
            | ((refine' ⟨_, Yl_index rfl rfl ?q1 ?q2 ?q3 rfl, ?_⟩); (case q1 => exact und_of rfl); (case q2 => exact siz_of rfl); (case q3 => omega))
            | ((refine' ⟨_, Yl_index (j := 0) rfl rfl ?q1 ?q2 ?q3 (Rd.some_ ?q4 ?q5), ?_⟩); (case q1 => exact und_of rfl); (case q2 => exact siz_of rfl); (case q3 => omega); (case q4 => assumption); (case q5 => omega))
            | ((refine' ⟨_, Yl_index_row (j := 0) rfl rfl ?q1 ?q2 ?q3 ?q4, ?_⟩); (case q1 => exact und_of rfl); (case q2 => exact siz_of rfl); (case q3 => omega); (case q4 => (repeat (first | exact .head _ | apply List.Mem.tail))))
            | ((refine' ⟨_, Yl_indexI rfl rfl ?q1 ?q2 ?q3 ?q4 (Rd.some_ ?q5 ?q6), ?_⟩); (case q1 => exact und_of rfl); (case q2 => exact siz_of rfl); (case q3 => omega); (case q4 => omega); (case q5 => assumption); (case q6 => omega))))
            | ((with_reducible refine is_un ?_); refine ⟨_, Yl_not rfl, ?_⟩)
            | ((with_reducible refine is_len ?_); (first | ((refine' ⟨_, Yl_len_slice rfl ?q1, ?_⟩); (case q1 => exact und_of rfl)) | ((refine' ⟨_, Yl_len_string rfl ?q1, ?_⟩); (case q1 => exact und_of rfl))))
            | ((with_reducible refine is_b_lss ?_); (first | ((refine' ⟨_, Yl_lss_t rfl rfl ?q1, ?_⟩); (case q1 => omega)) | ((refine' ⟨_, Yl_lss_f rfl rfl ?q1, ?_⟩); (case q1 => omega)) | (refine sp_lss rfl rfl ?_ ?_ <;> intro hc)))
            | ((with_reducible refine is_b_gtr ?_); (first | ((refine' ⟨_, Yl_gtr_t rfl rfl ?q1, ?_⟩); (case q1 => omega)) | ((refine' ⟨_, Yl_gtr_f rfl rfl ?q1, ?_⟩); (case q1 => omega)) | (refine sp_gtr rfl rfl ?_ ?_ <;> intro hc)))
            | ((with_reducible refine is_b_add ?_); (first | ((refine' ⟨_, Yl_add rfl rfl ?q1 ?q2, ?_⟩); (case q1 => omega); (case q2 => omega)) | ((refine' ⟨_, Yl_add8 rfl rfl ?q1 ?q2, ?_⟩); (case q1 => omega); (case q2 => omega))))
            | ((with_reducible refine is_slice ?_); (first | ((refine' ⟨_, Yl_sl_l rfl rfl ?q1 ?q2 ?q3, ?_⟩); (case q1 => exact und_of rfl); (case q2 => exact siz_of rfl); (case q3 => omega)) | ((refine' ⟨_, Yl_sl_h rfl rfl ?q1 ?q2 ?q3, ?_⟩); (case q1 => exact und_of rfl); (case q2 => exact siz_of rfl); (case q3 => omega)) | ((refine' ⟨_, Yl_sl_lh rfl rfl rfl ?q1 ?q2 ?q3 ?q4, ?_⟩); (case q1 => exact und_of rfl); (case q2 => exact siz_of rfl); (case q3 => omega); (case q4 => omega)) | ((refine' ⟨_, Yl_sl_hm rfl rfl rfl ?q1 ?q2 ?q3 ?q4, ?_⟩); (case q1 => exact und_of rfl); (case q2 => exact siz_of rfl); (case q3 => omega); (case q4 => omega))))
            | ((with_reducible refine ie_callf ?_); (first | ((with_reducible refine g_call 13 ?_); (first | refine Ef_callP rfl rfl ent_13 (fun w hp => hma w (hp.rd hra fun _ => List.not_mem_nil)) ?_)) | ((with_reducible refine g_call 23 ?_); (first | refine Ef_callP rfl rfl ent_23 (fun w _ => rserial_v n true w hsx) ?_ | refine Ef_callP rfl rfl ent_23 (fun w _ => rserial_v n false w hsx) ?_))))
            | ((first   | ((with_reducible refine ie_bsl ?_); (first | ((refine' Ef_bsl0 rfl ?q1 ?_); (case q1 => exact app_of rfl)) | ((refine' Ef_bslA rfl rfl ?q1 ?q2 ?q3 ?_); (case q1 => exact app_of rfl); (case q2 => rfl); (case q3 => decide)) | ((refine' Ef_bsl1 rfl rfl rfl ?q1 ?_); (case q1 => exact app_of rfl))))); (first | ((fail_if_success have := b1); intro b1) | ((fail_if_success have := b2); intro b2) | ((fail_if_success have := b3); intro b3) | ((fail_if_success have := b4); intro b4) | ((fail_if_success have := b5); intro b5) | ((fail_if_success have := b6); intro b6) | ((fail_if_success have := b7); intro b7) | ((fail_if_success have := b8); intro b8) | ((fail_if_success have := b9); intro b9) | ((fail_if_success have := b10); intro b10) | ((fail_if_success have := b11); intro b11) | ((fail_if_success have := b12); intro b12)))
            | (((with_reducible refine ie_app ?_); (first
            | ((refine' Ef_app0_rd rfl rfl rfl ?q1 ?q2 ?q3 ?q4 ?q5 ?q6 ?q7 ?_); (case q1 => exact app_of rfl); (case q2 => (first | exact at0 | exact at1 | exact at2 | exact at3 | exact at4 | exact at5 | exact at6)); (case q3 => assumption); (case q4 => (first | assumption | (intro u hu; rcases hu with _ | ⟨_, _ | ⟨_, _ | ⟨_, _ | ⟨_, hu⟩⟩⟩⟩ <;> first | rfl | (cases hu; done)))); (case q5 => omega); (case q6 => omega); (case q7 => exact List.not_mem_nil))
            | ((refine' Ef_appG_row rfl rfl rfl ?q1 ?q2 ?q3 ?q4 ?q5 ?q6 ?_); (case q1 => exact app_of rfl); (case q2 => (first | exact at0 | exact at1 | exact at2 | exact at3 | exact at4 | exact at5 | exact at6)); (case q3 => (repeat (first | exact .head _ | apply List.Mem.tail))); (case q4 => (first | assumption | (intro u hu; rcases hu with _ | ⟨_, _ | ⟨_, _ | ⟨_, _ | ⟨_, hu⟩⟩⟩⟩ <;> first | rfl | (cases hu; done)))); (case q5 => omega); (case q6 => omega))
            | ((refine' Ef_appG_rd rfl rfl rfl ?q1 ?q2 ?q3 ?q4 ?q5 ?q6 ?q7 ?_); (case q1 => exact app_of rfl); (case q2 => (first | exact at0 | exact at1 | exact at2 | exact at3 | exact at4 | exact at5 | exact at6)); (case q3 => assumption); (case q4 => (first | assumption | (intro u hu; rcases hu with _ | ⟨_, _ | ⟨_, _ | ⟨_, _ | ⟨_, hu⟩⟩⟩⟩ <;> first | rfl | (cases hu; done)))); (case q5 => omega); (case q6 => omega); (case q7 => exact List.not_mem_nil)))); (first | ((fail_if_success have := A1); intro A1 c1) | ((fail_if_success have := A2); intro A2 c2) | ((fail_if_success have := A3); intro A3 c3) | ((fail_if_success have := A4); intro A4 c4) | ((fail_if_success have := A5); intro A5 c5) | ((fail_if_success have := A6); intro A6 c6) | ((fail_if_success have := A7); intro A7 c7)))
            | refine Ef_y rfl rfl ?_)
        refine T.loop (α := Nat × List Int × Option Addr × Nat) (fun x => [(0, .slice A len cap), (1, .int .i64 n), (6, .slice x.2.2.1 x.2.1.length x.2.2.2), (8, .int .i64 (x.1 : Int))])
          (fun x => [.row 3 1 (.slice x.2.2.1 x.2.1.length x.2.2.2) x.2.1.length (x.2.1.flatMap (eI .i64)), .row 3 1 (.slice none 0 0) 0 []])
          (fun x => x.1 ≤ len ∧ x.2.1.length ≤ i + 1 + x.1 ∧ x.2.1 = a.take i ++ [n] ++ (a.take x.1).filter (n < ·)) (fun x => len - x.1) (0, a.take i ++ [n], A1, c1) ?_ ?_ ?_ ?_
        · dsimp only
          rw [← lenI_snoc, hti]
          (repeat (first | exact Sub.nil | refine Sub.cons rfl ?_))
        · dsimp only
          rw [← lenI_snoc, hti, ← eI_snoc]
          (repeat (first | exact List.nil_sublist _ | refine List.Sublist.cons_cons _ ?_ | refine List.Sublist.cons _ ?_))
        · exact ⟨Nat.zero_le _, by simp; omega, by simp⟩
        · rintro ⟨j, out, C2, c2⟩ ⟨hj, hol, hout⟩
          dsimp only at hj hol hout ⊢
          by_cases hjl : j < len
          · obtain ⟨x, hx⟩ := some_of_lt (l := a) (i := j) (by omega)
            have f0 : (a.flatMap (eI .i64))[j * 1 + 0]? = some (.int .i64 x) := enc_at (eI_len .i64) hx (by omega)
            by_cases hxn : n < x
            · have s1 : out ++ [x] = a.take i ++ [n] ++ (a.take (j + 1)).filter (n < ·) := by rw [take_snoc hx, List.filter_append, hout]; simp [hxn]
              repeat' (first
                  | with_reducible refine T.seq ?_
                  | with_reducible refine T.block ?_
                  | with_reducible refine T.region ?_
                  | with_reducible refine T.skip ?_
                  | with_reducible refine T.scope ?_
                  | with_reducible refine T.label ?_
                  | with_reducible refine scopeQ_n ?_
                  | with_reducible refine scopeQ_r ?_
                  | with_reducible refine scopeQ_x ?_
                  | with_reducible refine T.ret ?_
                  | with_reducible refine T.exit ?_
                  | with_reducible refine seqQ_n ?_
                  | with_reducible refine seqQ_x ?_
                  | with_reducible refine seqQ_r ?_
                  | with_reducible refine blockQ_n ?_
                  | with_reducible refine blockQ_r ?_
                  | with_reducible refine blockQ_x ?_
                  | ((with_reducible refine g_blkx ?_); refine blockQ_y rfl ?_)
                  | with_reducible refine loopQ_x ?_
                  | with_reducible refine loopQ_r ?_
                  | with_reducible refine joinQ_r ?_
                  | with_reducible refine joinQ_x ?_
                  | ((with_reducible refine g_cond ?_); (first | refine T.cond_t rfl ?_ | refine T.cond_f rfl ?_ | (refine T.cond_s rfl ?_ ?_ <;> intro hc)))
                  | with_reducible refine TL_nil ?_
                  | with_reducible refine TS_nil ?_
                  | ((with_reducible refine TL_y' ?hy ?hd ?_); (case hy => rfl); (case hd => rfl))
                  | with_reducible refine TL_e ?_
                  | ((with_reducible refine g_TL ?_); (first | refine TL_gy' rfl rfl rfl rfl ?_ | refine TL_gn rfl rfl rfl ?_ | refine TL_gu rfl rfl rfl ?_ | refine TL_ge rfl rfl ?_ | refine TL_gn0 rfl rfl ?_))
                  | ((with_reducible refine g_TS ?_); (first | refine TS_y rfl rfl ?_ | refine TS_e rfl ?_ | refine TS_gy rfl rfl rfl rfl ?_ | refine TS_gn rfl rfl rfl rfl ?_ | refine TS_gu rfl rfl rfl rfl ?_ | refine TS_ge rfl rfl rfl ?_ | refine TS_gne rfl rfl rfl rfl ?_ | refine TS_gue rfl rfl rfl rfl ?_ | refine TS_gne0 rfl rfl rfl ?_))
                  | ((with_reducible refine TSand ?hd ?_); (case hd => (repeat (first | exact List.nil_sublist _ | refine List.Sublist.cons_cons _ ?_ | refine List.Sublist.cons _ ?_))))
                  | ((with_reducible refine TBand ?hd ?_); (case hd => (repeat (first | exact List.nil_sublist _ | refine List.Sublist.cons_cons _ ?_ | refine List.Sublist.cons _ ?_))))
                  | ((with_reducible refine g_TB ?_); (first | with_reducible refine TB_run ?_ | refine TB_y rfl rfl ?_ | refine TB_b rfl rfl ?_ ?_ | refine TB_e rfl ?_))
                  | ((with_reducible refine is_move ?_); refine ⟨_, Yl_move rfl, ?_⟩)
                  | ((with_reducible refine is_assign ?_); refine ⟨_, Yl_assign rfl, ?_⟩)
                  | ((with_reducible refine is_pick ?_); (first | refine ⟨_, Yl_pick_t rfl rfl, ?_⟩ | refine ⟨_, Yl_pick_f rfl rfl, ?_⟩))
                  | ((with_reducible refine is_load ?_); (first
                  | ((refine' ⟨_, Yl_load_blk rfl ?q1 ?q2 ?q3, ?_⟩); (case q1 => exact one_of rfl); (case q2 => (repeat (first | exact .head _ | apply List.Mem.tail))); (case q3 => rfl))
                  | ((refine' ⟨_, Yl_loadA_blk rfl ?q1 ?q2, ?_⟩); (case q1 => (repeat (first | exact .head _ | apply List.Mem.tail))); (case q2 => exact agg_of rfl))
                  | ((refine' ⟨_, Yl_load_blk rfl ?q1 ?q2 ?q3, ?_⟩); (case q1 => exact one_of rfl); (case q2 => (repeat (first | exact .head _ | apply List.Mem.tail))); (case q3 => assumption))
                  | ((refine' ⟨_, Yl_load_rd rfl ?q1 ?q2 List.not_mem_nil ?q3, ?_⟩); (case q1 => exact one_of rfl); (case q2 => assumption); (case q3 => assumption))
                  | ((refine' ⟨_, Yl_load_row rfl ?q1 ?q2 ?q3, ?_⟩); (case q1 => exact one_of rfl); (case q2 => (repeat (first | exact .head _ | apply List.Mem.tail))); (case q3 => assumption))
                  | ((refine' ⟨_, Yl_loadA_rd rfl ?qa ?qb List.not_mem_nil ?ql ?qc, ?_⟩); (case qa => exact agg_of rfl); (case qb => assumption); (case qc => assumption); (case ql => rfl))
                  | ((refine' ⟨_, Yl_loadA_row rfl ?qa ?qb ?ql ?qc, ?_⟩); (case qa => exact agg_of rfl); (case qb => (repeat (first | exact .head _ | apply List.Mem.tail))); (case qc => assumption); (case ql => rfl))))
                  | ((with_reducible refine is_idx ?_); (first
                  | ((refine' ⟨_, Yl_index rfl rfl ?q1 ?q2 ?q3 (Rd.some_ ?q4 ?q5), ?_⟩); (case q1 => exact und_of rfl); (case q2 => exact siz_of rfl); (case q3 => omega); (case q4 => assumption); (case q5 => omega))
                  | ((refine' ⟨_, Yl_index_row rfl rfl ?q1 ?q2 ?q3 ?q4, ?_⟩); (case q1 => exact und_of rfl); (case q2 => exact siz_of rfl); (case q3 => omega); (case q4 => (repeat (first | exact .head _ | apply List.Mem.tail))))
                  | ((refine' ⟨_, Yl_index rfl rfl ?q1 ?q2 ?q3 rfl, ?_⟩); (case q1 => exact und_of rfl); (case q2 => exact siz_of rfl); (case q3 => omega))
                  | ((refine' ⟨_, Yl_index (j := 0) rfl rfl ?q1 ?q2 ?q3 (Rd.some_ ?q4 ?q5), ?_⟩); (case q1 => exact und_of rfl); (case q2 => exact siz_of rfl); (case q3 => omega); (case q4 => assumption); (case q5 => omega))
                  | ((refine' ⟨_, Yl_index_row (j := 0) rfl rfl ?q1 ?q2 ?q3 ?q4, ?_⟩); (case q1 => exact und_of rfl); (case q2 => exact siz_of rfl); (case q3 => omega); (case q4 => (repeat (first | exact .head _ | apply List.Mem.tail))))
                  | ((refine' ⟨_, Yl_indexI rfl rfl ?q1 ?q2 ?q3 ?q4 (Rd.some_ ?q5 ?q6), ?_⟩); (case q1 => exact und_of rfl); (case q2 => exact siz_of rfl); (case q3 => omega); (case q4 => omega); (case q5 => assumption); (case q6 => omega))))
                  | ((with_reducible refine is_un ?_); refine ⟨_, Yl_not rfl, ?_⟩)
                  | ((with_reducible refine is_len ?_); (first | ((refine' ⟨_, Yl_len_slice rfl ?q1, ?_⟩); (case q1 => exact und_of rfl)) | ((refine' ⟨_, Yl_len_string rfl ?q1, ?_⟩); (case q1 => exact und_of rfl))))
                  | ((with_reducible refine is_b_lss ?_); (first | ((refine' ⟨_, Yl_lss_t rfl rfl ?q1, ?_⟩); (case q1 => omega)) | ((refine' ⟨_, Yl_lss_f rfl rfl ?q1, ?_⟩); (case q1 => omega)) | (refine sp_lss rfl rfl ?_ ?_ <;> intro hc)))
                  | ((with_reducible refine is_b_gtr ?_); (first | ((refine' ⟨_, Yl_gtr_t rfl rfl ?q1, ?_⟩); (case q1 => omega)) | ((refine' ⟨_, Yl_gtr_f rfl rfl ?q1, ?_⟩); (case q1 => omega)) | (refine sp_gtr rfl rfl ?_ ?_ <;> intro hc)))
                  | ((with_reducible refine is_b_add ?_); (first | ((refine' ⟨_, Yl_add rfl rfl ?q1 ?q2, ?_⟩); (case q1 => omega); (case q2 => omega)) | ((refine' ⟨_, Yl_add8 rfl rfl ?q1 ?q2, ?_⟩); (case q1 => omega); (case q2 => omega))))
                  | ((with_reducible refine is_slice ?_); (first | ((refine' ⟨_, Yl_sl_l rfl rfl ?q1 ?q2 ?q3, ?_⟩); (case q1 => exact und_of rfl); (case q2 => exact siz_of rfl); (case q3 => omega)) | ((refine' ⟨_, Yl_sl_h rfl rfl ?q1 ?q2 ?q3, ?_⟩); (case q1 => exact und_of rfl); (case q2 => exact siz_of rfl); (case q3 => omega)) | ((refine' ⟨_, Yl_sl_lh rfl rfl rfl ?q1 ?q2 ?q3 ?q4, ?_⟩); (case q1 => exact und_of rfl); (case q2 => exact siz_of rfl); (case q3 => omega); (case q4 => omega)) | ((refine' ⟨_, Yl_sl_hm rfl rfl rfl ?q1 ?q2 ?q3 ?q4, ?_⟩); (case q1 => exact und_of rfl); (case q2 => exact siz_of rfl); (case q3 => omega); (case q4 => omega))))
                  | ((with_reducible refine ie_callf ?_); (first | ((with_reducible refine g_call 13 ?_); (first | refine Ef_callP rfl rfl ent_13 (fun w hp => hma w (hp.rd hra fun _ => List.not_mem_nil)) ?_)) | ((with_reducible refine g_call 23 ?_); (first | refine Ef_callP rfl rfl ent_23 (fun w _ => rserial_v n true w hsx) ?_ | refine Ef_callP rfl rfl ent_23 (fun w _ => rserial_v n false w hsx) ?_))))
                  | ((first   | ((with_reducible refine ie_bsl ?_); (first | ((refine' Ef_bsl0 rfl ?q1 ?_); (case q1 => exact app_of rfl)) | ((refine' Ef_bslA rfl rfl ?q1 ?q2 ?q3 ?_); (case q1 => exact app_of rfl); (case q2 => rfl); (case q3 => decide)) | ((refine' Ef_bsl1 rfl rfl rfl ?q1 ?_); (case q1 => exact app_of rfl))))); (first | ((fail_if_success have := b1); intro b1) | ((fail_if_success have := b2); intro b2) | ((fail_if_success have := b3); intro b3) | ((fail_if_success have := b4); intro b4) | ((fail_if_success have := b5); intro b5) | ((fail_if_success have := b6); intro b6) | ((fail_if_success have := b7); intro b7) | ((fail_if_success have := b8); intro b8) | ((fail_if_success have := b9); intro b9) | ((fail_if_success have := b10); intro b10) | ((fail_if_success have := b11); intro b11) | ((fail_if_success have := b12); intro b12)))
                  | (((with_reducible refine ie_app ?_); (first
                  | ((refine' Ef_app0_rd rfl rfl rfl ?q1 ?q2 ?q3 ?q4 ?q5 ?q6 ?q7 ?_); (case q1 => exact app_of rfl); (case q2 => (first | exact at0 | exact at1 | exact at2 | exact at3 | exact at4 | exact at5 | exact at6)); (case q3 => assumption); (case q4 => (first | assumption | (intro u hu; rcases hu with _ | ⟨_, _ | ⟨_, _ | ⟨_, _ | ⟨_, hu⟩⟩⟩⟩ <;> first | rfl | (cases hu; done)))); (case q5 => omega); (case q6 => omega); (case q7 => exact List.not_mem_nil))
                  | ((refine' Ef_appG_row rfl rfl rfl ?q1 ?q2 ?q3 ?q4 ?q5 ?q6 ?_); (case q1 => exact app_of rfl); (case q2 => (first | exact at0 | exact at1 | exact at2 | exact at3 | exact at4 | exact at5 | exact at6)); (case q3 => (repeat (first | exact .head _ | apply List.Mem.tail))); (case q4 => (first | assumption | (intro u hu; rcases hu with _ | ⟨_, _ | ⟨_, _ | ⟨_, _ | ⟨_, hu⟩⟩⟩⟩ <;> first | rfl | (cases hu; done)))); (case q5 => omega); (case q6 => omega))
                  | ((refine' Ef_appG_rd rfl rfl rfl ?q1 ?q2 ?q3 ?q4 ?q5 ?q6 ?q7 ?_); (case q1 => exact app_of rfl); (case q2 => (first | exact at0 | exact at1 | exact at2 | exact at3 | exact at4 | exact at5 | exact at6)); (case q3 => assumption); (case q4 => (first | assumption | (intro u hu; rcases hu with _ | ⟨_, _ | ⟨_, _ | ⟨_, _ | ⟨_, hu⟩⟩⟩⟩ <;> first | rfl | (cases hu; done)))); (case q5 => omega); (case q6 => omega); (case q7 => exact List.not_mem_nil)))); (first | ((fail_if_success have := A1); intro A1 c1) | ((fail_if_success have := A2); intro A2 c2) | ((fail_if_success have := A3); intro A3 c3) | ((fail_if_success have := A4); intro A4 c4) | ((fail_if_success have := A5); intro A5 c5) | ((fail_if_success have := A6); intro A6 c6) | ((fail_if_success have := A7); intro A7 c7)))
                  | refine Ef_y rfl rfl ?_)
              refine loopQ_n (j + 1, out ++ [x], A2, c2) ?_ ?_ ⟨by (first | omega | (dsimp only; omega) | (simp; omega)), by simp; omega, s1⟩ (by (first | omega | (dsimp only; omega) | (simp; omega)))
              · dsimp only
                rw [← lenI_snoc]
                (repeat (first | exact Sub.nil | refine Sub.cons rfl ?_))
              · dsimp only
                rw [← lenI_snoc, ← eI_snoc]
                (repeat (first | exact List.nil_sublist _ | refine List.Sublist.cons_cons _ ?_ | refine List.Sublist.cons _ ?_))
            · have s1 : out = a.take i ++ [n] ++ (a.take (j + 1)).filter (n < ·) := by rw [take_snoc hx, List.filter_append, hout]; simp [hxn]
              repeat' (first
                  | with_reducible refine T.seq ?_
                  | with_reducible refine T.block ?_
                  | with_reducible refine T.region ?_
                  | with_reducible refine T.skip ?_
                  | with_reducible refine T.scope ?_
                  | with_reducible refine T.label ?_
                  | with_reducible refine scopeQ_n ?_
                  | with_reducible refine scopeQ_r ?_
                  | with_reducible refine scopeQ_x ?_
                  | with_reducible refine T.ret ?_
                  | with_reducible refine T.exit ?_
                  | with_reducible refine seqQ_n ?_
                  | with_reducible refine seqQ_x ?_
                  | with_reducible refine seqQ_r ?_
                  | with_reducible refine blockQ_n ?_
                  | with_reducible refine blockQ_r ?_
                  | with_reducible refine blockQ_x ?_
                  | ((with_reducible refine g_blkx ?_); refine blockQ_y rfl ?_)
                  | with_reducible refine loopQ_x ?_
                  | with_reducible refine loopQ_r ?_
                  | with_reducible refine joinQ_r ?_
                  | with_reducible refine joinQ_x ?_
                  | ((with_reducible refine g_cond ?_); (first | refine T.cond_t rfl ?_ | refine T.cond_f rfl ?_ | (refine T.cond_s rfl ?_ ?_ <;> intro hc)))
                  | with_reducible refine TL_nil ?_
                  | with_reducible refine TS_nil ?_
                  | ((with_reducible refine TL_y' ?hy ?hd ?_); (case hy => rfl); (case hd => rfl))
                  | with_reducible refine TL_e ?_
                  | ((with_reducible refine g_TL ?_); (first | refine TL_gy' rfl rfl rfl rfl ?_ | refine TL_gn rfl rfl rfl ?_ | refine TL_gu rfl rfl rfl ?_ | refine TL_ge rfl rfl ?_ | refine TL_gn0 rfl rfl ?_))
                  | ((with_reducible refine g_TS ?_); (first | refine TS_y rfl rfl ?_ | refine TS_e rfl ?_ | refine TS_gy rfl rfl rfl rfl ?_ | refine TS_gn rfl rfl rfl rfl ?_ | refine TS_gu rfl rfl rfl rfl ?_ | refine TS_ge rfl rfl rfl ?_ | refine TS_gne rfl rfl rfl rfl ?_ | refine TS_gue rfl rfl rfl rfl ?_ | refine TS_gne0 rfl rfl rfl ?_))
                  | ((with_reducible refine TSand ?hd ?_); (case hd => (repeat (first | exact List.nil_sublist _ | refine List.Sublist.cons_cons _ ?_ | refine List.Sublist.cons _ ?_))))
                  | ((with_reducible refine TBand ?hd ?_); (case hd => (repeat (first | exact List.nil_sublist _ | refine List.Sublist.cons_cons _ ?_ | refine List.Sublist.cons _ ?_))))
                  | ((with_reducible refine g_TB ?_); (first | with_reducible refine TB_run ?_ | refine TB_y rfl rfl ?_ | refine TB_b rfl rfl ?_ ?_ | refine TB_e rfl ?_))
                  | ((with_reducible refine is_move ?_); refine ⟨_, Yl_move rfl, ?_⟩)
                  | ((with_reducible refine is_assign ?_); refine ⟨_, Yl_assign rfl, ?_⟩)
                  | ((with_reducible refine is_pick ?_); (first | refine ⟨_, Yl_pick_t rfl rfl, ?_⟩ | refine ⟨_, Yl_pick_f rfl rfl, ?_⟩))
                  | ((with_reducible refine is_load ?_); (first
                  | ((refine' ⟨_, Yl_load_blk rfl ?q1 ?q2 ?q3, ?_⟩); (case q1 => exact one_of rfl); (case q2 => (repeat (first | exact .head _ | apply List.Mem.tail))); (case q3 => rfl))
                  | ((refine' ⟨_, Yl_loadA_blk rfl ?q1 ?q2, ?_⟩); (case q1 => (repeat (first | exact .head _ | apply List.Mem.tail))); (case q2 => exact agg_of rfl))
                  | ((refine' ⟨_, Yl_load_blk rfl ?q1 ?q2 ?q3, ?_⟩); (case q1 => exact one_of rfl); (case q2 => (repeat (first | exact .head _ | apply List.Mem.tail))); (case q3 => assumption))
                  | ((refine' ⟨_, Yl_load_rd rfl ?q1 ?q2 List.not_mem_nil ?q3, ?_⟩); (case q1 => exact one_of rfl); (case q2 => assumption); (case q3 => assumption))
                  | ((refine' ⟨_, Yl_load_row rfl ?q1 ?q2 ?q3, ?_⟩); (case q1 => exact one_of rfl); (case q2 => (repeat (first | exact .head _ | apply List.Mem.tail))); (case q3 => assumption))
                  | ((refine' ⟨_, Yl_loadA_rd rfl ?qa ?qb List.not_mem_nil ?ql ?qc, ?_⟩); (case qa => exact agg_of rfl); (case qb => assumption); (case qc => assumption); (case ql => rfl))
                  | ((refine' ⟨_, Yl_loadA_row rfl ?qa ?qb ?ql ?qc, ?_⟩); (case qa => exact agg_of rfl); (case qb => (repeat (first | exact .head _ | apply List.Mem.tail))); (case qc => assumption); (case ql => rfl))))
                  | ((with_reducible refine is_idx ?_); (first
                  | ((refine' ⟨_, Yl_index rfl rfl ?q1 ?q2 ?q3 (Rd.some_ ?q4 ?q5), ?_⟩); (case q1 => exact und_of rfl); (case q2 => exact siz_of rfl); (case q3 => omega); (case q4 => assumption); (case q5 => omega))
                  | ((refine' ⟨_, Yl_index_row rfl rfl ?q1 ?q2 ?q3 ?q4, ?_⟩); (case q1 => exact und_of rfl); (case q2 => exact siz_of rfl); (case q3 => omega); (case q4 => (repeat (first | exact .head _ | apply List.Mem.tail))))
                  | ((refine' ⟨_, Yl_index rfl rfl ?q1 ?q2 ?q3 rfl, ?_⟩); (case q1 => exact und_of rfl); (case q2 => exact siz_of rfl); (case q3 => omega))
                  | ((refine' ⟨_, Yl_index (j := 0) rfl rfl ?q1 ?q2 ?q3 (Rd.some_ ?q4 ?q5), ?_⟩); (case q1 => exact und_of rfl); (case q2 => exact siz_of rfl); (case q3 => omega); (case q4 => assumption); (case q5 => omega))
                  | ((refine' ⟨_, Yl_index_row (j := 0) rfl rfl ?q1 ?q2 ?q3 ?q4, ?_⟩); (case q1 => exact und_of rfl); (case q2 => exact siz_of rfl); (case q3 => omega); (case q4 => (repeat (first | exact .head _ | apply List.Mem.tail))))
                  | ((refine' ⟨_, Yl_indexI rfl rfl ?q1 ?q2 ?q3 ?q4 (Rd.some_ ?q5 ?q6), ?_⟩); (case q1 => exact und_of rfl); (case q2 => exact siz_of rfl); (case q3 => omega); (case q4 => omega); (case q5 => assumption); (case q6 => omega))))
                  | ((with_reducible refine is_un ?_); refine ⟨_, Yl_not rfl, ?_⟩)
                  | ((with_reducible refine is_len ?_); (first | ((refine' ⟨_, Yl_len_slice rfl ?q1, ?_⟩); (case q1 => exact und_of rfl)) | ((refine' ⟨_, Yl_len_string rfl ?q1, ?_⟩); (case q1 => exact und_of rfl))))
                  | ((with_reducible refine is_b_lss ?_); (first | ((refine' ⟨_, Yl_lss_t rfl rfl ?q1, ?_⟩); (case q1 => omega)) | ((refine' ⟨_, Yl_lss_f rfl rfl ?q1, ?_⟩); (case q1 => omega)) | (refine sp_lss rfl rfl ?_ ?_ <;> intro hc)))
                  | ((with_reducible refine is_b_gtr ?_); (first | ((refine' ⟨_, Yl_gtr_t rfl rfl ?q1, ?_⟩); (case q1 => omega)) | ((refine' ⟨_, Yl_gtr_f rfl rfl ?q1, ?_⟩); (case q1 => omega)) | (refine sp_gtr rfl rfl ?_ ?_ <;> intro hc)))
                  | ((with_reducible refine is_b_add ?_); (first | ((refine' ⟨_, Yl_add rfl rfl ?q1 ?q2, ?_⟩); (case q1 => omega); (case q2 => omega)) | ((refine' ⟨_, Yl_add8 rfl rfl ?q1 ?q2, ?_⟩); (case q1 => omega); (case q2 => omega))))
                  | ((with_reducible refine is_slice ?_); (first | ((refine' ⟨_, Yl_sl_l rfl rfl ?q1 ?q2 ?q3, ?_⟩); (case q1 => exact und_of rfl); (case q2 => exact siz_of rfl); (case q3 => omega)) | ((refine' ⟨_, Yl_sl_h rfl rfl ?q1 ?q2 ?q3, ?_⟩); (case q1 => exact und_of rfl); (case q2 => exact siz_of rfl); (case q3 => omega)) | ((refine' ⟨_, Yl_sl_lh rfl rfl rfl ?q1 ?q2 ?q3 ?q4, ?_⟩); (case q1 => exact und_of rfl); (case q2 => exact siz_of rfl); (case q3 => omega); (case q4 => omega)) | ((refine' ⟨_, Yl_sl_hm rfl rfl rfl ?q1 ?q2 ?q3 ?q4, ?_⟩); (case q1 => exact und_of rfl); (case q2 => exact siz_of rfl); (case q3 => omega); (case q4 => omega))))
                  | ((with_reducible refine ie_callf ?_); (first | ((with_reducible refine g_call 13 ?_); (first | refine Ef_callP rfl rfl ent_13 (fun w hp => hma w (hp.rd hra fun _ => List.not_mem_nil)) ?_)) | ((with_reducible refine g_call 23 ?_); (first | refine Ef_callP rfl rfl ent_23 (fun w _ => rserial_v n true w hsx) ?_ | refine Ef_callP rfl rfl ent_23 (fun w _ => rserial_v n false w hsx) ?_))))
                  | ((first   | ((with_reducible refine ie_bsl ?_); (first | ((refine' Ef_bsl0 rfl ?q1 ?_); (case q1 => exact app_of rfl)) | ((refine' Ef_bslA rfl rfl ?q1 ?q2 ?q3 ?_); (case q1 => exact app_of rfl); (case q2 => rfl); (case q3 => decide)) | ((refine' Ef_bsl1 rfl rfl rfl ?q1 ?_); (case q1 => exact app_of rfl))))); (first | ((fail_if_success have := b1); intro b1) | ((fail_if_success have := b2); intro b2) | ((fail_if_success have := b3); intro b3) | ((fail_if_success have := b4); intro b4) | ((fail_if_success have := b5); intro b5) | ((fail_if_success have := b6); intro b6) | ((fail_if_success have := b7); intro b7) | ((fail_if_success have := b8); intro b8) | ((fail_if_success have := b9); intro b9) | ((fail_if_success have := b10); intro b10) | ((fail_if_success have := b11); intro b11) | ((fail_if_success have := b12); intro b12)))
                  | (((with_reducible refine ie_app ?_); (first
                  | ((refine' Ef_app0_rd rfl rfl rfl ?q1 ?q2 ?q3 ?q4 ?q5 ?q6 ?q7 ?_); (case q1 => exact app_of rfl); (case q2 => (first | exact at0 | exact at1 | exact at2 | exact at3 | exact at4 | exact at5 | exact at6)); (case q3 => assumption); (case q4 => (first | assumption | (intro u hu; rcases hu with _ | ⟨_, _ | ⟨_, _ | ⟨_, _ | ⟨_, hu⟩⟩⟩⟩ <;> first | rfl | (cases hu; done)))); (case q5 => omega); (case q6 => omega); (case q7 => exact List.not_mem_nil))
                  | ((refine' Ef_appG_row rfl rfl rfl ?q1 ?q2 ?q3 ?q4 ?q5 ?q6 ?_); (case q1 => exact app_of rfl); (case q2 => (first | exact at0 | exact at1 | exact at2 | exact at3 | exact at4 | exact at5 | exact at6)); (case q3 => (repeat (first | exact .head _ | apply List.Mem.tail))); (case q4 => (first | assumption | (intro u hu; rcases hu with _ | ⟨_, _ | ⟨_, _ | ⟨_, _ | ⟨_, hu⟩⟩⟩⟩ <;> first | rfl | (cases hu; done)))); (case q5 => omega); (case q6 => omega))
                  | ((refine' Ef_appG_rd rfl rfl rfl ?q1 ?q2 ?q3 ?q4 ?q5 ?q6 ?q7 ?_); (case q1 => exact app_of rfl); (case q2 => (first | exact at0 | exact at1 | exact at2 | exact at3 | exact at4 | exact at5 | exact at6)); (case q3 => assumption); (case q4 => (first | assumption | (intro u hu; rcases hu with _ | ⟨_, _ | ⟨_, _ | ⟨_, _ | ⟨_, hu⟩⟩⟩⟩ <;> first | rfl | (cases hu; done)))); (case q5 => omega); (case q6 => omega); (case q7 => exact List.not_mem_nil)))); (first | ((fail_if_success have := A1); intro A1 c1) | ((fail_if_success have := A2); intro A2 c2) | ((fail_if_success have := A3); intro A3 c3) | ((fail_if_success have := A4); intro A4 c4) | ((fail_if_success have := A5); intro A5 c5) | ((fail_if_success have := A6); intro A6 c6) | ((fail_if_success have := A7); intro A7 c7)))
                  | refine Ef_y rfl rfl ?_)
              refine loopQ_n (j + 1, out, C2, c2) ?_ ?_ ⟨by (first | omega | (dsimp only; omega) | (simp; omega)), by (first | omega | (dsimp only; omega) | (simp; omega)), s1⟩ (by (first | omega | (dsimp only; omega) | (simp; omega)))
              · (repeat (first | exact Sub.nil | refine Sub.cons rfl ?_))
              · (repeat (first | exact List.nil_sublist _ | refine List.Sublist.cons_cons _ ?_ | refine List.Sublist.cons _ ?_))
          · rw [List.take_of_length_le (show a.length ≤ j by omega)] at hout
            have hr : Rv.radd a n = out := by unfold Rv.radd; rw [htw, hout]
            rw [e, hr]
            repeat' (first
                | with_reducible refine T.seq ?_
                | with_reducible refine T.block ?_
                | with_reducible refine T.region ?_
                | with_reducible refine T.skip ?_
                | with_reducible refine T.scope ?_
                | with_reducible refine T.label ?_
                | with_reducible refine scopeQ_n ?_
                | with_reducible refine scopeQ_r ?_
                | with_reducible refine scopeQ_x ?_
                | with_reducible refine T.ret ?_
                | with_reducible refine T.exit ?_
                | with_reducible refine seqQ_n ?_
                | with_reducible refine seqQ_x ?_
                | with_reducible refine seqQ_r ?_
                | with_reducible refine blockQ_n ?_
                | with_reducible refine blockQ_r ?_
                | with_reducible refine blockQ_x ?_
                | ((with_reducible refine g_blkx ?_); refine blockQ_y rfl ?_)
                | with_reducible refine loopQ_x ?_
                | with_reducible refine loopQ_r ?_
                | with_reducible refine joinQ_r ?_
                | with_reducible refine joinQ_x ?_
                | ((with_reducible refine g_cond ?_); (first | refine T.cond_t rfl ?_ | refine T.cond_f rfl ?_ | (refine T.cond_s rfl ?_ ?_ <;> intro hc)))
                | with_reducible refine TL_nil ?_
                | with_reducible refine TS_nil ?_
                | ((with_reducible refine TL_y' ?hy ?hd ?_); (case hy => rfl); (case hd => rfl))
                | with_reducible refine TL_e ?_
                | ((with_reducible refine g_TL ?_); (first | refine TL_gy' rfl rfl rfl rfl ?_ | refine TL_gn rfl rfl rfl ?_ | refine TL_gu rfl rfl rfl ?_ | refine TL_ge rfl rfl ?_ | refine TL_gn0 rfl rfl ?_))
                | ((with_reducible refine g_TS ?_); (first | refine TS_y rfl rfl ?_ | refine TS_e rfl ?_ | refine TS_gy rfl rfl rfl rfl ?_ | refine TS_gn rfl rfl rfl rfl ?_ | refine TS_gu rfl rfl rfl rfl ?_ | refine TS_ge rfl rfl rfl ?_ | refine TS_gne rfl rfl rfl rfl ?_ | refine TS_gue rfl rfl rfl rfl ?_ | refine TS_gne0 rfl rfl rfl ?_))
                | ((with_reducible refine TSand ?hd ?_); (case hd => (repeat (first | exact List.nil_sublist _ | refine List.Sublist.cons_cons _ ?_ | refine List.Sublist.cons _ ?_))))
                | ((with_reducible refine TBand ?hd ?_); (case hd => (repeat (first | exact List.nil_sublist _ | refine List.Sublist.cons_cons _ ?_ | refine List.Sublist.cons _ ?_))))
                | ((with_reducible refine g_TB ?_); (first | with_reducible refine TB_run ?_ | refine TB_y rfl rfl ?_ | refine TB_b rfl rfl ?_ ?_ | refine TB_e rfl ?_))
                | ((with_reducible refine is_move ?_); refine ⟨_, Yl_move rfl, ?_⟩)
                | ((with_reducible refine is_assign ?_); refine ⟨_, Yl_assign rfl, ?_⟩)
                | ((with_reducible refine is_pick ?_); (first | refine ⟨_, Yl_pick_t rfl rfl, ?_⟩ | refine ⟨_, Yl_pick_f rfl rfl, ?_⟩))
                | ((with_reducible refine is_load ?_); (first
                | ((refine' ⟨_, Yl_load_blk rfl ?q1 ?q2 ?q3, ?_⟩); (case q1 => exact one_of rfl); (case q2 => (repeat (first | exact .head _ | apply List.Mem.tail))); (case q3 => rfl))
                | ((refine' ⟨_, Yl_loadA_blk rfl ?q1 ?q2, ?_⟩); (case q1 => (repeat (first | exact .head _ | apply List.Mem.tail))); (case q2 => exact agg_of rfl))
                | ((refine' ⟨_, Yl_load_blk rfl ?q1 ?q2 ?q3, ?_⟩); (case q1 => exact one_of rfl); (case q2 => (repeat (first | exact .head _ | apply List.Mem.tail))); (case q3 => assumption))
                | ((refine' ⟨_, Yl_load_rd rfl ?q1 ?q2 List.not_mem_nil ?q3, ?_⟩); (case q1 => exact one_of rfl); (case q2 => assumption); (case q3 => assumption))
                | ((refine' ⟨_, Yl_load_row rfl ?q1 ?q2 ?q3, ?_⟩); (case q1 => exact one_of rfl); (case q2 => (repeat (first | exact .head _ | apply List.Mem.tail))); (case q3 => assumption))
                | ((refine' ⟨_, Yl_loadA_rd rfl ?qa ?qb List.not_mem_nil ?ql ?qc, ?_⟩); (case qa => exact agg_of rfl); (case qb => assumption); (case qc => assumption); (case ql => rfl))
                | ((refine' ⟨_, Yl_loadA_row rfl ?qa ?qb ?ql ?qc, ?_⟩); (case qa => exact agg_of rfl); (case qb => (repeat (first | exact .head _ | apply List.Mem.tail))); (case qc => assumption); (case ql => rfl))))
                | ((with_reducible refine is_idx ?_); (first
                | ((refine' ⟨_, Yl_index rfl rfl ?q1 ?q2 ?q3 (Rd.some_ ?q4 ?q5), ?_⟩); (case q1 => exact und_of rfl); (case q2 => exact siz_of rfl); (case q3 => omega); (case q4 => assumption); (case q5 => omega))
                | ((refine' ⟨_, Yl_index_row rfl rfl ?q1 ?q2 ?q3 ?q4, ?_⟩); (case q1 => exact und_of rfl); (case q2 => exact siz_of rfl); (case q3 => omega); (case q4 => (repeat (first | exact .head _ | apply List.Mem.tail))))
                | ((refine' ⟨_, Yl_index rfl rfl ?q1 ?q2 ?q3 rfl, ?_⟩); (case q1 => exact und_of rfl); (case q2 => exact siz_of rfl); (case q3 => omega))
                | ((refine' ⟨_, Yl_index (j := 0) rfl rfl ?q1 ?q2 ?q3 (Rd.some_ ?q4 ?q5), ?_⟩); (case q1 => exact und_of rfl); (case q2 => exact siz_of rfl); (case q3 => omega); (case q4 => assumption); (case q5 => omega))
                | ((refine' ⟨_, Yl_index_row (j := 0) rfl rfl ?q1 ?q2 ?q3 ?q4, ?_⟩); (case q1 => exact und_of rfl); (case q2 => exact siz_of rfl); (case q3 => omega); (case q4 => (repeat (first | exact .head _ | apply List.Mem.tail))))
                | ((refine' ⟨_, Yl_indexI rfl rfl ?q1 ?q2 ?q3 ?q4 (Rd.some_ ?q5 ?q6), ?_⟩); (case q1 => exact und_of rfl); (case q2 => exact siz_of rfl); (case q3 => omega); (case q4 => omega); (case q5 => assumption); (case q6 => omega))))
                | ((with_reducible refine is_un ?_); refine ⟨_, Yl_not rfl, ?_⟩)
                | ((with_reducible refine is_len ?_); (first | ((refine' ⟨_, Yl_len_slice rfl ?q1, ?_⟩); (case q1 => exact und_of rfl)) | ((refine' ⟨_, Yl_len_string rfl ?q1, ?_⟩); (case q1 => exact und_of rfl))))
                | ((with_reducible refine is_b_lss ?_); (first | ((refine' ⟨_, Yl_lss_t rfl rfl ?q1, ?_⟩); (case q1 => omega)) | ((refine' ⟨_, Yl_lss_f rfl rfl ?q1, ?_⟩); (case q1 => omega)) | (refine sp_lss rfl rfl ?_ ?_ <;> intro hc)))
                | ((with_reducible refine is_b_gtr ?_); (first | ((refine' ⟨_, Yl_gtr_t rfl rfl ?q1, ?_⟩); (case q1 => omega)) | ((refine' ⟨_, Yl_gtr_f rfl rfl ?q1, ?_⟩); (case q1 => omega)) | (refine sp_gtr rfl rfl ?_ ?_ <;> intro hc)))
                | ((with_reducible refine is_b_add ?_); (first | ((refine' ⟨_, Yl_add rfl rfl ?q1 ?q2, ?_⟩); (case q1 => omega); (case q2 => omega)) | ((refine' ⟨_, Yl_add8 rfl rfl ?q1 ?q2, ?_⟩); (case q1 => omega); (case q2 => omega))))
                | ((with_reducible refine is_slice ?_); (first | ((refine' ⟨_, Yl_sl_l rfl rfl ?q1 ?q2 ?q3, ?_⟩); (case q1 => exact und_of rfl); (case q2 => exact siz_of rfl); (case q3 => omega)) | ((refine' ⟨_, Yl_sl_h rfl rfl ?q1 ?q2 ?q3, ?_⟩); (case q1 => exact und_of rfl); (case q2 => exact siz_of rfl); (case q3 => omega)) | ((refine' ⟨_, Yl_sl_lh rfl rfl rfl ?q1 ?q2 ?q3 ?q4, ?_⟩); (case q1 => exact und_of rfl); (case q2 => exact siz_of rfl); (case q3 => omega); (case q4 => omega)) | ((refine' ⟨_, Yl_sl_hm rfl rfl rfl ?q1 ?q2 ?q3 ?q4, ?_⟩); (case q1 => exact und_of rfl); (case q2 => exact siz_of rfl); (case q3 => omega); (case q4 => omega))))
                | ((with_reducible refine ie_callf ?_); (first | ((with_reducible refine g_call 13 ?_); (first | refine Ef_callP rfl rfl ent_13 (fun w hp => hma w (hp.rd hra fun _ => List.not_mem_nil)) ?_)) | ((with_reducible refine g_call 23 ?_); (first | refine Ef_callP rfl rfl ent_23 (fun w _ => rserial_v n true w hsx) ?_ | refine Ef_callP rfl rfl ent_23 (fun w _ => rserial_v n false w hsx) ?_))))
                | ((first   | ((with_reducible refine ie_bsl ?_); (first | ((refine' Ef_bsl0 rfl ?q1 ?_); (case q1 => exact app_of rfl)) | ((refine' Ef_bslA rfl rfl ?q1 ?q2 ?q3 ?_); (case q1 => exact app_of rfl); (case q2 => rfl); (case q3 => decide)) | ((refine' Ef_bsl1 rfl rfl rfl ?q1 ?_); (case q1 => exact app_of rfl))))); (first | ((fail_if_success have := b1); intro b1) | ((fail_if_success have := b2); intro b2) | ((fail_if_success have := b3); intro b3) | ((fail_if_success have := b4); intro b4) | ((fail_if_success have := b5); intro b5) | ((fail_if_success have := b6); intro b6) | ((fail_if_success have := b7); intro b7) | ((fail_if_success have := b8); intro b8) | ((fail_if_success have := b9); intro b9) | ((fail_if_success have := b10); intro b10) | ((fail_if_success have := b11); intro b11) | ((fail_if_success have := b12); intro b12)))
                | (((with_reducible refine ie_app ?_); (first
                | ((refine' Ef_app0_rd rfl rfl rfl ?q1 ?q2 ?q3 ?q4 ?q5 ?q6 ?q7 ?_); (case q1 => exact app_of rfl); (case q2 => (first | exact at0 | exact at1 | exact at2 | exact at3 | exact at4 | exact at5 | exact at6)); (case q3 => assumption); (case q4 => (first | assumption | (intro u hu; rcases hu with _ | ⟨_, _ | ⟨_, _ | ⟨_, _ | ⟨_, hu⟩⟩⟩⟩ <;> first | rfl | (cases hu; done)))); (case q5 => omega); (case q6 => omega); (case q7 => exact List.not_mem_nil))
                | ((refine' Ef_appG_row rfl rfl rfl ?q1 ?q2 ?q3 ?q4 ?q5 ?q6 ?_); (case q1 => exact app_of rfl); (case q2 => (first | exact at0 | exact at1 | exact at2 | exact at3 | exact at4 | exact at5 | exact at6)); (case q3 => (repeat (first | exact .head _ | apply List.Mem.tail))); (case q4 => (first | assumption | (intro u hu; rcases hu with _ | ⟨_, _ | ⟨_, _ | ⟨_, _ | ⟨_, hu⟩⟩⟩⟩ <;> first | rfl | (cases hu; done)))); (case q5 => omega); (case q6 => omega))
                | ((refine' Ef_appG_rd rfl rfl rfl ?q1 ?q2 ?q3 ?q4 ?q5 ?q6 ?q7 ?_); (case q1 => exact app_of rfl); (case q2 => (first | exact at0 | exact at1 | exact at2 | exact at3 | exact at4 | exact at5 | exact at6)); (case q3 => assumption); (case q4 => (first | assumption | (intro u hu; rcases hu with _ | ⟨_, _ | ⟨_, _ | ⟨_, _ | ⟨_, hu⟩⟩⟩⟩ <;> first | rfl | (cases hu; done)))); (case q5 => omega); (case q6 => omega); (case q7 => exact List.not_mem_nil)))); (first | ((fail_if_success have := A1); intro A1 c1) | ((fail_if_success have := A2); intro A2 c2) | ((fail_if_success have := A3); intro A3 c3) | ((fail_if_success have := A4); intro A4 c4) | ((fail_if_success have := A5); intro A5 c5) | ((fail_if_success have := A6); intro A6 c6) | ((fail_if_success have := A7); intro A7 c7)))
                | refine Ef_y rfl rfl ?_)
            · rw [if_pos (by omega)]
              exact ret_n [rO [] (none, 0)] (res2 rfl rfl rfl) (by (repeat (first | exact List.nil_sublist _ | refine List.Sublist.cons_cons _ ?_ | refine List.Sublist.cons _ ?_))) ⟨(none, 0), rfl, rfl⟩
            · rw [if_neg (by omega)]
              exact ret_n [rO out (C2, c2)] (res2 rfl rfl rfl) (by (repeat (first | exact List.nil_sublist _ | refine List.Sublist.cons_cons _ ?_ | refine List.Sublist.cons _ ?_))) ⟨(C2, c2), rfl, rfl⟩
end
end Go.Proofs.Ytmiimnlboighmaa
