/- The functions that put a share into a pool: what a call of each comes to. -/
import Derived.Test.YtjcgahlpfnclkaaT4
namespace Go.Proofs.Ytjcgahlpfnclkaa
open Go.RowKit
set_option maxRecDepth 20000

/-- Rows of the document's shares. -/
def rR (l : List S) (z : Option Addr × Nat) : Asrt := .row 38 3 (.slice z.1 l.length z.2) l.length (l.flatMap sE)
theorem sE_snoc (l : List S) (x : S) : (l ++ [x]).flatMap sE = l.flatMap sE ++ sE x := by simp
theorem len_snoc (l : List S) (x : S) : (l ++ [x]).length = l.length + 1 := by simp
theorem Qt.rput_at (l : List S) (x : S) (t : Nat) (h : 1 ≤ t) : Qt.rput l x t = Qt.rput l x (t - 1) ++ (if (t : Int) = x.1 then [x] else (Qt.of l (t : Int)).toList) := by
  obtain ⟨m, rfl⟩ : ∃ m, t = m + 1 := ⟨t - 1, by omega⟩
  rfl

section
variable (A : Option Addr) (len cap : Nat) (l : List S) (x : S) (w : World) (hr : Rd w A len 3 (l.flatMap sE)) (hl : l.length = len)
include hr hl
set_option maxHeartbeats 2000000 in
theorem put_c (hs : Qt.Shares l) (hx : Qt.share x = true) : Sp Try.prog 26 [.slice A len cap, .agg (sE x).toArray] w [] fun v N => ∃ z : Option Addr × Nat, v = .tuple #[.slice z.1 (Qt.putA l x).1.length z.2, .int .i64 (Qt.putA l x).2] ∧ N = [rS (Qt.putA l x).1 z] := by
  have h8 := hs.len
  have h64 : len ≤ 64 := by omega
  have h64l : l.length ≤ 64 := by omega
  have hdl : (Qt.del l x.1).length ≤ 8 := Nat.le_trans (List.length_filter_le _ _) h8
  have hput : Qt.put l x = insS (Qt.del l x.1) (Qt.pos (Qt.del l x.1) x.1) x := rfl
  have hps := Qt.shares_put hs hx
  have hpl := hps.len
  obtain ⟨q, hq⟩ : ∃ q, Qt.fits (Qt.put l x) = q := ⟨_, rfl⟩
  have hfi := fun A2 c2 w h => fits_v A2 (Qt.put l x).length c2 (Qt.put l x) q w h rfl hps.ok (by omega) hq
  have hpos := Qt.pos_idx (Qt.del l x.1) x.1
  have hple := Qt.pos_le (Qt.del l x.1) x.1
  have hix0 := fun A1 c1 (w1 : World) b (hb : w1.heap[b]? = some (.cells (sE x).toArray 27 (0, 0))) hr1 => indexf_c 34 #[.pointer (some ⟨b, 0, none⟩)] (fun y => decide (x.1 < y.1)) A1 (Qt.del l x.1).length c1 (Qt.del l x.1) ent_34 w1 (fun w' hp' y _ => put2_c b x y w' (hp'.blk_old hb List.not_mem_nil)) hr1 rfl (by omega)
  have hins : ∀ A1 c1 B cv w R, Hp w R [.row 27 3 (.slice B 1 cv) 1 (sE x), rS (Qt.del l x.1) (A1, c1)] w → Sp Try.prog 35 [.slice A1 (Qt.del l x.1).length c1, .int .i64 ((Qt.pos (Qt.del l x.1) x.1 : Nat) : Int), .slice B 1 cv] w R fun v N => ∃ z : Option Addr × Nat, True ∧ v = .slice z.1 (Qt.put l x).length z.2 ∧ N = [rS (Qt.put l x) z] := fun A1 c1 B cv w R hp =>
    (ins_c A1 c1 (Qt.del l x.1) B cv x (Qt.pos (Qt.del l x.1) x.1) w R hple (by omega) hp).mono fun v N ⟨z, h1, h2⟩ => ⟨z, trivial, h1, h2⟩
  have e : Qt.putA l x = if q = true then (Qt.put l x, 0) else ([], 120) := by unfold Qt.putA; rw [hq]
  rw [e]
  have hix : ∃ i : Int, (i < 0 ∧ ((Qt.pos (Qt.del l x.1) x.1 : Nat) : Int) = ((Qt.del l x.1).length : Int) ∨ ¬ i < 0 ∧ i = ((Qt.pos (Qt.del l x.1) x.1 : Nat) : Int)) ∧ ∀ A1 c1 (w1 : World) b, w1.heap[b]? = some (.cells (sE x).toArray 27 (0, 0)) → Rd w1 A1 (Qt.del l x.1).length 3 ((Qt.del l x.1).flatMap sE) → Sp Try.prog 29 [.slice A1 (Qt.del l x.1).length c1, .func (.func 34) #[] #[.pointer (some ⟨b, 0, none⟩)]] w1 [] fun v N => v = .int .i64 i ∧ N = [] := by
    refine ⟨_, ?_, hix0⟩
    split at hpos
    · exact .inl ⟨by assumption, hpos⟩
    · exact .inr ⟨by assumption, hpos.symm⟩
  obtain ⟨i, hi, hix⟩ := hix
  clear hix0 hpos
  rcases hi with ⟨h1, h2⟩ | ⟨h1, rfl⟩
  · rw [h2] at hins
    cases q
    all_goals
      refine Sp.enter (n := 28) Try.func26 rfl rfl rfl (Hp.refl w) ?_
      refine T.row0e 27 3 ?_
      repeat' (first
          | with_reducible refine T.seq ?_
          | with_reducible refine T.block ?_
          | with_reducible refine T.region ?_
          | with_reducible refine T.skip ?_
          | with_reducible refine T.scope ?_
          | with_reducible refine T.label ?_
          | with_reducible refine scopeQ_n ?_
          | with_reducible refine scopeQ_r ?_
          | with_reducible refine scopeQ_x ?_
          | with_reducible refine T.ret ?_
          | with_reducible refine T.exit ?_
          | with_reducible refine seqQ_n ?_
          | with_reducible refine seqQ_x ?_
          | with_reducible refine seqQ_r ?_
          | with_reducible refine blockQ_n ?_
          | with_reducible refine blockQ_r ?_
          | with_reducible refine blockQ_x ?_
          | ((with_reducible refine g_blkx ?_); refine blockQ_y rfl ?_)
          | with_reducible refine loopQ_x ?_
          | with_reducible refine loopQ_r ?_
          | with_reducible refine joinQ_r ?_
          | with_reducible refine joinQ_x ?_
          | ((with_reducible refine g_cond ?_); (first | refine T.cond_t rfl ?_ | refine T.cond_f rfl ?_ | (refine T.cond_s rfl ?_ ?_ <;> intro hc)))
          | with_reducible refine TL_nil ?_
          | with_reducible refine TS_nil ?_
          | ((with_reducible refine TL_y' ?hy ?hd ?_); (case hy => rfl); (case hd => rfl))
          | with_reducible refine TL_e ?_
          | ((with_reducible refine g_TL ?_); (first | refine TL_gy' rfl rfl rfl rfl ?_ | refine TL_gn rfl rfl rfl ?_ | refine TL_gu rfl rfl rfl ?_ | refine TL_ge rfl rfl ?_ | refine TL_gn0 rfl rfl ?_))
          | ((with_reducible refine g_TS ?_); (first | refine TS_y rfl rfl ?_ | refine TS_e rfl ?_ | refine TS_gy rfl rfl rfl rfl ?_ | refine TS_gn rfl rfl rfl rfl ?_ | refine TS_gu rfl rfl rfl rfl ?_ | refine TS_ge rfl rfl rfl ?_ | refine TS_gne rfl rfl rfl rfl ?_ | refine TS_gue rfl rfl rfl rfl ?_ | refine TS_gne0 rfl rfl rfl ?_))
          | ((with_reducible refine TSand ?hd ?_); (case hd => (repeat (first | exact List.nil_sublist _ | refine List.Sublist.cons_cons _ ?_ | refine List.Sublist.cons _ ?_))))
          | ((with_reducible refine TBand ?hd ?_); (case hd => (repeat (first | exact List.nil_sublist _ | refine List.Sublist.cons_cons _ ?_ | refine List.Sublist.cons _ ?_))))
          | ((with_reducible refine g_TB ?_); (first | with_reducible refine TB_run ?_ | refine TB_y rfl rfl ?_ | refine TB_b rfl rfl ?_ ?_ | refine TB_e rfl ?_))
          | ((with_reducible refine is_move ?_); refine ⟨_, Yl_move rfl, ?_⟩)
          | ((with_reducible refine is_assign ?_); refine ⟨_, Yl_assign rfl, ?_⟩)
          | ((with_reducible refine is_load ?_); (first
          | ((refine' ⟨_, Yl_load_blk rfl ?q1 ?q2 ?q3, ?_⟩); (case q1 => exact one_of rfl); (case q2 => (repeat (first | exact .head _ | apply List.Mem.tail))); (case q3 => rfl))
          | ((refine' ⟨_, Yl_loadA_blk rfl ?q1 ?q2, ?_⟩); (case q1 => (repeat (first | exact .head _ | apply List.Mem.tail))); (case q2 => exact agg_of rfl))
          | ((refine' ⟨_, Yl_load_blk rfl ?q1 ?q2 ?q3, ?_⟩); (case q1 => exact one_of rfl); (case q2 => (repeat (first | exact .head _ | apply List.Mem.tail))); (case q3 => assumption))
          | ((refine' ⟨_, Yl_load_rd rfl ?q1 ?q2 List.not_mem_nil ?q3, ?_⟩); (case q1 => exact one_of rfl); (case q2 => assumption); (case q3 => assumption))
          | ((refine' ⟨_, Yl_load_row rfl ?q1 ?q2 ?q3, ?_⟩); (case q1 => exact one_of rfl); (case q2 => (repeat (first | exact .head _ | apply List.Mem.tail))); (case q3 => assumption))
          | ((refine' ⟨_, Yl_loadA_rd rfl ?qa ?qb List.not_mem_nil ?ql ?qc, ?_⟩); (case qa => exact agg_of rfl); (case qb => assumption); (case qc => assumption); (case ql => rfl))
          | ((refine' ⟨_, Yl_loadA_row rfl ?qa ?qb ?ql ?qc, ?_⟩); (case qa => exact agg_of rfl); (case qb => (repeat (first | exact .head _ | apply List.Mem.tail))); (case qc => assumption); (case ql => rfl))))
          | ((with_reducible refine is_un ?_); refine ⟨_, Yl_not rfl, ?_⟩)
          | ((with_reducible refine is_len ?_); (first | ((refine' ⟨_, Yl_len_slice rfl ?q1, ?_⟩); (case q1 => exact und_of rfl)) | ((refine' ⟨_, Yl_len_string rfl ?q1, ?_⟩); (case q1 => exact und_of rfl))))
          | ((with_reducible refine is_b_lss ?_); (first | ((refine' ⟨_, Yl_lss_t rfl rfl ?q1, ?_⟩); (case q1 => omega)) | ((refine' ⟨_, Yl_lss_f rfl rfl ?q1, ?_⟩); (case q1 => omega)) | (refine sp_lss rfl rfl ?_ ?_ <;> intro hc)))
          | ((with_reducible refine is_slice ?_); (first | ((refine' ⟨_, Yl_sl_l rfl rfl ?q1 ?q2 ?q3, ?_⟩); (case q1 => exact und_of rfl); (case q2 => exact siz_of rfl); (case q3 => omega)) | ((refine' ⟨_, Yl_sl_h rfl rfl ?q1 ?q2 ?q3, ?_⟩); (case q1 => exact und_of rfl); (case q2 => exact siz_of rfl); (case q3 => omega)) | ((refine' ⟨_, Yl_sl_lh rfl rfl rfl ?q1 ?q2 ?q3 ?q4, ?_⟩); (case q1 => exact und_of rfl); (case q2 => exact siz_of rfl); (case q3 => omega); (case q4 => omega)) | ((refine' ⟨_, Yl_sl_hm rfl rfl rfl ?q1 ?q2 ?q3 ?q4, ?_⟩); (case q1 => exact und_of rfl); (case q2 => exact siz_of rfl); (case q3 => omega); (case q4 => omega))))
          | ((with_reducible refine is_mkf ?_); refine ⟨_, Yl_mkf rfl, ?_⟩)
          | ((with_reducible refine ie_callf ?_); (first
          | ((with_reducible refine g_call 32 ?_); (first | (refine Ef_callN rfl rfl ent_32 (fun w hp => clone_c A len cap l w (hp.rd hr fun _ => List.not_mem_nil) hl h64) ?_; rintro ⟨A1, c1⟩)))
          | ((with_reducible refine g_call 31 ?_); (first | refine Ef_callT [true, true] rfl rfl ent_31 rfl rfl rfl (fun w hp => delf_c A1 c1 l b1 x w _ h64l hp) ?_))
          | ((with_reducible refine g_call 29 ?_); (first | ((refine' Ef_callP rfl rfl ent_29 (fun w1 hp => hix A1 c1 w1 b1 (hp.blkOf ?q1) (hp.rowOf ?q2)) ?_); (case q1 => (repeat (first | exact .head _ | apply List.Mem.tail))); (case q2 => (repeat (first | exact .head _ | apply List.Mem.tail))))))
          | ((with_reducible refine g_call 35 ?_); (first | (refine Ef_callX (φ := fun _ => True) [true, true] rfl rfl ent_35 rfl rfl rfl (fun w hp => hins A1 c1 _ _ w _ hp) ?_; rintro ⟨A2, c2⟩ _)))
          | ((with_reducible refine g_call 23 ?_); (first | ((refine' Ef_callP rfl rfl ent_23 (fun w hp => hfi A2 c2 w (hp.rowOf ?q1)) ?_); (case q1 => (repeat (first | exact .head _ | apply List.Mem.tail))))))))
          | ((first | ((with_reducible refine ie_box ?_); (first | refine Ef_boxA rfl rfl ?_ | refine Ef_box1 rfl rfl rfl ?_))  | ((with_reducible refine ie_bsl ?_); (first | ((refine' Ef_bsl0 rfl ?q1 ?_); (case q1 => exact app_of rfl)) | ((refine' Ef_bslA rfl rfl ?q1 ?q2 ?q3 ?_); (case q1 => exact app_of rfl); (case q2 => rfl); (case q3 => decide)) | ((refine' Ef_bsl1 rfl rfl rfl ?q1 ?_); (case q1 => exact app_of rfl))))); (first | ((fail_if_success have := b1); intro b1) | ((fail_if_success have := b2); intro b2) | ((fail_if_success have := b3); intro b3) | ((fail_if_success have := b4); intro b4) | ((fail_if_success have := b5); intro b5) | ((fail_if_success have := b6); intro b6) | ((fail_if_success have := b7); intro b7) | ((fail_if_success have := b8); intro b8) | ((fail_if_success have := b9); intro b9) | ((fail_if_success have := b10); intro b10) | ((fail_if_success have := b11); intro b11) | ((fail_if_success have := b12); intro b12)))
          | (fail; (first | ((fail_if_success have := A1); intro A1 c1) | ((fail_if_success have := A2); intro A2 c2) | ((fail_if_success have := A3); intro A3 c3) | ((fail_if_success have := A4); intro A4 c4) | ((fail_if_success have := A5); intro A5 c5) | ((fail_if_success have := A6); intro A6 c6) | ((fail_if_success have := A7); intro A7 c7)))
          | refine Ef_y rfl rfl ?_)
    · exact ret_n [rS [] (none, 0)] (res2 rfl rfl rfl) (by (repeat (first | exact List.nil_sublist _ | refine List.Sublist.cons_cons _ ?_ | refine List.Sublist.cons _ ?_))) ⟨(none, 0), rfl, rfl⟩
    · exact ret_n [rS (Qt.put l x) (A2, c2)] (res2 rfl rfl rfl) (by (repeat (first | exact List.nil_sublist _ | refine List.Sublist.cons_cons _ ?_ | refine List.Sublist.cons _ ?_))) ⟨(A2, c2), rfl, rfl⟩
  · cases q
    all_goals
      refine Sp.enter (n := 28) Try.func26 rfl rfl rfl (Hp.refl w) ?_
      refine T.row0e 27 3 ?_
      repeat' (first
          | with_reducible refine T.seq ?_
          | with_reducible refine T.block ?_
          | with_reducible refine T.region ?_
          | with_reducible refine T.skip ?_
          | with_reducible refine T.scope ?_
          | with_reducible refine T.label ?_
          | with_reducible refine scopeQ_n ?_
          | with_reducible refine scopeQ_r ?_
          | with_reducible refine scopeQ_x ?_
          | with_reducible refine T.ret ?_
          | with_reducible refine T.exit ?_
          | with_reducible refine seqQ_n ?_
          | with_reducible refine seqQ_x ?_
          | with_reducible refine seqQ_r ?_
          | with_reducible refine blockQ_n ?_
          | with_reducible refine blockQ_r ?_
          | with_reducible refine blockQ_x ?_
          | ((with_reducible refine g_blkx ?_); refine blockQ_y rfl ?_)
          | with_reducible refine loopQ_x ?_
          | with_reducible refine loopQ_r ?_
          | with_reducible refine joinQ_r ?_
          | with_reducible refine joinQ_x ?_
          | ((with_reducible refine g_cond ?_); (first | refine T.cond_t rfl ?_ | refine T.cond_f rfl ?_ | (refine T.cond_s rfl ?_ ?_ <;> intro hc)))
          | with_reducible refine TL_nil ?_
          | with_reducible refine TS_nil ?_
          | ((with_reducible refine TL_y' ?hy ?hd ?_); (case hy => rfl); (case hd => rfl))
          | with_reducible refine TL_e ?_
          | ((with_reducible refine g_TL ?_); (first | refine TL_gy' rfl rfl rfl rfl ?_ | refine TL_gn rfl rfl rfl ?_ | refine TL_gu rfl rfl rfl ?_ | refine TL_ge rfl rfl ?_ | refine TL_gn0 rfl rfl ?_))
          | ((with_reducible refine g_TS ?_); (first | refine TS_y rfl rfl ?_ | refine TS_e rfl ?_ | refine TS_gy rfl rfl rfl rfl ?_ | refine TS_gn rfl rfl rfl rfl ?_ | refine TS_gu rfl rfl rfl rfl ?_ | refine TS_ge rfl rfl rfl ?_ | refine TS_gne rfl rfl rfl rfl ?_ | refine TS_gue rfl rfl rfl rfl ?_ | refine TS_gne0 rfl rfl rfl ?_))
          | ((with_reducible refine TSand ?hd ?_); (case hd => (repeat (first | exact List.nil_sublist _ | refine List.Sublist.cons_cons _ ?_ | refine List.Sublist.cons _ ?_))))
          | ((with_reducible refine TBand ?hd ?_); (case hd => (repeat (first | exact List.nil_sublist _ | refine List.Sublist.cons_cons _ ?_ | refine List.Sublist.cons _ ?_))))
          | ((with_reducible refine g_TB ?_); (first | with_reducible refine TB_run ?_ | refine TB_y rfl rfl ?_ | refine TB_b rfl rfl ?_ ?_ | refine TB_e rfl ?_))
          | ((with_reducible refine is_move ?_); refine ⟨_, Yl_move rfl, ?_⟩)
          | ((with_reducible refine is_assign ?_); refine ⟨_, Yl_assign rfl, ?_⟩)
          | ((with_reducible refine is_load ?_); (first
          | ((refine' ⟨_, Yl_load_blk rfl ?q1 ?q2 ?q3, ?_⟩); (case q1 => exact one_of rfl); (case q2 => (repeat (first | exact .head _ | apply List.Mem.tail))); (case q3 => rfl))
          | ((refine' ⟨_, Yl_loadA_blk rfl ?q1 ?q2, ?_⟩); (case q1 => (repeat (first | exact .head _ | apply List.Mem.tail))); (case q2 => exact agg_of rfl))
          | ((refine' ⟨_, Yl_load_blk rfl ?q1 ?q2 ?q3, ?_⟩); (case q1 => exact one_of rfl); (case q2 => (repeat (first | exact .head _ | apply List.Mem.tail))); (case q3 => assumption))
          | ((refine' ⟨_, Yl_load_rd rfl ?q1 ?q2 List.not_mem_nil ?q3, ?_⟩); (case q1 => exact one_of rfl); (case q2 => assumption); (case q3 => assumption))
          | ((refine' ⟨_, Yl_load_row rfl ?q1 ?q2 ?q3, ?_⟩); (case q1 => exact one_of rfl); (case q2 => (repeat (first | exact .head _ | apply List.Mem.tail))); (case q3 => assumption))
          | ((refine' ⟨_, Yl_loadA_rd rfl ?qa ?qb List.not_mem_nil ?ql ?qc, ?_⟩); (case qa => exact agg_of rfl); (case qb => assumption); (case qc => assumption); (case ql => rfl))
          | ((refine' ⟨_, Yl_loadA_row rfl ?qa ?qb ?ql ?qc, ?_⟩); (case qa => exact agg_of rfl); (case qb => (repeat (first | exact .head _ | apply List.Mem.tail))); (case qc => assumption); (case ql => rfl))))
          | ((with_reducible refine is_un ?_); refine ⟨_, Yl_not rfl, ?_⟩)
          | ((with_reducible refine is_len ?_); (first | ((refine' ⟨_, Yl_len_slice rfl ?q1, ?_⟩); (case q1 => exact und_of rfl)) | ((refine' ⟨_, Yl_len_string rfl ?q1, ?_⟩); (case q1 => exact und_of rfl))))
          | ((with_reducible refine is_b_lss ?_); (first | ((refine' ⟨_, Yl_lss_t rfl rfl ?q1, ?_⟩); (case q1 => omega)) | ((refine' ⟨_, Yl_lss_f rfl rfl ?q1, ?_⟩); (case q1 => omega)) | (refine sp_lss rfl rfl ?_ ?_ <;> intro hc)))
          | ((with_reducible refine is_slice ?_); (first | ((refine' ⟨_, Yl_sl_l rfl rfl ?q1 ?q2 ?q3, ?_⟩); (case q1 => exact und_of rfl); (case q2 => exact siz_of rfl); (case q3 => omega)) | ((refine' ⟨_, Yl_sl_h rfl rfl ?q1 ?q2 ?q3, ?_⟩); (case q1 => exact und_of rfl); (case q2 => exact siz_of rfl); (case q3 => omega)) | ((refine' ⟨_, Yl_sl_lh rfl rfl rfl ?q1 ?q2 ?q3 ?q4, ?_⟩); (case q1 => exact und_of rfl); (case q2 => exact siz_of rfl); (case q3 => omega); (case q4 => omega)) | ((refine' ⟨_, Yl_sl_hm rfl rfl rfl ?q1 ?q2 ?q3 ?q4, ?_⟩); (case q1 => exact und_of rfl); (case q2 => exact siz_of rfl); (case q3 => omega); (case q4 => omega))))
          | ((with_reducible refine is_mkf ?_); refine ⟨_, Yl_mkf rfl, ?_⟩)
          | ((with_reducible refine ie_callf ?_); (first
          | ((with_reducible refine g_call 32 ?_); (first | (refine Ef_callN rfl rfl ent_32 (fun w hp => clone_c A len cap l w (hp.rd hr fun _ => List.not_mem_nil) hl h64) ?_; rintro ⟨A1, c1⟩)))
          | ((with_reducible refine g_call 31 ?_); (first | refine Ef_callT [true, true] rfl rfl ent_31 rfl rfl rfl (fun w hp => delf_c A1 c1 l b1 x w _ h64l hp) ?_))
          | ((with_reducible refine g_call 29 ?_); (first | ((refine' Ef_callP rfl rfl ent_29 (fun w1 hp => hix A1 c1 w1 b1 (hp.blkOf ?q1) (hp.rowOf ?q2)) ?_); (case q1 => (repeat (first | exact .head _ | apply List.Mem.tail))); (case q2 => (repeat (first | exact .head _ | apply List.Mem.tail))))))
          | ((with_reducible refine g_call 35 ?_); (first | (refine Ef_callX (φ := fun _ => True) [true, true] rfl rfl ent_35 rfl rfl rfl (fun w hp => hins A1 c1 _ _ w _ hp) ?_; rintro ⟨A2, c2⟩ _)))
          | ((with_reducible refine g_call 23 ?_); (first | ((refine' Ef_callP rfl rfl ent_23 (fun w hp => hfi A2 c2 w (hp.rowOf ?q1)) ?_); (case q1 => (repeat (first | exact .head _ | apply List.Mem.tail))))))))
          | ((first | ((with_reducible refine ie_box ?_); (first | refine Ef_boxA rfl rfl ?_ | refine Ef_box1 rfl rfl rfl ?_))  | ((with_reducible refine ie_bsl ?_); (first | ((refine' Ef_bsl0 rfl ?q1 ?_); (case q1 => exact app_of rfl)) | ((refine' Ef_bslA rfl rfl ?q1 ?q2 ?q3 ?_); (case q1 => exact app_of rfl); (case q2 => rfl); (case q3 => decide)) | ((refine' Ef_bsl1 rfl rfl rfl ?q1 ?_); (case q1 => exact app_of rfl))))); (first | ((fail_if_success have := b1); intro b1) | ((fail_if_success have := b2); intro b2) | ((fail_if_success have := b3); intro b3) | ((fail_if_success have := b4); intro b4) | ((fail_if_success have := b5); intro b5) | ((fail_if_success have := b6); intro b6) | ((fail_if_success have := b7); intro b7) | ((fail_if_success have := b8); intro b8) | ((fail_if_success have := b9); intro b9) | ((fail_if_success have := b10); intro b10) | ((fail_if_success have := b11); intro b11) | ((fail_if_success have := b12); intro b12)))
          | (fail; (first | ((fail_if_success have := A1); intro A1 c1) | ((fail_if_success have := A2); intro A2 c2) | ((fail_if_success have := A3); intro A3 c3) | ((fail_if_success have := A4); intro A4 c4) | ((fail_if_success have := A5); intro A5 c5) | ((fail_if_success have := A6); intro A6 c6) | ((fail_if_success have := A7); intro A7 c7)))
          | refine Ef_y rfl rfl ?_)
    · exact ret_n [rS [] (none, 0)] (res2 rfl rfl rfl) (by (repeat (first | exact List.nil_sublist _ | refine List.Sublist.cons_cons _ ?_ | refine List.Sublist.cons _ ?_))) ⟨(none, 0), rfl, rfl⟩
    · exact ret_n [rS (Qt.put l x) (A2, c2)] (res2 rfl rfl rfl) (by (repeat (first | exact List.nil_sublist _ | refine List.Sublist.cons_cons _ ?_ | refine List.Sublist.cons _ ?_))) ⟨(A2, c2), rfl, rfl⟩
end
end Go.Proofs.Ytjcgahlpfnclkaa
