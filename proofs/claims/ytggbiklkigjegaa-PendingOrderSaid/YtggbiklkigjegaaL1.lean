/- The law on a list that nobody made; what arguments read as; the law on other keys: what a call of each comes to. -/
import Derived.Test.YtggbiklkigjegaaT6
namespace Go.Proofs.Ytggbiklkigjegaa
open Go.RowKit
set_option maxRecDepth 20000

theorem nil_c (a : Ac) (w : World) : Sp Try.prog 3 [.agg (aE a).toArray] w [] fun v N => v = .bool true ∧ N = [] := by
  refine Sp.enter (n := 62) Try.func3 rfl rfl rfl (Hp.refl w) ?_
  repeat' (first
      | with_reducible refine T.seq ?_
      | with_reducible refine T.block ?_
      | with_reducible refine T.region ?_
      | with_reducible refine T.skip ?_
      | with_reducible refine T.scope ?_
      | with_reducible refine T.label ?_
      | with_reducible refine scopeQ_n ?_
      | with_reducible refine scopeQ_r ?_
      | with_reducible refine scopeQ_x ?_
      | with_reducible refine T.ret ?_
      | with_reducible refine T.exit ?_
      | with_reducible refine seqQ_n ?_
      | with_reducible refine seqQ_x ?_
      | with_reducible refine seqQ_r ?_
      | with_reducible refine blockQ_n ?_
      | with_reducible refine blockQ_r ?_
      | with_reducible refine blockQ_x ?_
      | ((with_reducible refine g_blkx ?_); refine blockQ_y rfl ?_)
      | with_reducible refine loopQ_x ?_
      | with_reducible refine loopQ_r ?_
      | with_reducible refine joinQ_r ?_
      | with_reducible refine joinQ_x ?_
      | ((with_reducible refine g_cond ?_); (first | refine T.cond_t rfl ?_ | refine T.cond_f rfl ?_ | (refine T.cond_s rfl ?_ ?_ <;> intro hc)))
      | with_reducible refine TL_nil ?_
      | with_reducible refine TS_nil ?_
      | ((with_reducible refine TL_y' ?hy ?hd ?_); (case hy => rfl); (case hd => rfl))
      | with_reducible refine TL_e ?_
      | ((with_reducible refine g_TL ?_); (first | refine TL_gy' rfl rfl rfl rfl ?_ | refine TL_gn rfl rfl rfl ?_ | refine TL_gu rfl rfl rfl ?_ | refine TL_ge rfl rfl ?_ | refine TL_gn0 rfl rfl ?_))
      | ((with_reducible refine g_TS ?_); (first | refine TS_y rfl rfl ?_ | refine TS_e rfl ?_ | refine TS_gy rfl rfl rfl rfl ?_ | refine TS_gn rfl rfl rfl rfl ?_ | refine TS_gu rfl rfl rfl rfl ?_ | refine TS_ge rfl rfl rfl ?_ | refine TS_gne rfl rfl rfl rfl ?_ | refine TS_gue rfl rfl rfl rfl ?_ | refine TS_gne0 rfl rfl rfl ?_))
      | ((with_reducible refine TSand ?hd ?_); (case hd => (repeat (first | exact List.nil_sublist _ | refine List.Sublist.cons_cons _ ?_ | refine List.Sublist.cons _ ?_))))
      | ((with_reducible refine TBand ?hd ?_); (case hd => (repeat (first | exact List.nil_sublist _ | refine List.Sublist.cons_cons _ ?_ | refine List.Sublist.cons _ ?_))))
      | ((with_reducible refine g_TB ?_); (first | with_reducible refine TB_run ?_ | refine TB_y rfl rfl ?_ | refine TB_b rfl rfl ?_ ?_ | refine TB_e rfl ?_))
      | ((with_reducible refine is_move ?_); refine ⟨_, Yl_move rfl, ?_⟩)
      | ((with_reducible refine is_assign ?_); refine ⟨_, Yl_assign rfl, ?_⟩)
      | ((with_reducible refine is_pick ?_); (first | refine ⟨_, Yl_pick_t rfl rfl, ?_⟩ | refine ⟨_, Yl_pick_f rfl rfl, ?_⟩))
      | ((with_reducible refine is_fld ?_); (first | ((refine' ⟨_, Yl_fld_ad rfl ?q1, ?_⟩); (case q1 => exact fld_of rfl rfl)) | ((refine' ⟨_, Yl_fld_blk0 rfl ?q1, ?_⟩); (case q1 => exact fld_of rfl rfl)) | ((refine' ⟨_, Yl_fld_blk rfl ?q1, ?_⟩); (case q1 => exact fld_of rfl rfl))))
      | ((with_reducible refine is_load ?_); (first
      | ((refine' ⟨_, Yl_load_blk rfl ?q1 ?q2 ?q3, ?_⟩); (case q1 => exact one_of rfl); (case q2 => (repeat (first | exact .head _ | apply List.Mem.tail))); (case q3 => rfl))
      | ((refine' ⟨_, Yl_loadA_blk rfl ?q1 ?q2, ?_⟩); (case q1 => (repeat (first | exact .head _ | apply List.Mem.tail))); (case q2 => exact agg_of rfl))
      | ((refine' ⟨_, Yl_load_blk rfl ?q1 ?q2 ?q3, ?_⟩); (case q1 => exact one_of rfl); (case q2 => (repeat (first | exact .head _ | apply List.Mem.tail))); (case q3 => assumption))
      | ((refine' ⟨_, Yl_load_rd rfl ?q1 ?q2 List.not_mem_nil ?q3, ?_⟩); (case q1 => exact one_of rfl); (case q2 => assumption); (case q3 => assumption))
      | ((refine' ⟨_, Yl_load_row rfl ?q1 ?q2 ?q3, ?_⟩); (case q1 => exact one_of rfl); (case q2 => (repeat (first | exact .head _ | apply List.Mem.tail))); (case q3 => assumption))
      | ((refine' ⟨_, Yl_loadA_rd rfl ?qa ?qb List.not_mem_nil ?ql ?qc, ?_⟩); (case qa => exact agg_of rfl); (case qb => assumption); (case qc => assumption); (case ql => rfl))
      | ((refine' ⟨_, Yl_loadA_row rfl ?qa ?qb ?ql ?qc, ?_⟩); (case qa => exact agg_of rfl); (case qb => (repeat (first | exact .head _ | apply List.Mem.tail))); (case qc => assumption); (case ql => rfl))))
      | ((with_reducible refine is_ext ?_); refine ⟨_, Yl_extract rfl rfl, ?_⟩)
      | ((with_reducible refine is_un ?_); refine ⟨_, Yl_not rfl, ?_⟩)
      | ((with_reducible refine is_len ?_); (first | ((refine' ⟨_, Yl_len_slice rfl ?q1, ?_⟩); (case q1 => exact und_of rfl)) | ((refine' ⟨_, Yl_len_string rfl ?q1, ?_⟩); (case q1 => exact und_of rfl))))
      | ((with_reducible refine is_b_eql ?_); (first | ((refine' ⟨_, Yl_eql_t rfl rfl ?q1, ?_⟩); (case q1 => omega)) | ((refine' ⟨_, Yl_eql_f rfl rfl ?q1, ?_⟩); (case q1 => omega)) | (refine sp_eql rfl rfl ?_ ?_ <;> intro hc)  | ((refine' ⟨_, Yl_eql_bool rfl rfl ?q1, ?_⟩); (case q1 => exact und_of rfl)) | ((refine' ⟨_, Yl_eql_strT rfl rfl ?q1, ?_⟩); (case q1 => first | assumption | rfl)) | ((refine' ⟨_, Yl_eql_strF rfl rfl ?q1, ?_⟩); (case q1 => first | assumption | decide)) | (refine sp_eqlS rfl rfl ?_ ?_ <;> intro hc)))
      | ((with_reducible refine ie_callf ?_); (first | ((with_reducible refine g_call 9 ?_); (first | refine Ef_callP rfl rfl ent_9 (fun w _ => get_n w a.2.1) ?_ | ((refine' Ef_callP rfl rfl ent_9 (fun w hp => hg1 b1 A1 w (hp.blkOf ?q1) (hp.mapOf ?q2)) ?_); (case q1 => (repeat (first | exact .head _ | apply List.Mem.tail))); (case q2 => (repeat (first | exact .head _ | apply List.Mem.tail)))))) | ((with_reducible refine g_call 10 ?_); (first | refine Ef_callP rfl rfl ent_10 (fun w _ => take_n a.2.1 w) ?_)) | ((with_reducible refine g_call 11 ?_); (first | refine Ef_callP rfl rfl ent_11 (fun w _ => put_n a.2.1 w a.2.2) ?_)) | ((with_reducible refine g_call 12 ?_); (first | refine Ef_callP rfl rfl ent_12 (fun w _ => first_n a.2.1 w) ?_)) | ((with_reducible refine g_call 13 ?_); (first | refine Ef_callP rfl rfl ent_13 (fun w _ => len_n w) ?_)) | ((with_reducible refine g_call 14 ?_); (first | refine Ef_callP rfl rfl ent_14 (fun w _ => full_n w) ?_))))
      | ((first | ((with_reducible refine ie_box ?_); (first | refine Ef_boxA rfl rfl ?_ | refine Ef_box1 rfl rfl rfl ?_))); (first | ((fail_if_success have := b1); intro b1) | ((fail_if_success have := b2); intro b2) | ((fail_if_success have := b3); intro b3) | ((fail_if_success have := b4); intro b4) | ((fail_if_success have := b5); intro b5) | ((fail_if_success have := b6); intro b6) | ((fail_if_success have := b7); intro b7) | ((fail_if_success have := b8); intro b8) | ((fail_if_success have := b9); intro b9) | ((fail_if_success have := b10); intro b10) | ((fail_if_success have := b11); intro b11) | ((fail_if_success have := b12); intro b12)))
      | (fail; (first | ((fail_if_success have := A1); intro A1 c1) | ((fail_if_success have := A2); intro A2 c2) | ((fail_if_success have := A3); intro A3 c3) | ((fail_if_success have := A4); intro A4 c4) | ((fail_if_success have := A5); intro A5 c5) | ((fail_if_success have := A6); intro A6 c6) | ((fail_if_success have := A7); intro A7 c7)))
      | refine Ef_y rfl rfl ?_)
  exact ret_n [] (res1 rfl rfl) (List.nil_sublist _) ⟨rfl, rfl⟩

/-! ### What arguments read as -/

theorem acts_of {w : World} {A : Option Addr} {len : Nat} {xs : List Value} (hr : Rd w A len 3 xs) (hi : ∀ i, i < len → Is w (.pair (.int .i64) (.pair (.int .i64) (.pair .str .unit))) ((xs.drop (i * 3)).take 3)) :
    ∃ zs : List Ac, zs.length = len ∧ xs = zs.flatMap aE := by
  obtain ⟨zs, h1, h2, _⟩ := rows_enc (q := fun _ => True) aE_len len xs hr.len fun i hil => by
    obtain ⟨⟨a, h1, wa⟩, ⟨b, h2, _⟩, ⟨c, h3, _⟩, h4⟩ := hi i hil
    refine ⟨(a, b, c), ?_, trivial⟩
    generalize (xs.drop (i * 3)).take 3 = l at h1 h2 h3 h4
    simp only [Sh.n] at h1 h2 h3 h4
    match l, h1, h2, h3, h4 with
    | [x, y, z], h1, h2, h3, _ => simp at h1 h2 h3; rw [h1, h2, h3]; rfl
  exact ⟨zs, h1, h2⟩
theorem act_of {w : World} {cs : List Value} (h : Is w (.pair (.int .i64) (.pair (.int .i64) (.pair .str .unit))) cs) : ∃ x : Ac, cs = aE x := by
  obtain ⟨⟨a, h1, wa⟩, ⟨b, h2, _⟩, ⟨c, h3, _⟩, h4⟩ := h
  refine ⟨(a, b, c), ?_⟩
  simp only [Sh.n] at h1 h2 h3 h4
  match cs, h1, h2, h3, h4 with
  | [x, y, z], h1, h2, h3, _ => simp at h1 h2 h3; rw [h1, h2, h3]; rfl
end Go.Proofs.Ytggbiklkigjegaa
