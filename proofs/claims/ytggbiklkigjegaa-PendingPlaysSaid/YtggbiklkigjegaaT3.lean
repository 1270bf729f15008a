/- The list's methods: Put, Take, First: what a call of each comes to. -/
import Derived.Test.YtggbiklkigjegaaT2
namespace Go.Proofs.Ytggbiklkigjegaa
open Go.RowKit
set_option maxRecDepth 20000

theorem Yl_minE {P : Program} {n : Nat} {w0 : World} {R : List Nat} {L : List (Nat × Value)} {M : List Asrt} {ty : TypeId} {x y : Operand} {k k' : IntKind} {i j q : Int} {ats : Array TypeId} (hx : evl L x = some (.int k i)) (hy : evl L y = some (.int k' j)) (h : min i j = q) : Yl P n w0 R (.call { callee := .builtin .min, args := #[x, y], argTypes := ats }) ty L M (.int k q) := h ▸ Yl_min hx hy

section
variable (b : Nat) (most : Int) (z : Option Addr × Nat) (l : List KV) (r : Nat) (k : Int) (w : World) (R : List Nat) (hlen : l.length ≤ 10000) (hp : Hp w R (oL b most z l r) w)
include hlen hp
set_option maxHeartbeats 2000000 in
theorem put_c (v : ByteArray) : Sp Try.prog 11 [.pointer (some ⟨b, 0, none⟩), .int .i64 k, .string v] w R fun V N => ∃ z' : Option Addr × Nat, V = .bool (Pl.put most l k v).2 ∧ N = oL b most z' (Pl.put most l k v).1 r := by
  have hkl := Pl.keys_len l
  have oK := one_flat eI_one (Pl.keys l)
  have hg := fun w h1 h2 => get_c b most r z (Pl.keys l).length w h1 l h2 k
  obtain ⟨p, hpp⟩ : ∃ p, Pl.has l k = p := ⟨_, rfl⟩
  rw [hpp] at hg
  have huk := Pl.upd_keys k v l
  rw [hpp] at huk
  cases p
  · obtain ⟨q, hq⟩ : ∃ q, decide (most ≤ ((Pl.keys l).length : Int)) = q := ⟨_, rfl⟩
    have hfu := fun w h => full_c b most r z (Pl.keys l).length w h q hq
    simp only [Bool.false_eq_true, if_false] at huk
    cases q
    · have hlt := of_decide_eq_false hq
      have e : Pl.put most l k v = (Mp.upd k v l, true) := by unfold Pl.put; rw [if_pos (.inr (by omega))]
      rw [e]
      refine Sp.enter (n := 35) Try.func11 rfl rfl rfl hp ?_
      repeat' (first
          | with_reducible refine T.seq ?_
          | with_reducible refine T.block ?_
          | with_reducible refine T.region ?_
          | with_reducible refine T.skip ?_
          | with_reducible refine T.scope ?_
          | with_reducible refine T.label ?_
          | with_reducible refine scopeQ_n ?_
          | with_reducible refine scopeQ_r ?_
          | with_reducible refine scopeQ_x ?_
          | with_reducible refine T.ret ?_
          | with_reducible refine T.exit ?_
          | with_reducible refine seqQ_n ?_
          | with_reducible refine seqQ_x ?_
          | with_reducible refine seqQ_r ?_
          | with_reducible refine blockQ_n ?_
          | with_reducible refine blockQ_r ?_
          | with_reducible refine blockQ_x ?_
          | ((with_reducible refine g_blkx ?_); refine blockQ_y rfl ?_)
          | with_reducible refine loopQ_x ?_
          | with_reducible refine loopQ_r ?_
          | with_reducible refine joinQ_r ?_
          | with_reducible refine joinQ_x ?_
          | ((with_reducible refine g_cond ?_); (first | refine T.cond_t rfl ?_ | refine T.cond_f rfl ?_ | (refine T.cond_s rfl ?_ ?_ <;> intro hc)))
          | with_reducible refine TL_nil ?_
          | with_reducible refine TS_nil ?_
          | ((with_reducible refine g_draw ?_); (first | ((((refine' T.draw (id := 4) [(0, true), (1, true), (2, true), (3, true), (4, false), (5, false)] [.blk b1 (.cells #[.int .i64 k] 3 (0, 0)), .blk b (.cells (lC most z (delI (Pl.keys l) k).length r) 47 (0, 0))] mixd ?q1 ?q2 ?_); (case q1 => kernel_rfl); (case q2 => (repeat (first | exact List.nil_sublist _ | refine List.Sublist.cons_cons _ ?_ | refine List.Sublist.cons _ ?_))))))))
          | ((with_reducible refine TL_y' ?hy ?hd ?_); (case hy => rfl); (case hd => rfl))
          | with_reducible refine TL_e ?_
          | ((with_reducible refine g_TL ?_); (first | refine TL_gy' rfl rfl rfl rfl ?_ | refine TL_gn rfl rfl rfl ?_ | refine TL_gu rfl rfl rfl ?_ | refine TL_ge rfl rfl ?_ | refine TL_gn0 rfl rfl ?_))
          | ((with_reducible refine g_TS ?_); (first | refine TS_y rfl rfl ?_ | refine TS_e rfl ?_ | refine TS_gy rfl rfl rfl rfl ?_ | refine TS_gn rfl rfl rfl rfl ?_ | refine TS_gu rfl rfl rfl rfl ?_ | refine TS_ge rfl rfl rfl ?_ | refine TS_gne rfl rfl rfl rfl ?_ | refine TS_gue rfl rfl rfl rfl ?_ | refine TS_gne0 rfl rfl rfl ?_))
          | ((with_reducible refine TSand ?hd ?_); (case hd => (repeat (first | exact List.nil_sublist _ | refine List.Sublist.cons_cons _ ?_ | refine List.Sublist.cons _ ?_))))
          | ((with_reducible refine TBand ?hd ?_); (case hd => (repeat (first | exact List.nil_sublist _ | refine List.Sublist.cons_cons _ ?_ | refine List.Sublist.cons _ ?_))))
          | ((with_reducible refine g_TB ?_); (first | with_reducible refine TB_run ?_ | refine TB_y rfl rfl ?_ | refine TB_b rfl rfl ?_ ?_ | refine TB_e rfl ?_))
          | ((with_reducible refine is_move ?_); refine ⟨_, Yl_move rfl, ?_⟩)
          | ((with_reducible refine is_assign ?_); refine ⟨_, Yl_assign rfl, ?_⟩)
          | ((with_reducible refine is_nil ?_); refine ⟨_, Yl_nilCheck rfl, ?_⟩)
          | ((with_reducible refine is_fld ?_); (first | ((refine' ⟨_, Yl_fld_ad rfl ?q1, ?_⟩); (case q1 => exact fld_of rfl rfl)) | ((refine' ⟨_, Yl_fld_blk0 rfl ?q1, ?_⟩); (case q1 => exact fld_of rfl rfl)) | ((refine' ⟨_, Yl_fld_blk rfl ?q1, ?_⟩); (case q1 => exact fld_of rfl rfl))))
          | ((with_reducible refine is_load ?_); (first
          | ((refine' ⟨_, Yl_load_old rfl ?q1 hb List.not_mem_nil ?q2, ?_⟩); (case q1 => exact one_of rfl); (case q2 => rfl))
          | ((refine' ⟨_, Yl_load_blk rfl ?q1 ?q2 ?q3, ?_⟩); (case q1 => exact one_of rfl); (case q2 => (repeat (first | exact .head _ | apply List.Mem.tail))); (case q3 => rfl))
          | ((refine' ⟨_, Yl_loadA_blk rfl ?q1 ?q2, ?_⟩); (case q1 => (repeat (first | exact .head _ | apply List.Mem.tail))); (case q2 => exact agg_of rfl))
          | ((refine' ⟨_, Yl_load_blk rfl ?q1 ?q2 ?q3, ?_⟩); (case q1 => exact one_of rfl); (case q2 => (repeat (first | exact .head _ | apply List.Mem.tail))); (case q3 => assumption))
          | ((refine' ⟨_, Yl_load_rd rfl ?q1 ?q2 List.not_mem_nil ?q3, ?_⟩); (case q1 => exact one_of rfl); (case q2 => assumption); (case q3 => assumption))
          | ((refine' ⟨_, Yl_load_row rfl ?q1 ?q2 ?q3, ?_⟩); (case q1 => exact one_of rfl); (case q2 => (repeat (first | exact .head _ | apply List.Mem.tail))); (case q3 => assumption))
          | ((refine' ⟨_, Yl_loadA_rd rfl ?qa ?qb List.not_mem_nil ?ql ?qc, ?_⟩); (case qa => exact agg_of rfl); (case qb => assumption); (case qc => assumption); (case ql => rfl))
          | ((refine' ⟨_, Yl_loadA_row rfl ?qa ?qb ?ql ?qc, ?_⟩); (case qa => exact agg_of rfl); (case qb => (repeat (first | exact .head _ | apply List.Mem.tail))); (case qc => assumption); (case ql => rfl))))
          | ((with_reducible refine is_ext ?_); refine ⟨_, Yl_extract rfl rfl, ?_⟩)
          | ((with_reducible refine is_un ?_); refine ⟨_, Yl_not rfl, ?_⟩)
          | ((with_reducible refine ie_store ?_); (first
          | ((refine' Ef_store_row1 rfl rfl ?q1 ?q2 ?q3 ?q4 ?q5 ?_); (case q1 => rfl); (case q2 => exact siz_of rfl); (case q3 => (first | exact at0 | exact at1 | exact at2 | exact at3 | exact at4 | exact at5 | exact at6)); (case q4 => omega); (case q5 => assumption))
          | ((refine' Ef_store_rowA rfl rfl ?q1 ?q2 ?q3 ?q4 ?q5 ?q6 ?_); (case q1 => exact siz_of rfl); (case q2 => rfl); (case q3 => (first | assumption | (intro u hu; rcases hu with _ | ⟨_, _ | ⟨_, _ | ⟨_, _ | ⟨_, hu⟩⟩⟩⟩ <;> first | rfl | (cases hu; done)))); (case q4 => (first | exact at0 | exact at1 | exact at2 | exact at3 | exact at4 | exact at5 | exact at6)); (case q5 => omega); (case q6 => assumption))
          | ((refine' Ef_storeA' rfl rfl ?q1 ?q2 ?q3 ?q4 ?_); (case q1 => exact siz_of rfl); (case q2 => (first | assumption | (intro u hu; rcases hu with _ | ⟨_, _ | ⟨_, _ | ⟨_, _ | ⟨_, hu⟩⟩⟩⟩ <;> first | rfl | (cases hu; done)))); (case q3 => (first | exact at0 | exact at1 | exact at2 | exact at3 | exact at4 | exact at5 | exact at6)); (case q4 => rfl))
          | ((refine' Ef_storeC rfl rfl ?q1 ?q2 ?q3 ?q4 ?q5 ?_); (case q1 => rfl); (case q2 => exact siz_of rfl); (case q3 => (first | exact at0 | exact at1 | exact at2 | exact at3 | exact at4 | exact at5 | exact at6)); (case q4 => exact Nat.le_of_ble_eq_true rfl); (case q5 => rfl))))
          | ((with_reducible refine ie_callf ?_); (first | ((with_reducible refine g_call 9 ?_); (first | ((refine' Ef_callP rfl rfl ent_9 (fun w hp => hg w (hp.blkOf ?q1) (hp.mapOf ?q2)) ?_); (case q1 => (repeat (first | exact .head _ | apply List.Mem.tail))); (case q2 => (repeat (first | exact .head _ | apply List.Mem.tail)))) | refine Ef_callP rfl rfl ent_9 (fun w _ => get_n w k) ?_)) | ((with_reducible refine g_call 14 ?_); (first | ((refine' Ef_callP rfl rfl ent_14 (fun w hp => hfu w (hp.blkOf ?q1)) ?_); (case q1 => (repeat (first | exact .head _ | apply List.Mem.tail)))) | refine Ef_callP rfl rfl ent_14 (fun w _ => full_n w) ?_))))
          | (first | ((refine' Ef_mapUpdate rfl rfl rfl Try.underlying45 Try.underlying3 ?q1 ?_); (case q1 => (first | exact at0 | exact at1 | exact at2 | exact at3 | exact at4 | exact at5 | exact at6))) | ((refine' Ef_delete rfl rfl Try.underlying45 Try.underlying3 ?q1 ?_); (case q1 => (first | exact at0 | exact at1 | exact at2 | exact at3 | exact at4 | exact at5 | exact at6))) | refine Ef_y' rfl ⟨_, Yl_minE rfl rfl hj, ?_⟩)
          | ((first   | ((with_reducible refine ie_bsl ?_); (first | ((refine' Ef_bsl0 rfl ?q1 ?_); (case q1 => exact app_of rfl)) | ((refine' Ef_bslA rfl rfl ?q1 ?q2 ?q3 ?_); (case q1 => exact app_of rfl); (case q2 => rfl); (case q3 => decide)) | ((refine' Ef_bsl1 rfl rfl rfl ?q1 ?_); (case q1 => exact app_of rfl))))); (first | ((fail_if_success have := b1); intro b1) | ((fail_if_success have := b2); intro b2) | ((fail_if_success have := b3); intro b3) | ((fail_if_success have := b4); intro b4) | ((fail_if_success have := b5); intro b5) | ((fail_if_success have := b6); intro b6) | ((fail_if_success have := b7); intro b7) | ((fail_if_success have := b8); intro b8) | ((fail_if_success have := b9); intro b9) | ((fail_if_success have := b10); intro b10) | ((fail_if_success have := b11); intro b11) | ((fail_if_success have := b12); intro b12)))
          | (((with_reducible refine ie_app ?_); (first
          | ((refine' Ef_app0_rd rfl rfl rfl ?q1 ?q2 ?q3 ?q4 ?q5 ?q6 ?q7 ?_); (case q1 => exact app_of rfl); (case q2 => (first | exact at0 | exact at1 | exact at2 | exact at3 | exact at4 | exact at5 | exact at6)); (case q3 => assumption); (case q4 => (first | assumption | (intro u hu; rcases hu with _ | ⟨_, _ | ⟨_, _ | ⟨_, _ | ⟨_, hu⟩⟩⟩⟩ <;> first | rfl | (cases hu; done)))); (case q5 => omega); (case q6 => omega); (case q7 => exact List.not_mem_nil))
          | ((refine' Ef_appG_row rfl rfl rfl ?q1 ?q2 ?q3 ?q4 ?q5 ?q6 ?_); (case q1 => exact app_of rfl); (case q2 => (first | exact at0 | exact at1 | exact at2 | exact at3 | exact at4 | exact at5 | exact at6)); (case q3 => (repeat (first | exact .head _ | apply List.Mem.tail))); (case q4 => (first | assumption | (intro u hu; rcases hu with _ | ⟨_, _ | ⟨_, _ | ⟨_, _ | ⟨_, hu⟩⟩⟩⟩ <;> first | rfl | (cases hu; done)))); (case q5 => omega); (case q6 => omega))
          | ((refine' Ef_appG_rd rfl rfl rfl ?q1 ?q2 ?q3 ?q4 ?q5 ?q6 ?q7 ?_); (case q1 => exact app_of rfl); (case q2 => (first | exact at0 | exact at1 | exact at2 | exact at3 | exact at4 | exact at5 | exact at6)); (case q3 => assumption); (case q4 => (first | assumption | (intro u hu; rcases hu with _ | ⟨_, _ | ⟨_, _ | ⟨_, _ | ⟨_, hu⟩⟩⟩⟩ <;> first | rfl | (cases hu; done)))); (case q5 => omega); (case q6 => omega); (case q7 => exact List.not_mem_nil)))); (first | ((fail_if_success have := A1); intro A1 c1) | ((fail_if_success have := A2); intro A2 c2) | ((fail_if_success have := A3); intro A3 c3) | ((fail_if_success have := A4); intro A4 c4) | ((fail_if_success have := A5); intro A5 c5) | ((fail_if_success have := A6); intro A6 c6) | ((fail_if_success have := A7); intro A7 c7)))
          | refine Ef_y rfl rfl ?_)
      refine ret_n (oL b most (A1, c1) (Mp.upd k v l) r) (res1 rfl rfl) ?_ ⟨(A1, c1), rfl, rfl⟩
      unfold oL rI
      rw [huk, lenI_snoc, eI_snoc]
      exact List.Sublist.cons _ (List.Sublist.refl _)
    · have hge := of_decide_eq_true hq
      have e : Pl.put most l k v = (l, false) := by unfold Pl.put; rw [if_neg (by rw [hpp]; simp; omega)]
      rw [e]
      refine Sp.enter (n := 35) Try.func11 rfl rfl rfl hp ?_
      repeat' (first
          | with_reducible refine T.seq ?_
          | with_reducible refine T.block ?_
          | with_reducible refine T.region ?_
          | with_reducible refine T.skip ?_
          | with_reducible refine T.scope ?_
          | with_reducible refine T.label ?_
          | with_reducible refine scopeQ_n ?_
          | with_reducible refine scopeQ_r ?_
          | with_reducible refine scopeQ_x ?_
          | with_reducible refine T.ret ?_
          | with_reducible refine T.exit ?_
          | with_reducible refine seqQ_n ?_
          | with_reducible refine seqQ_x ?_
          | with_reducible refine seqQ_r ?_
          | with_reducible refine blockQ_n ?_
          | with_reducible refine blockQ_r ?_
          | with_reducible refine blockQ_x ?_
          | ((with_reducible refine g_blkx ?_); refine blockQ_y rfl ?_)
          | with_reducible refine loopQ_x ?_
          | with_reducible refine loopQ_r ?_
          | with_reducible refine joinQ_r ?_
          | with_reducible refine joinQ_x ?_
          | ((with_reducible refine g_cond ?_); (first | refine T.cond_t rfl ?_ | refine T.cond_f rfl ?_ | (refine T.cond_s rfl ?_ ?_ <;> intro hc)))
          | with_reducible refine TL_nil ?_
          | with_reducible refine TS_nil ?_
          | ((with_reducible refine g_draw ?_); (first | ((((refine' T.draw (id := 4) [(0, true), (1, true), (2, true), (3, true), (4, false), (5, false)] [.blk b1 (.cells #[.int .i64 k] 3 (0, 0)), .blk b (.cells (lC most z (delI (Pl.keys l) k).length r) 47 (0, 0))] mixd ?q1 ?q2 ?_); (case q1 => kernel_rfl); (case q2 => (repeat (first | exact List.nil_sublist _ | refine List.Sublist.cons_cons _ ?_ | refine List.Sublist.cons _ ?_))))))))
          | ((with_reducible refine TL_y' ?hy ?hd ?_); (case hy => rfl); (case hd => rfl))
          | with_reducible refine TL_e ?_
          | ((with_reducible refine g_TL ?_); (first | refine TL_gy' rfl rfl rfl rfl ?_ | refine TL_gn rfl rfl rfl ?_ | refine TL_gu rfl rfl rfl ?_ | refine TL_ge rfl rfl ?_ | refine TL_gn0 rfl rfl ?_))
          | ((with_reducible refine g_TS ?_); (first | refine TS_y rfl rfl ?_ | refine TS_e rfl ?_ | refine TS_gy rfl rfl rfl rfl ?_ | refine TS_gn rfl rfl rfl rfl ?_ | refine TS_gu rfl rfl rfl rfl ?_ | refine TS_ge rfl rfl rfl ?_ | refine TS_gne rfl rfl rfl rfl ?_ | refine TS_gue rfl rfl rfl rfl ?_ | refine TS_gne0 rfl rfl rfl ?_))
          | ((with_reducible refine TSand ?hd ?_); (case hd => (repeat (first | exact List.nil_sublist _ | refine List.Sublist.cons_cons _ ?_ | refine List.Sublist.cons _ ?_))))
          | ((with_reducible refine TBand ?hd ?_); (case hd => (repeat (first | exact List.nil_sublist _ | refine List.Sublist.cons_cons _ ?_ | refine List.Sublist.cons _ ?_))))
          | ((with_reducible refine g_TB ?_); (first | with_reducible refine TB_run ?_ | refine TB_y rfl rfl ?_ | refine TB_b rfl rfl ?_ ?_ | refine TB_e rfl ?_))
          | ((with_reducible refine is_move ?_); refine ⟨_, Yl_move rfl, ?_⟩)
          | ((with_reducible refine is_assign ?_); refine ⟨_, Yl_assign rfl, ?_⟩)
          | ((with_reducible refine is_nil ?_); refine ⟨_, Yl_nilCheck rfl, ?_⟩)
          | ((with_reducible refine is_fld ?_); (first | ((refine' ⟨_, Yl_fld_ad rfl ?q1, ?_⟩); (case q1 => exact fld_of rfl rfl)) | ((refine' ⟨_, Yl_fld_blk0 rfl ?q1, ?_⟩); (case q1 => exact fld_of rfl rfl)) | ((refine' ⟨_, Yl_fld_blk rfl ?q1, ?_⟩); (case q1 => exact fld_of rfl rfl))))
          | ((with_reducible refine is_load ?_); (first
          | ((refine' ⟨_, Yl_load_old rfl ?q1 hb List.not_mem_nil ?q2, ?_⟩); (case q1 => exact one_of rfl); (case q2 => rfl))
          | ((refine' ⟨_, Yl_load_blk rfl ?q1 ?q2 ?q3, ?_⟩); (case q1 => exact one_of rfl); (case q2 => (repeat (first | exact .head _ | apply List.Mem.tail))); (case q3 => rfl))
          | ((refine' ⟨_, Yl_loadA_blk rfl ?q1 ?q2, ?_⟩); (case q1 => (repeat (first | exact .head _ | apply List.Mem.tail))); (case q2 => exact agg_of rfl))
          | ((refine' ⟨_, Yl_load_blk rfl ?q1 ?q2 ?q3, ?_⟩); (case q1 => exact one_of rfl); (case q2 => (repeat (first | exact .head _ | apply List.Mem.tail))); (case q3 => assumption))
          | ((refine' ⟨_, Yl_load_rd rfl ?q1 ?q2 List.not_mem_nil ?q3, ?_⟩); (case q1 => exact one_of rfl); (case q2 => assumption); (case q3 => assumption))
          | ((refine' ⟨_, Yl_load_row rfl ?q1 ?q2 ?q3, ?_⟩); (case q1 => exact one_of rfl); (case q2 => (repeat (first | exact .head _ | apply List.Mem.tail))); (case q3 => assumption))
          | ((refine' ⟨_, Yl_loadA_rd rfl ?qa ?qb List.not_mem_nil ?ql ?qc, ?_⟩); (case qa => exact agg_of rfl); (case qb => assumption); (case qc => assumption); (case ql => rfl))
          | ((refine' ⟨_, Yl_loadA_row rfl ?qa ?qb ?ql ?qc, ?_⟩); (case qa => exact agg_of rfl); (case qb => (repeat (first | exact .head _ | apply List.Mem.tail))); (case qc => assumption); (case ql => rfl))))
          | ((with_reducible refine is_ext ?_); refine ⟨_, Yl_extract rfl rfl, ?_⟩)
          | ((with_reducible refine is_un ?_); refine ⟨_, Yl_not rfl, ?_⟩)
          | ((with_reducible refine ie_store ?_); (first
          | ((refine' Ef_store_row1 rfl rfl ?q1 ?q2 ?q3 ?q4 ?q5 ?_); (case q1 => rfl); (case q2 => exact siz_of rfl); (case q3 => (first | exact at0 | exact at1 | exact at2 | exact at3 | exact at4 | exact at5 | exact at6)); (case q4 => omega); (case q5 => assumption))
          | ((refine' Ef_store_rowA rfl rfl ?q1 ?q2 ?q3 ?q4 ?q5 ?q6 ?_); (case q1 => exact siz_of rfl); (case q2 => rfl); (case q3 => (first | assumption | (intro u hu; rcases hu with _ | ⟨_, _ | ⟨_, _ | ⟨_, _ | ⟨_, hu⟩⟩⟩⟩ <;> first | rfl | (cases hu; done)))); (case q4 => (first | exact at0 | exact at1 | exact at2 | exact at3 | exact at4 | exact at5 | exact at6)); (case q5 => omega); (case q6 => assumption))
          | ((refine' Ef_storeA' rfl rfl ?q1 ?q2 ?q3 ?q4 ?_); (case q1 => exact siz_of rfl); (case q2 => (first | assumption | (intro u hu; rcases hu with _ | ⟨_, _ | ⟨_, _ | ⟨_, _ | ⟨_, hu⟩⟩⟩⟩ <;> first | rfl | (cases hu; done)))); (case q3 => (first | exact at0 | exact at1 | exact at2 | exact at3 | exact at4 | exact at5 | exact at6)); (case q4 => rfl))
          | ((refine' Ef_storeC rfl rfl ?q1 ?q2 ?q3 ?q4 ?q5 ?_); (case q1 => rfl); (case q2 => exact siz_of rfl); (case q3 => (first | exact at0 | exact at1 | exact at2 | exact at3 | exact at4 | exact at5 | exact at6)); (case q4 => exact Nat.le_of_ble_eq_true rfl); (case q5 => rfl))))
          | ((with_reducible refine ie_callf ?_); (first | ((with_reducible refine g_call 9 ?_); (first | ((refine' Ef_callP rfl rfl ent_9 (fun w hp => hg w (hp.blkOf ?q1) (hp.mapOf ?q2)) ?_); (case q1 => (repeat (first | exact .head _ | apply List.Mem.tail))); (case q2 => (repeat (first | exact .head _ | apply List.Mem.tail)))) | refine Ef_callP rfl rfl ent_9 (fun w _ => get_n w k) ?_)) | ((with_reducible refine g_call 14 ?_); (first | ((refine' Ef_callP rfl rfl ent_14 (fun w hp => hfu w (hp.blkOf ?q1)) ?_); (case q1 => (repeat (first | exact .head _ | apply List.Mem.tail)))) | refine Ef_callP rfl rfl ent_14 (fun w _ => full_n w) ?_))))
          | (first | ((refine' Ef_mapUpdate rfl rfl rfl Try.underlying45 Try.underlying3 ?q1 ?_); (case q1 => (first | exact at0 | exact at1 | exact at2 | exact at3 | exact at4 | exact at5 | exact at6))) | ((refine' Ef_delete rfl rfl Try.underlying45 Try.underlying3 ?q1 ?_); (case q1 => (first | exact at0 | exact at1 | exact at2 | exact at3 | exact at4 | exact at5 | exact at6))) | refine Ef_y' rfl ⟨_, Yl_minE rfl rfl hj, ?_⟩)
          | ((first   | ((with_reducible refine ie_bsl ?_); (first | ((refine' Ef_bsl0 rfl ?q1 ?_); (case q1 => exact app_of rfl)) | ((refine' Ef_bslA rfl rfl ?q1 ?q2 ?q3 ?_); (case q1 => exact app_of rfl); (case q2 => rfl); (case q3 => decide)) | ((refine' Ef_bsl1 rfl rfl rfl ?q1 ?_); (case q1 => exact app_of rfl))))); (first | ((fail_if_success have := b1); intro b1) | ((fail_if_success have := b2); intro b2) | ((fail_if_success have := b3); intro b3) | ((fail_if_success have := b4); intro b4) | ((fail_if_success have := b5); intro b5) | ((fail_if_success have := b6); intro b6) | ((fail_if_success have := b7); intro b7) | ((fail_if_success have := b8); intro b8) | ((fail_if_success have := b9); intro b9) | ((fail_if_success have := b10); intro b10) | ((fail_if_success have := b11); intro b11) | ((fail_if_success have := b12); intro b12)))
          | (((with_reducible refine ie_app ?_); (first
          | ((refine' Ef_app0_rd rfl rfl rfl ?q1 ?q2 ?q3 ?q4 ?q5 ?q6 ?q7 ?_); (case q1 => exact app_of rfl); (case q2 => (first | exact at0 | exact at1 | exact at2 | exact at3 | exact at4 | exact at5 | exact at6)); (case q3 => assumption); (case q4 => (first | assumption | (intro u hu; rcases hu with _ | ⟨_, _ | ⟨_, _ | ⟨_, _ | ⟨_, hu⟩⟩⟩⟩ <;> first | rfl | (cases hu; done)))); (case q5 => omega); (case q6 => omega); (case q7 => exact List.not_mem_nil))
          | ((refine' Ef_appG_row rfl rfl rfl ?q1 ?q2 ?q3 ?q4 ?q5 ?q6 ?_); (case q1 => exact app_of rfl); (case q2 => (first | exact at0 | exact at1 | exact at2 | exact at3 | exact at4 | exact at5 | exact at6)); (case q3 => (repeat (first | exact .head _ | apply List.Mem.tail))); (case q4 => (first | assumption | (intro u hu; rcases hu with _ | ⟨_, _ | ⟨_, _ | ⟨_, _ | ⟨_, hu⟩⟩⟩⟩ <;> first | rfl | (cases hu; done)))); (case q5 => omega); (case q6 => omega))
          | ((refine' Ef_appG_rd rfl rfl rfl ?q1 ?q2 ?q3 ?q4 ?q5 ?q6 ?q7 ?_); (case q1 => exact app_of rfl); (case q2 => (first | exact at0 | exact at1 | exact at2 | exact at3 | exact at4 | exact at5 | exact at6)); (case q3 => assumption); (case q4 => (first | assumption | (intro u hu; rcases hu with _ | ⟨_, _ | ⟨_, _ | ⟨_, _ | ⟨_, hu⟩⟩⟩⟩ <;> first | rfl | (cases hu; done)))); (case q5 => omega); (case q6 => omega); (case q7 => exact List.not_mem_nil)))); (first | ((fail_if_success have := A1); intro A1 c1) | ((fail_if_success have := A2); intro A2 c2) | ((fail_if_success have := A3); intro A3 c3) | ((fail_if_success have := A4); intro A4 c4) | ((fail_if_success have := A5); intro A5 c5) | ((fail_if_success have := A6); intro A6 c6) | ((fail_if_success have := A7); intro A7 c7)))
          | refine Ef_y rfl rfl ?_)
      exact ret_n (oL b most z l r) (res1 rfl rfl) (List.Sublist.refl _) ⟨z, rfl, rfl⟩
  · simp only [if_true] at huk
    have e : Pl.put most l k v = (Mp.upd k v l, true) := by unfold Pl.put; rw [if_pos (.inl hpp)]
    rw [e]
    refine Sp.enter (n := 35) Try.func11 rfl rfl rfl hp ?_
    repeat' (first
        | with_reducible refine T.seq ?_
        | with_reducible refine T.block ?_
        | with_reducible refine T.region ?_
        | with_reducible refine T.skip ?_
        | with_reducible refine T.scope ?_
        | with_reducible refine T.label ?_
        | with_reducible refine scopeQ_n ?_
        | with_reducible refine scopeQ_r ?_
        | with_reducible refine scopeQ_x ?_
        | with_reducible refine T.ret ?_
        | with_reducible refine T.exit ?_
        | with_reducible refine seqQ_n ?_
        | with_reducible refine seqQ_x ?_
        | with_reducible refine seqQ_r ?_
        | with_reducible refine blockQ_n ?_
        | with_reducible refine blockQ_r ?_
        | with_reducible refine blockQ_x ?_
        | ((with_reducible refine g_blkx ?_); refine blockQ_y rfl ?_)
        | with_reducible refine loopQ_x ?_
        | with_reducible refine loopQ_r ?_
        | with_reducible refine joinQ_r ?_
        | with_reducible refine joinQ_x ?_
        | ((with_reducible refine g_cond ?_); (first | refine T.cond_t rfl ?_ | refine T.cond_f rfl ?_ | (refine T.cond_s rfl ?_ ?_ <;> intro hc)))
        | with_reducible refine TL_nil ?_
        | with_reducible refine TS_nil ?_
        | ((with_reducible refine g_draw ?_); (first | ((((refine' T.draw (id := 4) [(0, true), (1, true), (2, true), (3, true), (4, false), (5, false)] [.blk b1 (.cells #[.int .i64 k] 3 (0, 0)), .blk b (.cells (lC most z (delI (Pl.keys l) k).length r) 47 (0, 0))] mixd ?q1 ?q2 ?_); (case q1 => kernel_rfl); (case q2 => (repeat (first | exact List.nil_sublist _ | refine List.Sublist.cons_cons _ ?_ | refine List.Sublist.cons _ ?_))))))))
        | ((with_reducible refine TL_y' ?hy ?hd ?_); (case hy => rfl); (case hd => rfl))
        | with_reducible refine TL_e ?_
        | ((with_reducible refine g_TL ?_); (first | refine TL_gy' rfl rfl rfl rfl ?_ | refine TL_gn rfl rfl rfl ?_ | refine TL_gu rfl rfl rfl ?_ | refine TL_ge rfl rfl ?_ | refine TL_gn0 rfl rfl ?_))
        | ((with_reducible refine g_TS ?_); (first | refine TS_y rfl rfl ?_ | refine TS_e rfl ?_ | refine TS_gy rfl rfl rfl rfl ?_ | refine TS_gn rfl rfl rfl rfl ?_ | refine TS_gu rfl rfl rfl rfl ?_ | refine TS_ge rfl rfl rfl ?_ | refine TS_gne rfl rfl rfl rfl ?_ | refine TS_gue rfl rfl rfl rfl ?_ | refine TS_gne0 rfl rfl rfl ?_))
        | ((with_reducible refine TSand ?hd ?_); (case hd => (repeat (first | exact List.nil_sublist _ | refine List.Sublist.cons_cons _ ?_ | refine List.Sublist.cons _ ?_))))
        | ((with_reducible refine TBand ?hd ?_); (case hd => (repeat (first | exact List.nil_sublist _ | refine List.Sublist.cons_cons _ ?_ | refine List.Sublist.cons _ ?_))))
        | ((with_reducible refine g_TB ?_); (first | with_reducible refine TB_run ?_ | refine TB_y rfl rfl ?_ | refine TB_b rfl rfl ?_ ?_ | refine TB_e rfl ?_))
        | ((with_reducible refine is_move ?_); refine ⟨_, Yl_move rfl, ?_⟩)
        | ((with_reducible refine is_assign ?_); refine ⟨_, Yl_assign rfl, ?_⟩)
        | ((with_reducible refine is_nil ?_); refine ⟨_, Yl_nilCheck rfl, ?_⟩)
        | ((with_reducible refine is_fld ?_); (first | ((refine' ⟨_, Yl_fld_ad rfl ?q1, ?_⟩); (case q1 => exact fld_of rfl rfl)) | ((refine' ⟨_, Yl_fld_blk0 rfl ?q1, ?_⟩); (case q1 => exact fld_of rfl rfl)) | ((refine' ⟨_, Yl_fld_blk rfl ?q1, ?_⟩); (case q1 => exact fld_of rfl rfl))))
        | ((with_reducible refine is_load ?_); (first
        | ((refine' ⟨_, Yl_load_old rfl ?q1 hb List.not_mem_nil ?q2, ?_⟩); (case q1 => exact one_of rfl); (case q2 => rfl))
        | ((refine' ⟨_, Yl_load_blk rfl ?q1 ?q2 ?q3, ?_⟩); (case q1 => exact one_of rfl); (case q2 => (repeat (first | exact .head _ | apply List.Mem.tail))); (case q3 => rfl))
        | ((refine' ⟨_, Yl_loadA_blk rfl ?q1 ?q2, ?_⟩); (case q1 => (repeat (first | exact .head _ | apply List.Mem.tail))); (case q2 => exact agg_of rfl))
        | ((refine' ⟨_, Yl_load_blk rfl ?q1 ?q2 ?q3, ?_⟩); (case q1 => exact one_of rfl); (case q2 => (repeat (first | exact .head _ | apply List.Mem.tail))); (case q3 => assumption))
        | ((refine' ⟨_, Yl_load_rd rfl ?q1 ?q2 List.not_mem_nil ?q3, ?_⟩); (case q1 => exact one_of rfl); (case q2 => assumption); (case q3 => assumption))
        | ((refine' ⟨_, Yl_load_row rfl ?q1 ?q2 ?q3, ?_⟩); (case q1 => exact one_of rfl); (case q2 => (repeat (first | exact .head _ | apply List.Mem.tail))); (case q3 => assumption))
        | ((refine' ⟨_, Yl_loadA_rd rfl ?qa ?qb List.not_mem_nil ?ql ?qc, ?_⟩); (case qa => exact agg_of rfl); (case qb => assumption); (case qc => assumption); (case ql => rfl))
        | ((refine' ⟨_, Yl_loadA_row rfl ?qa ?qb ?ql ?qc, ?_⟩); (case qa => exact agg_of rfl); (case qb => (repeat (first | exact .head _ | apply List.Mem.tail))); (case qc => assumption); (case ql => rfl))))
        | ((with_reducible refine is_ext ?_); refine ⟨_, Yl_extract rfl rfl, ?_⟩)
        | ((with_reducible refine is_un ?_); refine ⟨_, Yl_not rfl, ?_⟩)
        | ((with_reducible refine ie_store ?_); (first
        | ((refine' Ef_store_row1 rfl rfl ?q1 ?q2 ?q3 ?q4 ?q5 ?_); (case q1 => rfl); (case q2 => exact siz_of rfl); (case q3 => (first | exact at0 | exact at1 | exact at2 | exact at3 | exact at4 | exact at5 | exact at6)); (case q4 => omega); (case q5 => assumption))
        | ((refine' Ef_store_rowA rfl rfl ?q1 ?q2 ?q3 ?q4 ?q5 ?q6 ?_); (case q1 => exact siz_of rfl); (case q2 => rfl); (case q3 => (first | assumption | (intro u hu; rcases hu with _ | ⟨_, _ | ⟨_, _ | ⟨_, _ | ⟨_, hu⟩⟩⟩⟩ <;> first | rfl | (cases hu; done)))); (case q4 => (first | exact at0 | exact at1 | exact at2 | exact at3 | exact at4 | exact at5 | exact at6)); (case q5 => omega); (case q6 => assumption))
        | ((refine' Ef_storeA' rfl rfl ?q1 ?q2 ?q3 ?q4 ?_); (case q1 => exact siz_of rfl); (case q2 => (first | assumption | (intro u hu; rcases hu with _ | ⟨_, _ | ⟨_, _ | ⟨_, _ | ⟨_, hu⟩⟩⟩⟩ <;> first | rfl | (cases hu; done)))); (case q3 => (first | exact at0 | exact at1 | exact at2 | exact at3 | exact at4 | exact at5 | exact at6)); (case q4 => rfl))
        | ((refine' Ef_storeC rfl rfl ?q1 ?q2 ?q3 ?q4 ?q5 ?_); (case q1 => rfl); (case q2 => exact siz_of rfl); (case q3 => (first | exact at0 | exact at1 | exact at2 | exact at3 | exact at4 | exact at5 | exact at6)); (case q4 => exact Nat.le_of_ble_eq_true rfl); (case q5 => rfl))))
        | ((with_reducible refine ie_callf ?_); (first | ((with_reducible refine g_call 9 ?_); (first | ((refine' Ef_callP rfl rfl ent_9 (fun w hp => hg w (hp.blkOf ?q1) (hp.mapOf ?q2)) ?_); (case q1 => (repeat (first | exact .head _ | apply List.Mem.tail))); (case q2 => (repeat (first | exact .head _ | apply List.Mem.tail)))) | refine Ef_callP rfl rfl ent_9 (fun w _ => get_n w k) ?_)) | ((with_reducible refine g_call 14 ?_); (first | ((refine' Ef_callP rfl rfl ent_14 (fun w hp => hfu w (hp.blkOf ?q1)) ?_); (case q1 => (repeat (first | exact .head _ | apply List.Mem.tail)))) | refine Ef_callP rfl rfl ent_14 (fun w _ => full_n w) ?_))))
        | (first | ((refine' Ef_mapUpdate rfl rfl rfl Try.underlying45 Try.underlying3 ?q1 ?_); (case q1 => (first | exact at0 | exact at1 | exact at2 | exact at3 | exact at4 | exact at5 | exact at6))) | ((refine' Ef_delete rfl rfl Try.underlying45 Try.underlying3 ?q1 ?_); (case q1 => (first | exact at0 | exact at1 | exact at2 | exact at3 | exact at4 | exact at5 | exact at6))) | refine Ef_y' rfl ⟨_, Yl_minE rfl rfl hj, ?_⟩)
        | ((first   | ((with_reducible refine ie_bsl ?_); (first | ((refine' Ef_bsl0 rfl ?q1 ?_); (case q1 => exact app_of rfl)) | ((refine' Ef_bslA rfl rfl ?q1 ?q2 ?q3 ?_); (case q1 => exact app_of rfl); (case q2 => rfl); (case q3 => decide)) | ((refine' Ef_bsl1 rfl rfl rfl ?q1 ?_); (case q1 => exact app_of rfl))))); (first | ((fail_if_success have := b1); intro b1) | ((fail_if_success have := b2); intro b2) | ((fail_if_success have := b3); intro b3) | ((fail_if_success have := b4); intro b4) | ((fail_if_success have := b5); intro b5) | ((fail_if_success have := b6); intro b6) | ((fail_if_success have := b7); intro b7) | ((fail_if_success have := b8); intro b8) | ((fail_if_success have := b9); intro b9) | ((fail_if_success have := b10); intro b10) | ((fail_if_success have := b11); intro b11) | ((fail_if_success have := b12); intro b12)))
        | (((with_reducible refine ie_app ?_); (first
        | ((refine' Ef_app0_rd rfl rfl rfl ?q1 ?q2 ?q3 ?q4 ?q5 ?q6 ?q7 ?_); (case q1 => exact app_of rfl); (case q2 => (first | exact at0 | exact at1 | exact at2 | exact at3 | exact at4 | exact at5 | exact at6)); (case q3 => assumption); (case q4 => (first | assumption | (intro u hu; rcases hu with _ | ⟨_, _ | ⟨_, _ | ⟨_, _ | ⟨_, hu⟩⟩⟩⟩ <;> first | rfl | (cases hu; done)))); (case q5 => omega); (case q6 => omega); (case q7 => exact List.not_mem_nil))
        | ((refine' Ef_appG_row rfl rfl rfl ?q1 ?q2 ?q3 ?q4 ?q5 ?q6 ?_); (case q1 => exact app_of rfl); (case q2 => (first | exact at0 | exact at1 | exact at2 | exact at3 | exact at4 | exact at5 | exact at6)); (case q3 => (repeat (first | exact .head _ | apply List.Mem.tail))); (case q4 => (first | assumption | (intro u hu; rcases hu with _ | ⟨_, _ | ⟨_, _ | ⟨_, _ | ⟨_, hu⟩⟩⟩⟩ <;> first | rfl | (cases hu; done)))); (case q5 => omega); (case q6 => omega))
        | ((refine' Ef_appG_rd rfl rfl rfl ?q1 ?q2 ?q3 ?q4 ?q5 ?q6 ?q7 ?_); (case q1 => exact app_of rfl); (case q2 => (first | exact at0 | exact at1 | exact at2 | exact at3 | exact at4 | exact at5 | exact at6)); (case q3 => assumption); (case q4 => (first | assumption | (intro u hu; rcases hu with _ | ⟨_, _ | ⟨_, _ | ⟨_, _ | ⟨_, hu⟩⟩⟩⟩ <;> first | rfl | (cases hu; done)))); (case q5 => omega); (case q6 => omega); (case q7 => exact List.not_mem_nil)))); (first | ((fail_if_success have := A1); intro A1 c1) | ((fail_if_success have := A2); intro A2 c2) | ((fail_if_success have := A3); intro A3 c3) | ((fail_if_success have := A4); intro A4 c4) | ((fail_if_success have := A5); intro A5 c5) | ((fail_if_success have := A6); intro A6 c6) | ((fail_if_success have := A7); intro A7 c7)))
        | refine Ef_y rfl rfl ?_)
    refine ret_n (oL b most z (Mp.upd k v l) r) (res1 rfl rfl) ?_ ⟨z, rfl, rfl⟩
    unfold oL
    rw [huk]
    exact List.Sublist.refl _

set_option maxHeartbeats 2000000 in
theorem take_c (hnd : (Pl.keys l).Nodup) : Sp Try.prog 10 [.pointer (some ⟨b, 0, none⟩), .int .i64 k] w R fun V N => ∃ z' : Option Addr × Nat, V = .tuple #[.string ((Mp.getK k l).getD ByteArray.empty), .bool (Pl.has l k)] ∧ N = oL b most z' (Mp.dele k l) r := by
  have hkl0 := Pl.keys_len l
  have hkl : (Pl.keys l).length ≤ 100000 := by omega
  have hg := fun w h1 h2 => get_c b most r z (Pl.keys l).length w h1 l h2 k
  obtain ⟨p, hpp⟩ : ∃ p, Pl.has l k = p := ⟨_, rfl⟩
  rw [hpp] at hg ⊢
  have hdk := Pl.dele_keys (k := k) hnd
  cases p
  · refine Sp.enter (n := 31) Try.func10 rfl rfl rfl hp ?_
    repeat' (first
        | with_reducible refine T.seq ?_
        | with_reducible refine T.block ?_
        | with_reducible refine T.region ?_
        | with_reducible refine T.skip ?_
        | with_reducible refine T.scope ?_
        | with_reducible refine T.label ?_
        | with_reducible refine scopeQ_n ?_
        | with_reducible refine scopeQ_r ?_
        | with_reducible refine scopeQ_x ?_
        | with_reducible refine T.ret ?_
        | with_reducible refine T.exit ?_
        | with_reducible refine seqQ_n ?_
        | with_reducible refine seqQ_x ?_
        | with_reducible refine seqQ_r ?_
        | with_reducible refine blockQ_n ?_
        | with_reducible refine blockQ_r ?_
        | with_reducible refine blockQ_x ?_
        | ((with_reducible refine g_blkx ?_); refine blockQ_y rfl ?_)
        | with_reducible refine loopQ_x ?_
        | with_reducible refine loopQ_r ?_
        | with_reducible refine joinQ_r ?_
        | with_reducible refine joinQ_x ?_
        | ((with_reducible refine g_cond ?_); (first | refine T.cond_t rfl ?_ | refine T.cond_f rfl ?_ | (refine T.cond_s rfl ?_ ?_ <;> intro hc)))
        | with_reducible refine TL_nil ?_
        | with_reducible refine TS_nil ?_
        | ((with_reducible refine g_draw ?_); (first | ((((refine' T.draw (id := 4) [(0, true), (1, true), (2, true), (3, true), (4, false), (5, false)] [.blk b1 (.cells #[.int .i64 k] 3 (0, 0)), .blk b (.cells (lC most z (delI (Pl.keys l) k).length r) 47 (0, 0))] mixd ?q1 ?q2 ?_); (case q1 => kernel_rfl); (case q2 => (repeat (first | exact List.nil_sublist _ | refine List.Sublist.cons_cons _ ?_ | refine List.Sublist.cons _ ?_))))))))
        | ((with_reducible refine TL_y' ?hy ?hd ?_); (case hy => rfl); (case hd => rfl))
        | with_reducible refine TL_e ?_
        | ((with_reducible refine g_TL ?_); (first | refine TL_gy' rfl rfl rfl rfl ?_ | refine TL_gn rfl rfl rfl ?_ | refine TL_gu rfl rfl rfl ?_ | refine TL_ge rfl rfl ?_ | refine TL_gn0 rfl rfl ?_))
        | ((with_reducible refine g_TS ?_); (first | refine TS_y rfl rfl ?_ | refine TS_e rfl ?_ | refine TS_gy rfl rfl rfl rfl ?_ | refine TS_gn rfl rfl rfl rfl ?_ | refine TS_gu rfl rfl rfl rfl ?_ | refine TS_ge rfl rfl rfl ?_ | refine TS_gne rfl rfl rfl rfl ?_ | refine TS_gue rfl rfl rfl rfl ?_ | refine TS_gne0 rfl rfl rfl ?_))
        | ((with_reducible refine TSand ?hd ?_); (case hd => (repeat (first | exact List.nil_sublist _ | refine List.Sublist.cons_cons _ ?_ | refine List.Sublist.cons _ ?_))))
        | ((with_reducible refine TBand ?hd ?_); (case hd => (repeat (first | exact List.nil_sublist _ | refine List.Sublist.cons_cons _ ?_ | refine List.Sublist.cons _ ?_))))
        | ((with_reducible refine g_TB ?_); (first | with_reducible refine TB_run ?_ | refine TB_y rfl rfl ?_ | refine TB_b rfl rfl ?_ ?_ | refine TB_e rfl ?_))
        | ((with_reducible refine is_move ?_); refine ⟨_, Yl_move rfl, ?_⟩)
        | ((with_reducible refine is_assign ?_); refine ⟨_, Yl_assign rfl, ?_⟩)
        | ((with_reducible refine is_nil ?_); refine ⟨_, Yl_nilCheck rfl, ?_⟩)
        | ((with_reducible refine is_fld ?_); (first | ((refine' ⟨_, Yl_fld_ad rfl ?q1, ?_⟩); (case q1 => exact fld_of rfl rfl)) | ((refine' ⟨_, Yl_fld_blk0 rfl ?q1, ?_⟩); (case q1 => exact fld_of rfl rfl)) | ((refine' ⟨_, Yl_fld_blk rfl ?q1, ?_⟩); (case q1 => exact fld_of rfl rfl))))
        | ((with_reducible refine is_load ?_); (first
        | ((refine' ⟨_, Yl_load_old rfl ?q1 hb List.not_mem_nil ?q2, ?_⟩); (case q1 => exact one_of rfl); (case q2 => rfl))
        | ((refine' ⟨_, Yl_load_blk rfl ?q1 ?q2 ?q3, ?_⟩); (case q1 => exact one_of rfl); (case q2 => (repeat (first | exact .head _ | apply List.Mem.tail))); (case q3 => rfl))
        | ((refine' ⟨_, Yl_loadA_blk rfl ?q1 ?q2, ?_⟩); (case q1 => (repeat (first | exact .head _ | apply List.Mem.tail))); (case q2 => exact agg_of rfl))
        | ((refine' ⟨_, Yl_load_blk rfl ?q1 ?q2 ?q3, ?_⟩); (case q1 => exact one_of rfl); (case q2 => (repeat (first | exact .head _ | apply List.Mem.tail))); (case q3 => assumption))
        | ((refine' ⟨_, Yl_load_rd rfl ?q1 ?q2 List.not_mem_nil ?q3, ?_⟩); (case q1 => exact one_of rfl); (case q2 => assumption); (case q3 => assumption))
        | ((refine' ⟨_, Yl_load_row rfl ?q1 ?q2 ?q3, ?_⟩); (case q1 => exact one_of rfl); (case q2 => (repeat (first | exact .head _ | apply List.Mem.tail))); (case q3 => assumption))
        | ((refine' ⟨_, Yl_loadA_rd rfl ?qa ?qb List.not_mem_nil ?ql ?qc, ?_⟩); (case qa => exact agg_of rfl); (case qb => assumption); (case qc => assumption); (case ql => rfl))
        | ((refine' ⟨_, Yl_loadA_row rfl ?qa ?qb ?ql ?qc, ?_⟩); (case qa => exact agg_of rfl); (case qb => (repeat (first | exact .head _ | apply List.Mem.tail))); (case qc => assumption); (case ql => rfl))))
        | ((with_reducible refine is_ext ?_); refine ⟨_, Yl_extract rfl rfl, ?_⟩)
        | ((with_reducible refine is_mkf ?_); refine ⟨_, Yl_mkf rfl, ?_⟩)
        | ((with_reducible refine ie_store ?_); (first
        | ((refine' Ef_store_row1 rfl rfl ?q1 ?q2 ?q3 ?q4 ?q5 ?_); (case q1 => rfl); (case q2 => exact siz_of rfl); (case q3 => (first | exact at0 | exact at1 | exact at2 | exact at3 | exact at4 | exact at5 | exact at6)); (case q4 => omega); (case q5 => assumption))
        | ((refine' Ef_store_rowA rfl rfl ?q1 ?q2 ?q3 ?q4 ?q5 ?q6 ?_); (case q1 => exact siz_of rfl); (case q2 => rfl); (case q3 => (first | assumption | (intro u hu; rcases hu with _ | ⟨_, _ | ⟨_, _ | ⟨_, _ | ⟨_, hu⟩⟩⟩⟩ <;> first | rfl | (cases hu; done)))); (case q4 => (first | exact at0 | exact at1 | exact at2 | exact at3 | exact at4 | exact at5 | exact at6)); (case q5 => omega); (case q6 => assumption))
        | ((refine' Ef_storeA' rfl rfl ?q1 ?q2 ?q3 ?q4 ?_); (case q1 => exact siz_of rfl); (case q2 => (first | assumption | (intro u hu; rcases hu with _ | ⟨_, _ | ⟨_, _ | ⟨_, _ | ⟨_, hu⟩⟩⟩⟩ <;> first | rfl | (cases hu; done)))); (case q3 => (first | exact at0 | exact at1 | exact at2 | exact at3 | exact at4 | exact at5 | exact at6)); (case q4 => rfl))
        | ((refine' Ef_storeC rfl rfl ?q1 ?q2 ?q3 ?q4 ?q5 ?_); (case q1 => rfl); (case q2 => exact siz_of rfl); (case q3 => (first | exact at0 | exact at1 | exact at2 | exact at3 | exact at4 | exact at5 | exact at6)); (case q4 => exact Nat.le_of_ble_eq_true rfl); (case q5 => rfl))))
        | ((with_reducible refine ie_callf ?_); (first | ((with_reducible refine g_call 9 ?_); (first | ((refine' Ef_callP rfl rfl ent_9 (fun w hp => hg w (hp.blkOf ?q1) (hp.mapOf ?q2)) ?_); (case q1 => (repeat (first | exact .head _ | apply List.Mem.tail))); (case q2 => (repeat (first | exact .head _ | apply List.Mem.tail)))) | refine Ef_callP rfl rfl ent_9 (fun w _ => get_n w k) ?_))  | ((with_reducible refine g_call 24 ?_); (first | refine Ef_callT [true, false, false, true] rfl rfl ent_24 rfl rfl rfl (fun w hp => delf_c z.1 z.2 (Pl.keys l) b1 k w _ hkl hp) ?_))))
        | (first | ((refine' Ef_mapUpdate rfl rfl rfl Try.underlying45 Try.underlying3 ?q1 ?_); (case q1 => (first | exact at0 | exact at1 | exact at2 | exact at3 | exact at4 | exact at5 | exact at6))) | ((refine' Ef_delete rfl rfl Try.underlying45 Try.underlying3 ?q1 ?_); (case q1 => (first | exact at0 | exact at1 | exact at2 | exact at3 | exact at4 | exact at5 | exact at6))) | refine Ef_y' rfl ⟨_, Yl_minE rfl rfl hj, ?_⟩)
        | ((first | ((with_reducible refine ie_box ?_); (first | refine Ef_boxA rfl rfl ?_ | refine Ef_box1 rfl rfl rfl ?_))); (first | ((fail_if_success have := b1); intro b1) | ((fail_if_success have := b2); intro b2) | ((fail_if_success have := b3); intro b3) | ((fail_if_success have := b4); intro b4) | ((fail_if_success have := b5); intro b5) | ((fail_if_success have := b6); intro b6) | ((fail_if_success have := b7); intro b7) | ((fail_if_success have := b8); intro b8) | ((fail_if_success have := b9); intro b9) | ((fail_if_success have := b10); intro b10) | ((fail_if_success have := b11); intro b11) | ((fail_if_success have := b12); intro b12)))
        | (fail; (first | ((fail_if_success have := A1); intro A1 c1) | ((fail_if_success have := A2); intro A2 c2) | ((fail_if_success have := A3); intro A3 c3) | ((fail_if_success have := A4); intro A4 c4) | ((fail_if_success have := A5); intro A5 c5) | ((fail_if_success have := A6); intro A6 c6) | ((fail_if_success have := A7); intro A7 c7)))
        | refine Ef_y rfl rfl ?_)
    rw [Pl.dele_no hpp]
    exact ret_n (oL b most z l r) (res2 rfl rfl rfl) (List.Sublist.cons _ (List.Sublist.refl _)) ⟨z, rfl, rfl⟩
  · refine Sp.reorder (Res := fun V N => V = .tuple #[.string ((Mp.getK k l).getD ByteArray.empty), .bool true] ∧ N = [rI (delI (Pl.keys l) k) z, .blk b (.cells (lC most z (delI (Pl.keys l) k).length r) 47 (0, 0)), mA r (Mp.dele k l)]) ?_ ?_
    · refine Sp.enter (n := 31) Try.func10 rfl rfl rfl hp ?_
      repeat' (first
          | with_reducible refine T.seq ?_
          | with_reducible refine T.block ?_
          | with_reducible refine T.region ?_
          | with_reducible refine T.skip ?_
          | with_reducible refine T.scope ?_
          | with_reducible refine T.label ?_
          | with_reducible refine scopeQ_n ?_
          | with_reducible refine scopeQ_r ?_
          | with_reducible refine scopeQ_x ?_
          | with_reducible refine T.ret ?_
          | with_reducible refine T.exit ?_
          | with_reducible refine seqQ_n ?_
          | with_reducible refine seqQ_x ?_
          | with_reducible refine seqQ_r ?_
          | with_reducible refine blockQ_n ?_
          | with_reducible refine blockQ_r ?_
          | with_reducible refine blockQ_x ?_
          | ((with_reducible refine g_blkx ?_); refine blockQ_y rfl ?_)
          | with_reducible refine loopQ_x ?_
          | with_reducible refine loopQ_r ?_
          | with_reducible refine joinQ_r ?_
          | with_reducible refine joinQ_x ?_
          | ((with_reducible refine g_cond ?_); (first | refine T.cond_t rfl ?_ | refine T.cond_f rfl ?_ | (refine T.cond_s rfl ?_ ?_ <;> intro hc)))
          | with_reducible refine TL_nil ?_
          | with_reducible refine TS_nil ?_
          | ((with_reducible refine g_draw ?_); (first | ((((refine' T.draw (id := 4) [(0, true), (1, true), (2, true), (3, true), (4, false), (5, false)] [.blk b1 (.cells #[.int .i64 k] 3 (0, 0)), .blk b (.cells (lC most z (delI (Pl.keys l) k).length r) 47 (0, 0))] mixd ?q1 ?q2 ?_); (case q1 => kernel_rfl); (case q2 => (repeat (first | exact List.nil_sublist _ | refine List.Sublist.cons_cons _ ?_ | refine List.Sublist.cons _ ?_))))))))
          | ((with_reducible refine TL_y' ?hy ?hd ?_); (case hy => rfl); (case hd => rfl))
          | with_reducible refine TL_e ?_
          | ((with_reducible refine g_TL ?_); (first | refine TL_gy' rfl rfl rfl rfl ?_ | refine TL_gn rfl rfl rfl ?_ | refine TL_gu rfl rfl rfl ?_ | refine TL_ge rfl rfl ?_ | refine TL_gn0 rfl rfl ?_))
          | ((with_reducible refine g_TS ?_); (first | refine TS_y rfl rfl ?_ | refine TS_e rfl ?_ | refine TS_gy rfl rfl rfl rfl ?_ | refine TS_gn rfl rfl rfl rfl ?_ | refine TS_gu rfl rfl rfl rfl ?_ | refine TS_ge rfl rfl rfl ?_ | refine TS_gne rfl rfl rfl rfl ?_ | refine TS_gue rfl rfl rfl rfl ?_ | refine TS_gne0 rfl rfl rfl ?_))
          | ((with_reducible refine TSand ?hd ?_); (case hd => (repeat (first | exact List.nil_sublist _ | refine List.Sublist.cons_cons _ ?_ | refine List.Sublist.cons _ ?_))))
          | ((with_reducible refine TBand ?hd ?_); (case hd => (repeat (first | exact List.nil_sublist _ | refine List.Sublist.cons_cons _ ?_ | refine List.Sublist.cons _ ?_))))
          | ((with_reducible refine g_TB ?_); (first | with_reducible refine TB_run ?_ | refine TB_y rfl rfl ?_ | refine TB_b rfl rfl ?_ ?_ | refine TB_e rfl ?_))
          | ((with_reducible refine is_move ?_); refine ⟨_, Yl_move rfl, ?_⟩)
          | ((with_reducible refine is_assign ?_); refine ⟨_, Yl_assign rfl, ?_⟩)
          | ((with_reducible refine is_nil ?_); refine ⟨_, Yl_nilCheck rfl, ?_⟩)
          | ((with_reducible refine is_fld ?_); (first | ((refine' ⟨_, Yl_fld_ad rfl ?q1, ?_⟩); (case q1 => exact fld_of rfl rfl)) | ((refine' ⟨_, Yl_fld_blk0 rfl ?q1, ?_⟩); (case q1 => exact fld_of rfl rfl)) | ((refine' ⟨_, Yl_fld_blk rfl ?q1, ?_⟩); (case q1 => exact fld_of rfl rfl))))
          | ((with_reducible refine is_load ?_); (first
          | ((refine' ⟨_, Yl_load_old rfl ?q1 hb List.not_mem_nil ?q2, ?_⟩); (case q1 => exact one_of rfl); (case q2 => rfl))
          | ((refine' ⟨_, Yl_load_blk rfl ?q1 ?q2 ?q3, ?_⟩); (case q1 => exact one_of rfl); (case q2 => (repeat (first | exact .head _ | apply List.Mem.tail))); (case q3 => rfl))
          | ((refine' ⟨_, Yl_loadA_blk rfl ?q1 ?q2, ?_⟩); (case q1 => (repeat (first | exact .head _ | apply List.Mem.tail))); (case q2 => exact agg_of rfl))
          | ((refine' ⟨_, Yl_load_blk rfl ?q1 ?q2 ?q3, ?_⟩); (case q1 => exact one_of rfl); (case q2 => (repeat (first | exact .head _ | apply List.Mem.tail))); (case q3 => assumption))
          | ((refine' ⟨_, Yl_load_rd rfl ?q1 ?q2 List.not_mem_nil ?q3, ?_⟩); (case q1 => exact one_of rfl); (case q2 => assumption); (case q3 => assumption))
          | ((refine' ⟨_, Yl_load_row rfl ?q1 ?q2 ?q3, ?_⟩); (case q1 => exact one_of rfl); (case q2 => (repeat (first | exact .head _ | apply List.Mem.tail))); (case q3 => assumption))
          | ((refine' ⟨_, Yl_loadA_rd rfl ?qa ?qb List.not_mem_nil ?ql ?qc, ?_⟩); (case qa => exact agg_of rfl); (case qb => assumption); (case qc => assumption); (case ql => rfl))
          | ((refine' ⟨_, Yl_loadA_row rfl ?qa ?qb ?ql ?qc, ?_⟩); (case qa => exact agg_of rfl); (case qb => (repeat (first | exact .head _ | apply List.Mem.tail))); (case qc => assumption); (case ql => rfl))))
          | ((with_reducible refine is_ext ?_); refine ⟨_, Yl_extract rfl rfl, ?_⟩)
          | ((with_reducible refine is_mkf ?_); refine ⟨_, Yl_mkf rfl, ?_⟩)
          | ((with_reducible refine ie_store ?_); (first
          | ((refine' Ef_store_row1 rfl rfl ?q1 ?q2 ?q3 ?q4 ?q5 ?_); (case q1 => rfl); (case q2 => exact siz_of rfl); (case q3 => (first | exact at0 | exact at1 | exact at2 | exact at3 | exact at4 | exact at5 | exact at6)); (case q4 => omega); (case q5 => assumption))
          | ((refine' Ef_store_rowA rfl rfl ?q1 ?q2 ?q3 ?q4 ?q5 ?q6 ?_); (case q1 => exact siz_of rfl); (case q2 => rfl); (case q3 => (first | assumption | (intro u hu; rcases hu with _ | ⟨_, _ | ⟨_, _ | ⟨_, _ | ⟨_, hu⟩⟩⟩⟩ <;> first | rfl | (cases hu; done)))); (case q4 => (first | exact at0 | exact at1 | exact at2 | exact at3 | exact at4 | exact at5 | exact at6)); (case q5 => omega); (case q6 => assumption))
          | ((refine' Ef_storeA' rfl rfl ?q1 ?q2 ?q3 ?q4 ?_); (case q1 => exact siz_of rfl); (case q2 => (first | assumption | (intro u hu; rcases hu with _ | ⟨_, _ | ⟨_, _ | ⟨_, _ | ⟨_, hu⟩⟩⟩⟩ <;> first | rfl | (cases hu; done)))); (case q3 => (first | exact at0 | exact at1 | exact at2 | exact at3 | exact at4 | exact at5 | exact at6)); (case q4 => rfl))
          | ((refine' Ef_storeC rfl rfl ?q1 ?q2 ?q3 ?q4 ?q5 ?_); (case q1 => rfl); (case q2 => exact siz_of rfl); (case q3 => (first | exact at0 | exact at1 | exact at2 | exact at3 | exact at4 | exact at5 | exact at6)); (case q4 => exact Nat.le_of_ble_eq_true rfl); (case q5 => rfl))))
          | ((with_reducible refine ie_callf ?_); (first | ((with_reducible refine g_call 9 ?_); (first | ((refine' Ef_callP rfl rfl ent_9 (fun w hp => hg w (hp.blkOf ?q1) (hp.mapOf ?q2)) ?_); (case q1 => (repeat (first | exact .head _ | apply List.Mem.tail))); (case q2 => (repeat (first | exact .head _ | apply List.Mem.tail)))) | refine Ef_callP rfl rfl ent_9 (fun w _ => get_n w k) ?_))  | ((with_reducible refine g_call 24 ?_); (first | refine Ef_callT [true, false, false, true] rfl rfl ent_24 rfl rfl rfl (fun w hp => delf_c z.1 z.2 (Pl.keys l) b1 k w _ hkl hp) ?_))))
          | (first | ((refine' Ef_mapUpdate rfl rfl rfl Try.underlying45 Try.underlying3 ?q1 ?_); (case q1 => (first | exact at0 | exact at1 | exact at2 | exact at3 | exact at4 | exact at5 | exact at6))) | ((refine' Ef_delete rfl rfl Try.underlying45 Try.underlying3 ?q1 ?_); (case q1 => (first | exact at0 | exact at1 | exact at2 | exact at3 | exact at4 | exact at5 | exact at6))) | refine Ef_y' rfl ⟨_, Yl_minE rfl rfl hj, ?_⟩)
          | ((first | ((with_reducible refine ie_box ?_); (first | refine Ef_boxA rfl rfl ?_ | refine Ef_box1 rfl rfl rfl ?_))); (first | ((fail_if_success have := b1); intro b1) | ((fail_if_success have := b2); intro b2) | ((fail_if_success have := b3); intro b3) | ((fail_if_success have := b4); intro b4) | ((fail_if_success have := b5); intro b5) | ((fail_if_success have := b6); intro b6) | ((fail_if_success have := b7); intro b7) | ((fail_if_success have := b8); intro b8) | ((fail_if_success have := b9); intro b9) | ((fail_if_success have := b10); intro b10) | ((fail_if_success have := b11); intro b11) | ((fail_if_success have := b12); intro b12)))
          | (fail; (first | ((fail_if_success have := A1); intro A1 c1) | ((fail_if_success have := A2); intro A2 c2) | ((fail_if_success have := A3); intro A3 c3) | ((fail_if_success have := A4); intro A4 c4) | ((fail_if_success have := A5); intro A5 c5) | ((fail_if_success have := A6); intro A6 c6) | ((fail_if_success have := A7); intro A7 c7)))
          | refine Ef_y rfl rfl ?_)
      exact ret_n [rI (delI (Pl.keys l) k) z, .blk b (.cells (lC most z (delI (Pl.keys l) k).length r) 47 (0, 0)), mA r (Mp.dele k l)] (res2 rfl rfl rfl) (List.Sublist.cons _ (List.Sublist.refl _)) ⟨rfl, rfl⟩
    · rintro v N ⟨h1, h2⟩
      subst h2
      refine ⟨oL b most z (Mp.dele k l) r, ?_, z, h1, rfl⟩
      unfold oL
      rw [hdk]
      exact List.perm_append_comm (l₁ := [rI (delI (Pl.keys l) k) z]) (l₂ := [.blk b (.cells (lC most z (delI (Pl.keys l) k).length r) 47 (0, 0)), mA r (Mp.dele k l)])
end

section
variable (b : Nat) (most : Int) (r : Nat) (z : Option Addr × Nat) (l : List KV) (k : Int) (w : World) (hb : w.heap[b]? = some (.cells (lC most z (Pl.keys l).length r) 47 (0, 0))) (hrow : Rd w z.1 (Pl.keys l).length 1 ((Pl.keys l).flatMap (eI .i64))) (hcap : (Pl.keys l).length ≤ z.2) (hlen : l.length ≤ 10000)
include hb hrow hcap hlen
def Pl.first (l : List KV) (k : Int) : List Int := (Pl.keys l).take k.toNat
set_option maxHeartbeats 2000000 in
theorem first_c : Sp Try.prog 12 [.pointer (some ⟨b, 0, none⟩), .int .i64 k] w [] fun V N => ∃ z' : Option Addr × Nat, V = .slice z'.1 (Pl.first l k).length z'.2 ∧ N = [rI (Pl.first l k) z'] := by
  have hkl := Pl.keys_len l
  obtain ⟨j, hj, hjl⟩ : ∃ j : Nat, min (max k 0) ((Pl.keys l).length : Int) = (j : Int) ∧ j ≤ (Pl.keys l).length := ⟨min k.toNat (Pl.keys l).length, by omega, by omega⟩
  have hjt : ((Pl.keys l).take j).length = j := by rw [List.length_take]; omega
  have e : Pl.first l k = (Pl.keys l).take j := by
    unfold Pl.first
    rw [show j = min k.toNat (Pl.keys l).length by omega]
    by_cases h : k.toNat ≤ (Pl.keys l).length
    · rw [Nat.min_eq_left h]
    · rw [Nat.min_eq_right (by omega), List.take_of_length_le (by omega), List.take_of_length_le (Nat.le_refl _)]
  rw [e]
  refine Sp.enter (n := 21) Try.func12 rfl rfl rfl (Hp.refl w) ?_
  repeat' (first
      | with_reducible refine T.seq ?_
      | with_reducible refine T.block ?_
      | with_reducible refine T.region ?_
      | with_reducible refine T.skip ?_
      | with_reducible refine T.scope ?_
      | with_reducible refine T.label ?_
      | with_reducible refine scopeQ_n ?_
      | with_reducible refine scopeQ_r ?_
      | with_reducible refine scopeQ_x ?_
      | with_reducible refine T.ret ?_
      | with_reducible refine T.exit ?_
      | with_reducible refine seqQ_n ?_
      | with_reducible refine seqQ_x ?_
      | with_reducible refine seqQ_r ?_
      | with_reducible refine blockQ_n ?_
      | with_reducible refine blockQ_r ?_
      | with_reducible refine blockQ_x ?_
      | ((with_reducible refine g_blkx ?_); refine blockQ_y rfl ?_)
      | with_reducible refine loopQ_x ?_
      | with_reducible refine loopQ_r ?_
      | with_reducible refine joinQ_r ?_
      | with_reducible refine joinQ_x ?_
      | ((with_reducible refine g_cond ?_); (first | refine T.cond_t rfl ?_ | refine T.cond_f rfl ?_ | (refine T.cond_s rfl ?_ ?_ <;> intro hc)))
      | with_reducible refine TL_nil ?_
      | with_reducible refine TS_nil ?_
      | ((with_reducible refine g_draw ?_); (first | ((((refine' T.draw (id := 4) [(0, true), (1, true), (2, true), (3, true), (4, false), (5, false)] [.blk b1 (.cells #[.int .i64 k] 3 (0, 0)), .blk b (.cells (lC most z (delI (Pl.keys l) k).length r) 47 (0, 0))] mixd ?q1 ?q2 ?_); (case q1 => kernel_rfl); (case q2 => (repeat (first | exact List.nil_sublist _ | refine List.Sublist.cons_cons _ ?_ | refine List.Sublist.cons _ ?_)))))) | (((with_reducible refine' T.drawM (id := 3) [(0, true), (1, true), (2, true), (3, true), (4, true), (6, true), (7, true), (8, true), (9, true), (10, true), (5, false), (11, false), (12, false), (13, false), (14, false)] mixd ?q1 ?_); (case q1 => kernel_rfl)))))
      | ((with_reducible refine TL_y' ?hy ?hd ?_); (case hy => rfl); (case hd => rfl))
      | with_reducible refine TL_e ?_
      | ((with_reducible refine g_TL ?_); (first | refine TL_gy' rfl rfl rfl rfl ?_ | refine TL_gn rfl rfl rfl ?_ | refine TL_gu rfl rfl rfl ?_ | refine TL_ge rfl rfl ?_ | refine TL_gn0 rfl rfl ?_))
      | ((with_reducible refine g_TS ?_); (first | refine TS_y rfl rfl ?_ | refine TS_e rfl ?_ | refine TS_gy rfl rfl rfl rfl ?_ | refine TS_gn rfl rfl rfl rfl ?_ | refine TS_gu rfl rfl rfl rfl ?_ | refine TS_ge rfl rfl rfl ?_ | refine TS_gne rfl rfl rfl rfl ?_ | refine TS_gue rfl rfl rfl rfl ?_ | refine TS_gne0 rfl rfl rfl ?_))
      | ((with_reducible refine TSand ?hd ?_); (case hd => (repeat (first | exact List.nil_sublist _ | refine List.Sublist.cons_cons _ ?_ | refine List.Sublist.cons _ ?_))))
      | ((with_reducible refine TBand ?hd ?_); (case hd => (repeat (first | exact List.nil_sublist _ | refine List.Sublist.cons_cons _ ?_ | refine List.Sublist.cons _ ?_))))
      | ((with_reducible refine g_TB ?_); (first | with_reducible refine TB_run ?_ | refine TB_y rfl rfl ?_ | refine TB_b rfl rfl ?_ ?_ | refine TB_e rfl ?_))
      | ((with_reducible refine is_move ?_); refine ⟨_, Yl_move rfl, ?_⟩)
      | ((with_reducible refine is_assign ?_); refine ⟨_, Yl_assign rfl, ?_⟩)
      | ((with_reducible refine is_nil ?_); refine ⟨_, Yl_nilCheck rfl, ?_⟩)
      | ((with_reducible refine is_fld ?_); (first | ((refine' ⟨_, Yl_fld_ad rfl ?q1, ?_⟩); (case q1 => exact fld_of rfl rfl)) | ((refine' ⟨_, Yl_fld_blk0 rfl ?q1, ?_⟩); (case q1 => exact fld_of rfl rfl)) | ((refine' ⟨_, Yl_fld_blk rfl ?q1, ?_⟩); (case q1 => exact fld_of rfl rfl))))
      | ((with_reducible refine is_load ?_); (first
      | ((refine' ⟨_, Yl_load_old rfl ?q1 hb List.not_mem_nil ?q2, ?_⟩); (case q1 => exact one_of rfl); (case q2 => rfl))
      | ((refine' ⟨_, Yl_load_blk rfl ?q1 ?q2 ?q3, ?_⟩); (case q1 => exact one_of rfl); (case q2 => (repeat (first | exact .head _ | apply List.Mem.tail))); (case q3 => rfl))
      | ((refine' ⟨_, Yl_loadA_blk rfl ?q1 ?q2, ?_⟩); (case q1 => (repeat (first | exact .head _ | apply List.Mem.tail))); (case q2 => exact agg_of rfl))
      | ((refine' ⟨_, Yl_load_blk rfl ?q1 ?q2 ?q3, ?_⟩); (case q1 => exact one_of rfl); (case q2 => (repeat (first | exact .head _ | apply List.Mem.tail))); (case q3 => assumption))
      | ((refine' ⟨_, Yl_load_rd rfl ?q1 ?q2 List.not_mem_nil ?q3, ?_⟩); (case q1 => exact one_of rfl); (case q2 => assumption); (case q3 => assumption))
      | ((refine' ⟨_, Yl_load_row rfl ?q1 ?q2 ?q3, ?_⟩); (case q1 => exact one_of rfl); (case q2 => (repeat (first | exact .head _ | apply List.Mem.tail))); (case q3 => assumption))
      | ((refine' ⟨_, Yl_loadA_rd rfl ?qa ?qb List.not_mem_nil ?ql ?qc, ?_⟩); (case qa => exact agg_of rfl); (case qb => assumption); (case qc => assumption); (case ql => rfl))
      | ((refine' ⟨_, Yl_loadA_row rfl ?qa ?qb ?ql ?qc, ?_⟩); (case qa => exact agg_of rfl); (case qb => (repeat (first | exact .head _ | apply List.Mem.tail))); (case qc => assumption); (case ql => rfl))))
      | ((with_reducible refine is_len ?_); (first | ((refine' ⟨_, Yl_len_slice rfl ?q1, ?_⟩); (case q1 => exact und_of rfl)) | ((refine' ⟨_, Yl_len_string rfl ?q1, ?_⟩); (case q1 => exact und_of rfl))))
      | ((with_reducible refine is_slice ?_); (first | ((refine' ⟨_, Yl_sl_l rfl rfl ?q1 ?q2 ?q3, ?_⟩); (case q1 => exact und_of rfl); (case q2 => exact siz_of rfl); (case q3 => omega)) | ((refine' ⟨_, Yl_sl_h rfl rfl ?q1 ?q2 ?q3, ?_⟩); (case q1 => exact und_of rfl); (case q2 => exact siz_of rfl); (case q3 => omega)) | ((refine' ⟨_, Yl_sl_lh rfl rfl rfl ?q1 ?q2 ?q3 ?q4, ?_⟩); (case q1 => exact und_of rfl); (case q2 => exact siz_of rfl); (case q3 => omega); (case q4 => omega)) | ((refine' ⟨_, Yl_sl_hm rfl rfl rfl ?q1 ?q2 ?q3 ?q4, ?_⟩); (case q1 => exact und_of rfl); (case q2 => exact siz_of rfl); (case q3 => omega); (case q4 => omega))))
      | ((with_reducible refine is_min ?_); refine ⟨_, Yl_min rfl rfl, ?_⟩)
      | ((with_reducible refine is_max ?_); refine ⟨_, Yl_max rfl rfl, ?_⟩)
      | ((with_reducible refine ie_callf ?_); (first    | ((with_reducible refine g_call 23 ?_); (first | refine Ef_callP rfl rfl ent_23 (fun w hp => none_f b most r z (Pl.keys l).length w (hp.blk_old hb List.not_mem_nil)) ?_ | refine Ef_callP rfl rfl ent_23 (fun w _ => none_t w) ?_)) | ((with_reducible refine g_call 26 ?_); (first | (((refine' Ef_callN rfl rfl ent_26 (fun w hp => clone_c z.1 j z.2 ((Pl.keys l).take j) w ((hp.rd hrow fun _ => List.not_mem_nil).upto (eI_len .i64) hjl) hjt ?q1) ?_); (case q1 => omega)); rintro ⟨A1, c1⟩)))))
      | (first | ((refine' Ef_mapUpdate rfl rfl rfl Try.underlying45 Try.underlying3 ?q1 ?_); (case q1 => (first | exact at0 | exact at1 | exact at2 | exact at3 | exact at4 | exact at5 | exact at6))) | ((refine' Ef_delete rfl rfl Try.underlying45 Try.underlying3 ?q1 ?_); (case q1 => (first | exact at0 | exact at1 | exact at2 | exact at3 | exact at4 | exact at5 | exact at6))) | refine Ef_y' rfl ⟨_, Yl_minE rfl rfl hj, ?_⟩)
      | (fail; (first | ((fail_if_success have := b1); intro b1) | ((fail_if_success have := b2); intro b2) | ((fail_if_success have := b3); intro b3) | ((fail_if_success have := b4); intro b4) | ((fail_if_success have := b5); intro b5) | ((fail_if_success have := b6); intro b6) | ((fail_if_success have := b7); intro b7) | ((fail_if_success have := b8); intro b8) | ((fail_if_success have := b9); intro b9) | ((fail_if_success have := b10); intro b10) | ((fail_if_success have := b11); intro b11) | ((fail_if_success have := b12); intro b12)))
      | (fail; (first | ((fail_if_success have := A1); intro A1 c1) | ((fail_if_success have := A2); intro A2 c2) | ((fail_if_success have := A3); intro A3 c3) | ((fail_if_success have := A4); intro A4 c4) | ((fail_if_success have := A5); intro A5 c5) | ((fail_if_success have := A6); intro A6 c6) | ((fail_if_success have := A7); intro A7 c7)))
      | refine Ef_y rfl rfl ?_
      | ((with_reducible refine ie_bmin ?_); refine Ef_y' rfl ?_)
      | ((with_reducible refine ie_bmax ?_); refine Ef_y' rfl ?_))
  exact ret_n [rI ((Pl.keys l).take j) (A1, c1)] (res1 rfl rfl) (List.Sublist.refl _) ⟨(A1, c1), rfl, rfl⟩
end
section
variable (k : Int) (w : World)
theorem put_n (v : ByteArray) : Sp Try.prog 11 [.pointer none, .int .i64 k, .string v] w [] fun V N => V = .bool false ∧ N = [] := by
  refine Sp.enter (n := 35) Try.func11 rfl rfl rfl (Hp.refl w) ?_
  repeat' (first
      | with_reducible refine T.seq ?_
      | with_reducible refine T.block ?_
      | with_reducible refine T.region ?_
      | with_reducible refine T.skip ?_
      | with_reducible refine T.scope ?_
      | with_reducible refine T.label ?_
      | with_reducible refine scopeQ_n ?_
      | with_reducible refine scopeQ_r ?_
      | with_reducible refine scopeQ_x ?_
      | with_reducible refine T.ret ?_
      | with_reducible refine T.exit ?_
      | with_reducible refine seqQ_n ?_
      | with_reducible refine seqQ_x ?_
      | with_reducible refine seqQ_r ?_
      | with_reducible refine blockQ_n ?_
      | with_reducible refine blockQ_r ?_
      | with_reducible refine blockQ_x ?_
      | ((with_reducible refine g_blkx ?_); refine blockQ_y rfl ?_)
      | with_reducible refine loopQ_x ?_
      | with_reducible refine loopQ_r ?_
      | with_reducible refine joinQ_r ?_
      | with_reducible refine joinQ_x ?_
      | ((with_reducible refine g_cond ?_); (first | refine T.cond_t rfl ?_ | refine T.cond_f rfl ?_ | (refine T.cond_s rfl ?_ ?_ <;> intro hc)))
      | with_reducible refine TL_nil ?_
      | with_reducible refine TS_nil ?_
      | ((with_reducible refine g_draw ?_); (first | ((((refine' T.draw (id := 4) [(0, true), (1, true), (2, true), (3, true), (4, false), (5, false)] [.blk b1 (.cells #[.int .i64 k] 3 (0, 0)), .blk b (.cells (lC most z (delI (Pl.keys l) k).length r) 47 (0, 0))] mixd ?q1 ?q2 ?_); (case q1 => kernel_rfl); (case q2 => (repeat (first | exact List.nil_sublist _ | refine List.Sublist.cons_cons _ ?_ | refine List.Sublist.cons _ ?_))))))))
      | ((with_reducible refine TL_y' ?hy ?hd ?_); (case hy => rfl); (case hd => rfl))
      | with_reducible refine TL_e ?_
      | ((with_reducible refine g_TL ?_); (first | refine TL_gy' rfl rfl rfl rfl ?_ | refine TL_gn rfl rfl rfl ?_ | refine TL_gu rfl rfl rfl ?_ | refine TL_ge rfl rfl ?_ | refine TL_gn0 rfl rfl ?_))
      | ((with_reducible refine g_TS ?_); (first | refine TS_y rfl rfl ?_ | refine TS_e rfl ?_ | refine TS_gy rfl rfl rfl rfl ?_ | refine TS_gn rfl rfl rfl rfl ?_ | refine TS_gu rfl rfl rfl rfl ?_ | refine TS_ge rfl rfl rfl ?_ | refine TS_gne rfl rfl rfl rfl ?_ | refine TS_gue rfl rfl rfl rfl ?_ | refine TS_gne0 rfl rfl rfl ?_))
      | ((with_reducible refine TSand ?hd ?_); (case hd => (repeat (first | exact List.nil_sublist _ | refine List.Sublist.cons_cons _ ?_ | refine List.Sublist.cons _ ?_))))
      | ((with_reducible refine TBand ?hd ?_); (case hd => (repeat (first | exact List.nil_sublist _ | refine List.Sublist.cons_cons _ ?_ | refine List.Sublist.cons _ ?_))))
      | ((with_reducible refine g_TB ?_); (first | with_reducible refine TB_run ?_ | refine TB_y rfl rfl ?_ | refine TB_b rfl rfl ?_ ?_ | refine TB_e rfl ?_))
      | ((with_reducible refine is_move ?_); refine ⟨_, Yl_move rfl, ?_⟩)
      | ((with_reducible refine is_assign ?_); refine ⟨_, Yl_assign rfl, ?_⟩)
      | ((with_reducible refine is_nil ?_); refine ⟨_, Yl_nilCheck rfl, ?_⟩)
      | ((with_reducible refine is_fld ?_); (first | ((refine' ⟨_, Yl_fld_ad rfl ?q1, ?_⟩); (case q1 => exact fld_of rfl rfl)) | ((refine' ⟨_, Yl_fld_blk0 rfl ?q1, ?_⟩); (case q1 => exact fld_of rfl rfl)) | ((refine' ⟨_, Yl_fld_blk rfl ?q1, ?_⟩); (case q1 => exact fld_of rfl rfl))))
      | ((with_reducible refine is_load ?_); (first
      | ((refine' ⟨_, Yl_load_old rfl ?q1 hb List.not_mem_nil ?q2, ?_⟩); (case q1 => exact one_of rfl); (case q2 => rfl))
      | ((refine' ⟨_, Yl_load_blk rfl ?q1 ?q2 ?q3, ?_⟩); (case q1 => exact one_of rfl); (case q2 => (repeat (first | exact .head _ | apply List.Mem.tail))); (case q3 => rfl))
      | ((refine' ⟨_, Yl_loadA_blk rfl ?q1 ?q2, ?_⟩); (case q1 => (repeat (first | exact .head _ | apply List.Mem.tail))); (case q2 => exact agg_of rfl))
      | ((refine' ⟨_, Yl_load_blk rfl ?q1 ?q2 ?q3, ?_⟩); (case q1 => exact one_of rfl); (case q2 => (repeat (first | exact .head _ | apply List.Mem.tail))); (case q3 => assumption))
      | ((refine' ⟨_, Yl_load_rd rfl ?q1 ?q2 List.not_mem_nil ?q3, ?_⟩); (case q1 => exact one_of rfl); (case q2 => assumption); (case q3 => assumption))
      | ((refine' ⟨_, Yl_load_row rfl ?q1 ?q2 ?q3, ?_⟩); (case q1 => exact one_of rfl); (case q2 => (repeat (first | exact .head _ | apply List.Mem.tail))); (case q3 => assumption))
      | ((refine' ⟨_, Yl_loadA_rd rfl ?qa ?qb List.not_mem_nil ?ql ?qc, ?_⟩); (case qa => exact agg_of rfl); (case qb => assumption); (case qc => assumption); (case ql => rfl))
      | ((refine' ⟨_, Yl_loadA_row rfl ?qa ?qb ?ql ?qc, ?_⟩); (case qa => exact agg_of rfl); (case qb => (repeat (first | exact .head _ | apply List.Mem.tail))); (case qc => assumption); (case ql => rfl))))
      | ((with_reducible refine is_ext ?_); refine ⟨_, Yl_extract rfl rfl, ?_⟩)
      | ((with_reducible refine is_un ?_); refine ⟨_, Yl_not rfl, ?_⟩)
      | ((with_reducible refine ie_store ?_); (first
      | ((refine' Ef_store_row1 rfl rfl ?q1 ?q2 ?q3 ?q4 ?q5 ?_); (case q1 => rfl); (case q2 => exact siz_of rfl); (case q3 => (first | exact at0 | exact at1 | exact at2 | exact at3 | exact at4 | exact at5 | exact at6)); (case q4 => omega); (case q5 => assumption))
      | ((refine' Ef_store_rowA rfl rfl ?q1 ?q2 ?q3 ?q4 ?q5 ?q6 ?_); (case q1 => exact siz_of rfl); (case q2 => rfl); (case q3 => (first | assumption | (intro u hu; rcases hu with _ | ⟨_, _ | ⟨_, _ | ⟨_, _ | ⟨_, hu⟩⟩⟩⟩ <;> first | rfl | (cases hu; done)))); (case q4 => (first | exact at0 | exact at1 | exact at2 | exact at3 | exact at4 | exact at5 | exact at6)); (case q5 => omega); (case q6 => assumption))
      | ((refine' Ef_storeA' rfl rfl ?q1 ?q2 ?q3 ?q4 ?_); (case q1 => exact siz_of rfl); (case q2 => (first | assumption | (intro u hu; rcases hu with _ | ⟨_, _ | ⟨_, _ | ⟨_, _ | ⟨_, hu⟩⟩⟩⟩ <;> first | rfl | (cases hu; done)))); (case q3 => (first | exact at0 | exact at1 | exact at2 | exact at3 | exact at4 | exact at5 | exact at6)); (case q4 => rfl))
      | ((refine' Ef_storeC rfl rfl ?q1 ?q2 ?q3 ?q4 ?q5 ?_); (case q1 => rfl); (case q2 => exact siz_of rfl); (case q3 => (first | exact at0 | exact at1 | exact at2 | exact at3 | exact at4 | exact at5 | exact at6)); (case q4 => exact Nat.le_of_ble_eq_true rfl); (case q5 => rfl))))
      | ((with_reducible refine ie_callf ?_); (first | ((with_reducible refine g_call 9 ?_); (first | ((refine' Ef_callP rfl rfl ent_9 (fun w hp => hg w (hp.blkOf ?q1) (hp.mapOf ?q2)) ?_); (case q1 => (repeat (first | exact .head _ | apply List.Mem.tail))); (case q2 => (repeat (first | exact .head _ | apply List.Mem.tail)))) | refine Ef_callP rfl rfl ent_9 (fun w _ => get_n w k) ?_)) | ((with_reducible refine g_call 14 ?_); (first | ((refine' Ef_callP rfl rfl ent_14 (fun w hp => hfu w (hp.blkOf ?q1)) ?_); (case q1 => (repeat (first | exact .head _ | apply List.Mem.tail)))) | refine Ef_callP rfl rfl ent_14 (fun w _ => full_n w) ?_))))
      | (first | ((refine' Ef_mapUpdate rfl rfl rfl Try.underlying45 Try.underlying3 ?q1 ?_); (case q1 => (first | exact at0 | exact at1 | exact at2 | exact at3 | exact at4 | exact at5 | exact at6))) | ((refine' Ef_delete rfl rfl Try.underlying45 Try.underlying3 ?q1 ?_); (case q1 => (first | exact at0 | exact at1 | exact at2 | exact at3 | exact at4 | exact at5 | exact at6))) | refine Ef_y' rfl ⟨_, Yl_minE rfl rfl hj, ?_⟩)
      | ((first   | ((with_reducible refine ie_bsl ?_); (first | ((refine' Ef_bsl0 rfl ?q1 ?_); (case q1 => exact app_of rfl)) | ((refine' Ef_bslA rfl rfl ?q1 ?q2 ?q3 ?_); (case q1 => exact app_of rfl); (case q2 => rfl); (case q3 => decide)) | ((refine' Ef_bsl1 rfl rfl rfl ?q1 ?_); (case q1 => exact app_of rfl))))); (first | ((fail_if_success have := b1); intro b1) | ((fail_if_success have := b2); intro b2) | ((fail_if_success have := b3); intro b3) | ((fail_if_success have := b4); intro b4) | ((fail_if_success have := b5); intro b5) | ((fail_if_success have := b6); intro b6) | ((fail_if_success have := b7); intro b7) | ((fail_if_success have := b8); intro b8) | ((fail_if_success have := b9); intro b9) | ((fail_if_success have := b10); intro b10) | ((fail_if_success have := b11); intro b11) | ((fail_if_success have := b12); intro b12)))
      | (((with_reducible refine ie_app ?_); (first
      | ((refine' Ef_app0_rd rfl rfl rfl ?q1 ?q2 ?q3 ?q4 ?q5 ?q6 ?q7 ?_); (case q1 => exact app_of rfl); (case q2 => (first | exact at0 | exact at1 | exact at2 | exact at3 | exact at4 | exact at5 | exact at6)); (case q3 => assumption); (case q4 => (first | assumption | (intro u hu; rcases hu with _ | ⟨_, _ | ⟨_, _ | ⟨_, _ | ⟨_, hu⟩⟩⟩⟩ <;> first | rfl | (cases hu; done)))); (case q5 => omega); (case q6 => omega); (case q7 => exact List.not_mem_nil))
      | ((refine' Ef_appG_row rfl rfl rfl ?q1 ?q2 ?q3 ?q4 ?q5 ?q6 ?_); (case q1 => exact app_of rfl); (case q2 => (first | exact at0 | exact at1 | exact at2 | exact at3 | exact at4 | exact at5 | exact at6)); (case q3 => (repeat (first | exact .head _ | apply List.Mem.tail))); (case q4 => (first | assumption | (intro u hu; rcases hu with _ | ⟨_, _ | ⟨_, _ | ⟨_, _ | ⟨_, hu⟩⟩⟩⟩ <;> first | rfl | (cases hu; done)))); (case q5 => omega); (case q6 => omega))
      | ((refine' Ef_appG_rd rfl rfl rfl ?q1 ?q2 ?q3 ?q4 ?q5 ?q6 ?q7 ?_); (case q1 => exact app_of rfl); (case q2 => (first | exact at0 | exact at1 | exact at2 | exact at3 | exact at4 | exact at5 | exact at6)); (case q3 => assumption); (case q4 => (first | assumption | (intro u hu; rcases hu with _ | ⟨_, _ | ⟨_, _ | ⟨_, _ | ⟨_, hu⟩⟩⟩⟩ <;> first | rfl | (cases hu; done)))); (case q5 => omega); (case q6 => omega); (case q7 => exact List.not_mem_nil)))); (first | ((fail_if_success have := A1); intro A1 c1) | ((fail_if_success have := A2); intro A2 c2) | ((fail_if_success have := A3); intro A3 c3) | ((fail_if_success have := A4); intro A4 c4) | ((fail_if_success have := A5); intro A5 c5) | ((fail_if_success have := A6); intro A6 c6) | ((fail_if_success have := A7); intro A7 c7)))
      | refine Ef_y rfl rfl ?_)
  exact ret_n [] (res1 rfl rfl) (List.nil_sublist _) ⟨rfl, rfl⟩
theorem take_n : Sp Try.prog 10 [.pointer none, .int .i64 k] w [] fun V N => V = .tuple #[.string ByteArray.empty, .bool false] ∧ N = [] := by
  refine Sp.enter (n := 31) Try.func10 rfl rfl rfl (Hp.refl w) ?_
  repeat' (first
      | with_reducible refine T.seq ?_
      | with_reducible refine T.block ?_
      | with_reducible refine T.region ?_
      | with_reducible refine T.skip ?_
      | with_reducible refine T.scope ?_
      | with_reducible refine T.label ?_
      | with_reducible refine scopeQ_n ?_
      | with_reducible refine scopeQ_r ?_
      | with_reducible refine scopeQ_x ?_
      | with_reducible refine T.ret ?_
      | with_reducible refine T.exit ?_
      | with_reducible refine seqQ_n ?_
      | with_reducible refine seqQ_x ?_
      | with_reducible refine seqQ_r ?_
      | with_reducible refine blockQ_n ?_
      | with_reducible refine blockQ_r ?_
      | with_reducible refine blockQ_x ?_
      | ((with_reducible refine g_blkx ?_); refine blockQ_y rfl ?_)
      | with_reducible refine loopQ_x ?_
      | with_reducible refine loopQ_r ?_
      | with_reducible refine joinQ_r ?_
      | with_reducible refine joinQ_x ?_
      | ((with_reducible refine g_cond ?_); (first | refine T.cond_t rfl ?_ | refine T.cond_f rfl ?_ | (refine T.cond_s rfl ?_ ?_ <;> intro hc)))
      | with_reducible refine TL_nil ?_
      | with_reducible refine TS_nil ?_
      | ((with_reducible refine g_draw ?_); (first | ((((refine' T.draw (id := 4) [(0, true), (1, true), (2, true), (3, true), (4, false), (5, false)] [.blk b1 (.cells #[.int .i64 k] 3 (0, 0)), .blk b (.cells (lC most z (delI (Pl.keys l) k).length r) 47 (0, 0))] mixd ?q1 ?q2 ?_); (case q1 => kernel_rfl); (case q2 => (repeat (first | exact List.nil_sublist _ | refine List.Sublist.cons_cons _ ?_ | refine List.Sublist.cons _ ?_))))))))
      | ((with_reducible refine TL_y' ?hy ?hd ?_); (case hy => rfl); (case hd => rfl))
      | with_reducible refine TL_e ?_
      | ((with_reducible refine g_TL ?_); (first | refine TL_gy' rfl rfl rfl rfl ?_ | refine TL_gn rfl rfl rfl ?_ | refine TL_gu rfl rfl rfl ?_ | refine TL_ge rfl rfl ?_ | refine TL_gn0 rfl rfl ?_))
      | ((with_reducible refine g_TS ?_); (first | refine TS_y rfl rfl ?_ | refine TS_e rfl ?_ | refine TS_gy rfl rfl rfl rfl ?_ | refine TS_gn rfl rfl rfl rfl ?_ | refine TS_gu rfl rfl rfl rfl ?_ | refine TS_ge rfl rfl rfl ?_ | refine TS_gne rfl rfl rfl rfl ?_ | refine TS_gue rfl rfl rfl rfl ?_ | refine TS_gne0 rfl rfl rfl ?_))
      | ((with_reducible refine TSand ?hd ?_); (case hd => (repeat (first | exact List.nil_sublist _ | refine List.Sublist.cons_cons _ ?_ | refine List.Sublist.cons _ ?_))))
      | ((with_reducible refine TBand ?hd ?_); (case hd => (repeat (first | exact List.nil_sublist _ | refine List.Sublist.cons_cons _ ?_ | refine List.Sublist.cons _ ?_))))
      | ((with_reducible refine g_TB ?_); (first | with_reducible refine TB_run ?_ | refine TB_y rfl rfl ?_ | refine TB_b rfl rfl ?_ ?_ | refine TB_e rfl ?_))
      | ((with_reducible refine is_move ?_); refine ⟨_, Yl_move rfl, ?_⟩)
      | ((with_reducible refine is_assign ?_); refine ⟨_, Yl_assign rfl, ?_⟩)
      | ((with_reducible refine is_nil ?_); refine ⟨_, Yl_nilCheck rfl, ?_⟩)
      | ((with_reducible refine is_fld ?_); (first | ((refine' ⟨_, Yl_fld_ad rfl ?q1, ?_⟩); (case q1 => exact fld_of rfl rfl)) | ((refine' ⟨_, Yl_fld_blk0 rfl ?q1, ?_⟩); (case q1 => exact fld_of rfl rfl)) | ((refine' ⟨_, Yl_fld_blk rfl ?q1, ?_⟩); (case q1 => exact fld_of rfl rfl))))
      | ((with_reducible refine is_load ?_); (first
      | ((refine' ⟨_, Yl_load_old rfl ?q1 hb List.not_mem_nil ?q2, ?_⟩); (case q1 => exact one_of rfl); (case q2 => rfl))
      | ((refine' ⟨_, Yl_load_blk rfl ?q1 ?q2 ?q3, ?_⟩); (case q1 => exact one_of rfl); (case q2 => (repeat (first | exact .head _ | apply List.Mem.tail))); (case q3 => rfl))
      | ((refine' ⟨_, Yl_loadA_blk rfl ?q1 ?q2, ?_⟩); (case q1 => (repeat (first | exact .head _ | apply List.Mem.tail))); (case q2 => exact agg_of rfl))
      | ((refine' ⟨_, Yl_load_blk rfl ?q1 ?q2 ?q3, ?_⟩); (case q1 => exact one_of rfl); (case q2 => (repeat (first | exact .head _ | apply List.Mem.tail))); (case q3 => assumption))
      | ((refine' ⟨_, Yl_load_rd rfl ?q1 ?q2 List.not_mem_nil ?q3, ?_⟩); (case q1 => exact one_of rfl); (case q2 => assumption); (case q3 => assumption))
      | ((refine' ⟨_, Yl_load_row rfl ?q1 ?q2 ?q3, ?_⟩); (case q1 => exact one_of rfl); (case q2 => (repeat (first | exact .head _ | apply List.Mem.tail))); (case q3 => assumption))
      | ((refine' ⟨_, Yl_loadA_rd rfl ?qa ?qb List.not_mem_nil ?ql ?qc, ?_⟩); (case qa => exact agg_of rfl); (case qb => assumption); (case qc => assumption); (case ql => rfl))
      | ((refine' ⟨_, Yl_loadA_row rfl ?qa ?qb ?ql ?qc, ?_⟩); (case qa => exact agg_of rfl); (case qb => (repeat (first | exact .head _ | apply List.Mem.tail))); (case qc => assumption); (case ql => rfl))))
      | ((with_reducible refine is_ext ?_); refine ⟨_, Yl_extract rfl rfl, ?_⟩)
      | ((with_reducible refine is_mkf ?_); refine ⟨_, Yl_mkf rfl, ?_⟩)
      | ((with_reducible refine ie_store ?_); (first
      | ((refine' Ef_store_row1 rfl rfl ?q1 ?q2 ?q3 ?q4 ?q5 ?_); (case q1 => rfl); (case q2 => exact siz_of rfl); (case q3 => (first | exact at0 | exact at1 | exact at2 | exact at3 | exact at4 | exact at5 | exact at6)); (case q4 => omega); (case q5 => assumption))
      | ((refine' Ef_store_rowA rfl rfl ?q1 ?q2 ?q3 ?q4 ?q5 ?q6 ?_); (case q1 => exact siz_of rfl); (case q2 => rfl); (case q3 => (first | assumption | (intro u hu; rcases hu with _ | ⟨_, _ | ⟨_, _ | ⟨_, _ | ⟨_, hu⟩⟩⟩⟩ <;> first | rfl | (cases hu; done)))); (case q4 => (first | exact at0 | exact at1 | exact at2 | exact at3 | exact at4 | exact at5 | exact at6)); (case q5 => omega); (case q6 => assumption))
      | ((refine' Ef_storeA' rfl rfl ?q1 ?q2 ?q3 ?q4 ?_); (case q1 => exact siz_of rfl); (case q2 => (first | assumption | (intro u hu; rcases hu with _ | ⟨_, _ | ⟨_, _ | ⟨_, _ | ⟨_, hu⟩⟩⟩⟩ <;> first | rfl | (cases hu; done)))); (case q3 => (first | exact at0 | exact at1 | exact at2 | exact at3 | exact at4 | exact at5 | exact at6)); (case q4 => rfl))
      | ((refine' Ef_storeC rfl rfl ?q1 ?q2 ?q3 ?q4 ?q5 ?_); (case q1 => rfl); (case q2 => exact siz_of rfl); (case q3 => (first | exact at0 | exact at1 | exact at2 | exact at3 | exact at4 | exact at5 | exact at6)); (case q4 => exact Nat.le_of_ble_eq_true rfl); (case q5 => rfl))))
      | ((with_reducible refine ie_callf ?_); (first | ((with_reducible refine g_call 9 ?_); (first | ((refine' Ef_callP rfl rfl ent_9 (fun w hp => hg w (hp.blkOf ?q1) (hp.mapOf ?q2)) ?_); (case q1 => (repeat (first | exact .head _ | apply List.Mem.tail))); (case q2 => (repeat (first | exact .head _ | apply List.Mem.tail)))) | refine Ef_callP rfl rfl ent_9 (fun w _ => get_n w k) ?_))  | ((with_reducible refine g_call 24 ?_); (first | refine Ef_callT [true, false, false, true] rfl rfl ent_24 rfl rfl rfl (fun w hp => delf_c z.1 z.2 (Pl.keys l) b1 k w _ hkl hp) ?_))))
      | (first | ((refine' Ef_mapUpdate rfl rfl rfl Try.underlying45 Try.underlying3 ?q1 ?_); (case q1 => (first | exact at0 | exact at1 | exact at2 | exact at3 | exact at4 | exact at5 | exact at6))) | ((refine' Ef_delete rfl rfl Try.underlying45 Try.underlying3 ?q1 ?_); (case q1 => (first | exact at0 | exact at1 | exact at2 | exact at3 | exact at4 | exact at5 | exact at6))) | refine Ef_y' rfl ⟨_, Yl_minE rfl rfl hj, ?_⟩)
      | ((first | ((with_reducible refine ie_box ?_); (first | refine Ef_boxA rfl rfl ?_ | refine Ef_box1 rfl rfl rfl ?_))); (first | ((fail_if_success have := b1); intro b1) | ((fail_if_success have := b2); intro b2) | ((fail_if_success have := b3); intro b3) | ((fail_if_success have := b4); intro b4) | ((fail_if_success have := b5); intro b5) | ((fail_if_success have := b6); intro b6) | ((fail_if_success have := b7); intro b7) | ((fail_if_success have := b8); intro b8) | ((fail_if_success have := b9); intro b9) | ((fail_if_success have := b10); intro b10) | ((fail_if_success have := b11); intro b11) | ((fail_if_success have := b12); intro b12)))
      | (fail; (first | ((fail_if_success have := A1); intro A1 c1) | ((fail_if_success have := A2); intro A2 c2) | ((fail_if_success have := A3); intro A3 c3) | ((fail_if_success have := A4); intro A4 c4) | ((fail_if_success have := A5); intro A5 c5) | ((fail_if_success have := A6); intro A6 c6) | ((fail_if_success have := A7); intro A7 c7)))
      | refine Ef_y rfl rfl ?_)
  exact ret_n [] (res2 rfl rfl rfl) (List.nil_sublist _) ⟨rfl, rfl⟩
theorem first_n : Sp Try.prog 12 [.pointer none, .int .i64 k] w [] fun V N => V = .slice none 0 0 ∧ N = [] := by
  refine Sp.enter (n := 21) Try.func12 rfl rfl rfl (Hp.refl w) ?_
  repeat' (first
      | with_reducible refine T.seq ?_
      | with_reducible refine T.block ?_
      | with_reducible refine T.region ?_
      | with_reducible refine T.skip ?_
      | with_reducible refine T.scope ?_
      | with_reducible refine T.label ?_
      | with_reducible refine scopeQ_n ?_
      | with_reducible refine scopeQ_r ?_
      | with_reducible refine scopeQ_x ?_
      | with_reducible refine T.ret ?_
      | with_reducible refine T.exit ?_
      | with_reducible refine seqQ_n ?_
      | with_reducible refine seqQ_x ?_
      | with_reducible refine seqQ_r ?_
      | with_reducible refine blockQ_n ?_
      | with_reducible refine blockQ_r ?_
      | with_reducible refine blockQ_x ?_
      | ((with_reducible refine g_blkx ?_); refine blockQ_y rfl ?_)
      | with_reducible refine loopQ_x ?_
      | with_reducible refine loopQ_r ?_
      | with_reducible refine joinQ_r ?_
      | with_reducible refine joinQ_x ?_
      | ((with_reducible refine g_cond ?_); (first | refine T.cond_t rfl ?_ | refine T.cond_f rfl ?_ | (refine T.cond_s rfl ?_ ?_ <;> intro hc)))
      | with_reducible refine TL_nil ?_
      | with_reducible refine TS_nil ?_
      | ((with_reducible refine g_draw ?_); (first | ((((refine' T.draw (id := 4) [(0, true), (1, true), (2, true), (3, true), (4, false), (5, false)] [.blk b1 (.cells #[.int .i64 k] 3 (0, 0)), .blk b (.cells (lC most z (delI (Pl.keys l) k).length r) 47 (0, 0))] mixd ?q1 ?q2 ?_); (case q1 => kernel_rfl); (case q2 => (repeat (first | exact List.nil_sublist _ | refine List.Sublist.cons_cons _ ?_ | refine List.Sublist.cons _ ?_)))))) | (((with_reducible refine' T.drawM (id := 3) [(0, true), (1, true), (2, true), (3, true), (4, true), (6, true), (7, true), (8, true), (9, true), (10, true), (5, false), (11, false), (12, false), (13, false), (14, false)] mixd ?q1 ?_); (case q1 => kernel_rfl)))))
      | ((with_reducible refine TL_y' ?hy ?hd ?_); (case hy => rfl); (case hd => rfl))
      | with_reducible refine TL_e ?_
      | ((with_reducible refine g_TL ?_); (first | refine TL_gy' rfl rfl rfl rfl ?_ | refine TL_gn rfl rfl rfl ?_ | refine TL_gu rfl rfl rfl ?_ | refine TL_ge rfl rfl ?_ | refine TL_gn0 rfl rfl ?_))
      | ((with_reducible refine g_TS ?_); (first | refine TS_y rfl rfl ?_ | refine TS_e rfl ?_ | refine TS_gy rfl rfl rfl rfl ?_ | refine TS_gn rfl rfl rfl rfl ?_ | refine TS_gu rfl rfl rfl rfl ?_ | refine TS_ge rfl rfl rfl ?_ | refine TS_gne rfl rfl rfl rfl ?_ | refine TS_gue rfl rfl rfl rfl ?_ | refine TS_gne0 rfl rfl rfl ?_))
      | ((with_reducible refine TSand ?hd ?_); (case hd => (repeat (first | exact List.nil_sublist _ | refine List.Sublist.cons_cons _ ?_ | refine List.Sublist.cons _ ?_))))
      | ((with_reducible refine TBand ?hd ?_); (case hd => (repeat (first | exact List.nil_sublist _ | refine List.Sublist.cons_cons _ ?_ | refine List.Sublist.cons _ ?_))))
      | ((with_reducible refine g_TB ?_); (first | with_reducible refine TB_run ?_ | refine TB_y rfl rfl ?_ | refine TB_b rfl rfl ?_ ?_ | refine TB_e rfl ?_))
      | ((with_reducible refine is_move ?_); refine ⟨_, Yl_move rfl, ?_⟩)
      | ((with_reducible refine is_assign ?_); refine ⟨_, Yl_assign rfl, ?_⟩)
      | ((with_reducible refine is_nil ?_); refine ⟨_, Yl_nilCheck rfl, ?_⟩)
      | ((with_reducible refine is_fld ?_); (first | ((refine' ⟨_, Yl_fld_ad rfl ?q1, ?_⟩); (case q1 => exact fld_of rfl rfl)) | ((refine' ⟨_, Yl_fld_blk0 rfl ?q1, ?_⟩); (case q1 => exact fld_of rfl rfl)) | ((refine' ⟨_, Yl_fld_blk rfl ?q1, ?_⟩); (case q1 => exact fld_of rfl rfl))))
      | ((with_reducible refine is_load ?_); (first
      | ((refine' ⟨_, Yl_load_old rfl ?q1 hb List.not_mem_nil ?q2, ?_⟩); (case q1 => exact one_of rfl); (case q2 => rfl))
      | ((refine' ⟨_, Yl_load_blk rfl ?q1 ?q2 ?q3, ?_⟩); (case q1 => exact one_of rfl); (case q2 => (repeat (first | exact .head _ | apply List.Mem.tail))); (case q3 => rfl))
      | ((refine' ⟨_, Yl_loadA_blk rfl ?q1 ?q2, ?_⟩); (case q1 => (repeat (first | exact .head _ | apply List.Mem.tail))); (case q2 => exact agg_of rfl))
      | ((refine' ⟨_, Yl_load_blk rfl ?q1 ?q2 ?q3, ?_⟩); (case q1 => exact one_of rfl); (case q2 => (repeat (first | exact .head _ | apply List.Mem.tail))); (case q3 => assumption))
      | ((refine' ⟨_, Yl_load_rd rfl ?q1 ?q2 List.not_mem_nil ?q3, ?_⟩); (case q1 => exact one_of rfl); (case q2 => assumption); (case q3 => assumption))
      | ((refine' ⟨_, Yl_load_row rfl ?q1 ?q2 ?q3, ?_⟩); (case q1 => exact one_of rfl); (case q2 => (repeat (first | exact .head _ | apply List.Mem.tail))); (case q3 => assumption))
      | ((refine' ⟨_, Yl_loadA_rd rfl ?qa ?qb List.not_mem_nil ?ql ?qc, ?_⟩); (case qa => exact agg_of rfl); (case qb => assumption); (case qc => assumption); (case ql => rfl))
      | ((refine' ⟨_, Yl_loadA_row rfl ?qa ?qb ?ql ?qc, ?_⟩); (case qa => exact agg_of rfl); (case qb => (repeat (first | exact .head _ | apply List.Mem.tail))); (case qc => assumption); (case ql => rfl))))
      | ((with_reducible refine is_len ?_); (first | ((refine' ⟨_, Yl_len_slice rfl ?q1, ?_⟩); (case q1 => exact und_of rfl)) | ((refine' ⟨_, Yl_len_string rfl ?q1, ?_⟩); (case q1 => exact und_of rfl))))
      | ((with_reducible refine is_slice ?_); (first | ((refine' ⟨_, Yl_sl_l rfl rfl ?q1 ?q2 ?q3, ?_⟩); (case q1 => exact und_of rfl); (case q2 => exact siz_of rfl); (case q3 => omega)) | ((refine' ⟨_, Yl_sl_h rfl rfl ?q1 ?q2 ?q3, ?_⟩); (case q1 => exact und_of rfl); (case q2 => exact siz_of rfl); (case q3 => omega)) | ((refine' ⟨_, Yl_sl_lh rfl rfl rfl ?q1 ?q2 ?q3 ?q4, ?_⟩); (case q1 => exact und_of rfl); (case q2 => exact siz_of rfl); (case q3 => omega); (case q4 => omega)) | ((refine' ⟨_, Yl_sl_hm rfl rfl rfl ?q1 ?q2 ?q3 ?q4, ?_⟩); (case q1 => exact und_of rfl); (case q2 => exact siz_of rfl); (case q3 => omega); (case q4 => omega))))
      | ((with_reducible refine is_min ?_); refine ⟨_, Yl_min rfl rfl, ?_⟩)
      | ((with_reducible refine is_max ?_); refine ⟨_, Yl_max rfl rfl, ?_⟩)
      | ((with_reducible refine ie_callf ?_); (first    | ((with_reducible refine g_call 23 ?_); (first | refine Ef_callP rfl rfl ent_23 (fun w hp => none_f b most r z (Pl.keys l).length w (hp.blk_old hb List.not_mem_nil)) ?_ | refine Ef_callP rfl rfl ent_23 (fun w _ => none_t w) ?_)) | ((with_reducible refine g_call 26 ?_); (first | (((refine' Ef_callN rfl rfl ent_26 (fun w hp => clone_c z.1 j z.2 ((Pl.keys l).take j) w ((hp.rd hrow fun _ => List.not_mem_nil).upto (eI_len .i64) hjl) hjt ?q1) ?_); (case q1 => omega)); rintro ⟨A1, c1⟩)))))
      | (first | ((refine' Ef_mapUpdate rfl rfl rfl Try.underlying45 Try.underlying3 ?q1 ?_); (case q1 => (first | exact at0 | exact at1 | exact at2 | exact at3 | exact at4 | exact at5 | exact at6))) | ((refine' Ef_delete rfl rfl Try.underlying45 Try.underlying3 ?q1 ?_); (case q1 => (first | exact at0 | exact at1 | exact at2 | exact at3 | exact at4 | exact at5 | exact at6))) | refine Ef_y' rfl ⟨_, Yl_minE rfl rfl hj, ?_⟩)
      | (fail; (first | ((fail_if_success have := b1); intro b1) | ((fail_if_success have := b2); intro b2) | ((fail_if_success have := b3); intro b3) | ((fail_if_success have := b4); intro b4) | ((fail_if_success have := b5); intro b5) | ((fail_if_success have := b6); intro b6) | ((fail_if_success have := b7); intro b7) | ((fail_if_success have := b8); intro b8) | ((fail_if_success have := b9); intro b9) | ((fail_if_success have := b10); intro b10) | ((fail_if_success have := b11); intro b11) | ((fail_if_success have := b12); intro b12)))
      | (fail; (first | ((fail_if_success have := A1); intro A1 c1) | ((fail_if_success have := A2); intro A2 c2) | ((fail_if_success have := A3); intro A3 c3) | ((fail_if_success have := A4); intro A4 c4) | ((fail_if_success have := A5); intro A5 c5) | ((fail_if_success have := A6); intro A6 c6) | ((fail_if_success have := A7); intro A7 c7)))
      | refine Ef_y rfl rfl ?_
      | ((with_reducible refine ie_bmin ?_); refine Ef_y' rfl ?_)
      | ((with_reducible refine ie_bmax ?_); refine Ef_y' rfl ?_))
  exact ret_n [] (res1 rfl rfl) (List.nil_sublist _) ⟨rfl, rfl⟩
end
end Go.Proofs.Ytggbiklkigjegaa
