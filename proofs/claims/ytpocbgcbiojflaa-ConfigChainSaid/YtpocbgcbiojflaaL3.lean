/- ConfigLeads: what a call comes to. -/
import Derived.Test.YtpocbgcbiojflaaL1
namespace Go.Proofs.Ytpocbgcbiojflaa
open Go.RowKit
set_option maxRecDepth 20000

section
variable {P : Program} {n : Nat} {w0 : World} {R : List Nat} {L : List (Nat × Value)} {M : List Asrt}
/-- Code that only adds: what is there is as it is at its beginning. -/
def frzQ (Q : Exit → List (Nat × Value) → List Asrt → Prop) (M : List Asrt) : Exit → List (Nat × Value) → List Asrt → Prop := fun ex L' N => Q ex L' (N ++ M)
theorem T.freeze {c : Code} {Q : Exit → List (Nat × Value) → List Asrt → Prop} (h : ∀ w, Hp w0 R M w → T P n w [] c (frzQ Q M) L []) : T P n w0 R c Q L M :=
  .mk fun a w hk hp => wp_mono ((h w hp).run a w hk (Hp.refl w)) fun _ _ _ ⟨L', N, hk', hp', hq⟩ => ⟨L', N ++ M, hk', hp.more hp', hq⟩
theorem frzQ_0 {Q : Exit → List (Nat × Value) → List Asrt → Prop} {ex : Exit} (h : Q ex L M) : frzQ Q M ex L [] := h
end

theorem row_cap {l : List Mb} {A : Option Addr} {c : Nat} {w : World} (h : (rM l (A, c)).holds w) : l.length ≤ c := by
  rcases (h : w.ownsRow 0 _ _ (.slice A l.length c) l.length (l.flatMap mE)).2 with ⟨_, h⟩ | ⟨g, cap', cur, hv, _, _, hle, _⟩
  · omega
  · injection hv with h1 h2 h3; omega
theorem rd_of {l : List Mb} {s : Int × List Mb} {e : Int} {A1 A2 : Option Addr} {c1 c2 : Nat} {Rw : Asrt} (hR : Rw = rM s.2 (A2, c2) ∨ (s = (e, l) ∧ (A2, c2) = (A1, c1))) (w : World) (h1 : (rM l (A1, c1)).holds w) (h2 : Rw.holds w) : Rd w A2 s.2.length 3 (s.2.flatMap mE) ∧ s.2.length ≤ c2 := by
  rcases hR with rfl | ⟨rfl, h⟩
  · exact ⟨Rd.of_row h2, row_cap h2⟩
  · cases h
    exact ⟨Rd.of_row h1, row_cap h1⟩

section
variable (B : Option Addr) (len cap : Nat) (sts : List (Int × Int)) (w : World) (hr : Rd w B len 2 (sts.flatMap stE)) (hl : sts.length = len) (hx : ∀ s ∈ sts, 0 ≤ s.1 ∧ s.1 < 256) (hle : len ≤ 9223372036854775807)
include hr hl hx hle
set_option maxHeartbeats 16000000 in
theorem leads_c (nodes : Int) : Sp Try.prog 3 [.int .i64 nodes, .slice B len cap] w [] fun v N => v = .bool true ∧ N = [] := by
  obtain ⟨k0, hk0, hfi⟩ := first_i nodes
  have hwl := wrap_u64_lo nodes
  by_cases hbig : len > 60
  · refine Sp.enter (n := 152) Try.func3 rfl rfl rfl (Hp.refl w) ?_
    repeat' (first
        | with_reducible refine T.seq ?_
        | with_reducible refine T.block ?_
        | with_reducible refine T.region ?_
        | with_reducible refine T.skip ?_
        | with_reducible refine T.scope ?_
        | with_reducible refine T.label ?_
        | with_reducible refine scopeQ_n ?_
        | with_reducible refine scopeQ_r ?_
        | with_reducible refine scopeQ_x ?_
        | with_reducible refine T.ret ?_
        | with_reducible refine T.exit ?_
        | with_reducible refine seqQ_n ?_
        | with_reducible refine seqQ_x ?_
        | with_reducible refine seqQ_r ?_
        | with_reducible refine blockQ_n ?_
        | with_reducible refine blockQ_r ?_
        | with_reducible refine blockQ_x ?_
        | ((with_reducible refine g_blkx ?_); refine blockQ_y rfl ?_)
        | with_reducible refine loopQ_x ?_
        | with_reducible refine loopQ_r ?_
        | with_reducible refine joinQ_r ?_
        | with_reducible refine joinQ_x ?_
        | ((with_reducible refine g_cond ?_); (first | refine T.cond_t rfl ?_ | refine T.cond_f rfl ?_ | (refine T.cond_s rfl ?_ ?_ <;> intro hc)))
        | with_reducible refine TL_nil ?_
        | with_reducible refine TS_nil ?_
        | ((with_reducible refine g_draw ?_); (first
        | (((refine' T.joinS (α := (Option Addr × Nat) × Asrt × Nat) (fun z => [(1, .slice B len cap), (5, .pointer (some ⟨b1, 0, none⟩)), (7, .int .i64 (i : Int)), (8, .pointer (some ⟨z.2.2, 0, none⟩))]) (fun z => [.blk z.2.2 (.cells (cV s.1 z.1 s.2.length) 26 (0, 0)), rM l (A1, c1), z.2.1, .blk b1 (.cells (cV e (A1, c1) l.length) 26 (0, 0))]) (fun z => z.2.1 = rM s.2 z.1 ∨ (s = (e, l) ∧ z.1 = (A1, c1))) (T.drawBM (id := 9) (.y 0 (.y 1 (.y 2 (.y 3 (.y 4 (.b 5 (.run [(6, false), (7, false)]) 6 (.run [(5, false), (7, false)]))))))) mixd ?q1 ?_) ?_); (case q1 => kernel_rfl)))
        | (((refine' T.joinS (α := Nat) (fun z => [(1, .slice B len cap), (5, .pointer (some ⟨b1, 0, none⟩)), (7, .int .i64 (i : Int)), (8, .pointer (some ⟨b2, 0, none⟩)), (9, .bool sh), (10, .int .i64 la), (11, .int .i64 (k : Int)), (12, .pointer (some ⟨z, 0, none⟩)), (13, .bool (Cf.mem s.2 xn).isSome)]) (fun z => [.blk z (.cells (mE ((Cf.mem s.2 xn).getD Mb.z)).toArray 36 (0, 0))]) (fun _ => True) (T.drawBM (id := 17) (.y 0 (.y 1 (.y 2 (.y 3 (.y 4 (.y 5 (.y 6 (.b 7 (.run [(8, true), (9, true), (10, true), (11, false), (12, false), (13, true)]) 11 (.run [(7, false), (8, true), (9, true), (10, true), (12, false), (13, true)]))))))))) mixd ?q1 ?_) ?_); (case q1 => kernel_rfl)))
        | (((with_reducible refine' T.drawM (id := 19) [(0, true), (1, true), (2, true), (3, true), (4, false), (5, false), (6, false), (7, false), (8, false), (9, false), (10, true), (11, true), (12, false), (13, false), (14, false), (15, false), (16, false), (17, false), (18, false), (19, false), (20, false), (21, false)] mixd ?q1 ?_); (case q1 => kernel_rfl)))
        | (((with_reducible refine' T.drawM (id := 22) [(0, true), (1, false), (2, false), (3, false), (4, false), (5, false), (6, true), (7, true), (8, true), (9, true), (10, true), (11, true), (12, false), (13, false), (14, false), (15, false)] mixd ?q1 ?_); (case q1 => kernel_rfl)))))
        | ((with_reducible refine TL_y' ?hy ?hd ?_); (case hy => rfl); (case hd => rfl))
        | with_reducible refine TL_e ?_
        | ((with_reducible refine g_TL ?_); (first | refine TL_gy' rfl rfl rfl rfl ?_ | refine TL_gn rfl rfl rfl ?_ | refine TL_gu rfl rfl rfl ?_ | refine TL_ge rfl rfl ?_ | refine TL_gn0 rfl rfl ?_))
        | ((with_reducible refine g_TS ?_); (first | refine TS_y rfl rfl ?_ | refine TS_e rfl ?_ | refine TS_gy rfl rfl rfl rfl ?_ | refine TS_gn rfl rfl rfl rfl ?_ | refine TS_gu rfl rfl rfl rfl ?_ | refine TS_ge rfl rfl rfl ?_ | refine TS_gne rfl rfl rfl rfl ?_ | refine TS_gue rfl rfl rfl rfl ?_ | refine TS_gne0 rfl rfl rfl ?_))
        | ((with_reducible refine TSand ?hd ?_); (case hd => (repeat (first | exact List.nil_sublist _ | refine List.Sublist.cons_cons _ ?_ | refine List.Sublist.cons _ ?_))))
        | ((with_reducible refine TBand ?hd ?_); (case hd => (repeat (first | exact List.nil_sublist _ | refine List.Sublist.cons_cons _ ?_ | refine List.Sublist.cons _ ?_))))
        | ((with_reducible refine g_TB ?_); (first | with_reducible refine TB_run ?_ | refine TB_y rfl rfl ?_ | refine TB_b rfl rfl ?_ ?_ | refine TB_e rfl ?_))
        | ((with_reducible refine is_move ?_); refine ⟨_, Yl_move rfl, ?_⟩)
        | ((with_reducible refine is_assign ?_); refine ⟨_, Yl_assign rfl, ?_⟩)
        | ((with_reducible refine is_pick ?_); (first | refine ⟨_, Yl_pick_t rfl rfl, ?_⟩ | refine ⟨_, Yl_pick_f rfl rfl, ?_⟩))
        | ((with_reducible refine is_fld ?_); (first | ((refine' ⟨_, Yl_fld_ad rfl ?q1, ?_⟩); (case q1 => exact fld_of rfl rfl)) | ((refine' ⟨_, Yl_fld_blk0 rfl ?q1, ?_⟩); (case q1 => exact fld_of rfl rfl)) | ((refine' ⟨_, Yl_fld_blk rfl ?q1, ?_⟩); (case q1 => exact fld_of rfl rfl))))
        | ((with_reducible refine is_load ?_); (first
        | ((refine' ⟨_, Yl_load_old rfl ?q1 ?q2 List.not_mem_nil ?q3, ?_⟩); (case q1 => exact one_of rfl); (case q2 => assumption); (case q3 => rfl))
        | ((refine' ⟨_, Yl_loadA_old rfl ?q1 List.not_mem_nil ?q2, ?_⟩); (case q1 => assumption); (case q2 => exact agg_of rfl))
        | ((refine' ⟨_, Yl_load_blk rfl ?q1 ?q2 ?q3, ?_⟩); (case q1 => exact one_of rfl); (case q2 => (repeat (first | exact .head _ | apply List.Mem.tail))); (case q3 => rfl))
        | ((refine' ⟨_, Yl_loadA_blk rfl ?q1 ?q2, ?_⟩); (case q1 => (repeat (first | exact .head _ | apply List.Mem.tail))); (case q2 => exact agg_of rfl))
        | ((refine' ⟨_, Yl_load_blk rfl ?q1 ?q2 ?q3, ?_⟩); (case q1 => exact one_of rfl); (case q2 => (repeat (first | exact .head _ | apply List.Mem.tail))); (case q3 => assumption))
        | ((refine' ⟨_, Yl_load_rd rfl ?q1 ?q2 List.not_mem_nil ?q3, ?_⟩); (case q1 => exact one_of rfl); (case q2 => assumption); (case q3 => assumption))
        | ((refine' ⟨_, Yl_load_row rfl ?q1 ?q2 ?q3, ?_⟩); (case q1 => exact one_of rfl); (case q2 => (repeat (first | exact .head _ | apply List.Mem.tail))); (case q3 => assumption))
        | ((refine' ⟨_, Yl_loadA_rd rfl ?qa ?qb List.not_mem_nil ?ql ?qc, ?_⟩); (case qa => exact agg_of rfl); (case qb => assumption); (case qc => assumption); (case ql => rfl))
        | ((refine' ⟨_, Yl_loadA_row rfl ?qa ?qb ?ql ?qc, ?_⟩); (case qa => exact agg_of rfl); (case qb => (repeat (first | exact .head _ | apply List.Mem.tail))); (case qc => assumption); (case ql => rfl))))
        | ((with_reducible refine is_idx ?_); (first
        | ((refine' ⟨_, Yl_index rfl rfl ?q1 ?q2 ?q3 (Rd.some_ ?q4 ?q5), ?_⟩); (case q1 => exact und_of rfl); (case q2 => exact siz_of rfl); (case q3 => omega); (case q4 => assumption); (case q5 => omega))
        | ((refine' ⟨_, Yl_index_row rfl rfl ?q1 ?q2 ?q3 ?q4, ?_⟩); (case q1 => exact und_of rfl); (case q2 => exact siz_of rfl); (case q3 => omega); (case q4 => (repeat (first | exact .head _ | apply List.Mem.tail))))
        | ((refine' ⟨_, Yl_index rfl rfl ?q1 ?q2 ?q3 rfl, ?_⟩); (case q1 => exact und_of rfl); (case q2 => exact siz_of rfl); (case q3 => omega))
        | ((refine' ⟨_, Yl_index (j := 0) rfl rfl ?q1 ?q2 ?q3 (Rd.some_ ?q4 ?q5), ?_⟩); (case q1 => exact und_of rfl); (case q2 => exact siz_of rfl); (case q3 => omega); (case q4 => assumption); (case q5 => omega))
        | ((refine' ⟨_, Yl_index_row (j := 0) rfl rfl ?q1 ?q2 ?q3 ?q4, ?_⟩); (case q1 => exact und_of rfl); (case q2 => exact siz_of rfl); (case q3 => omega); (case q4 => (repeat (first | exact .head _ | apply List.Mem.tail))))
        | ((refine' ⟨_, Yl_indexI rfl rfl ?q1 ?q2 ?q3 ?q4 (Rd.some_ ?q5 ?q6), ?_⟩); (case q1 => exact und_of rfl); (case q2 => exact siz_of rfl); (case q3 => omega); (case q4 => omega); (case q5 => assumption); (case q6 => omega))))
        | ((with_reducible refine is_ext ?_); refine ⟨_, Yl_extract rfl rfl, ?_⟩)
        | ((with_reducible refine is_un ?_); refine ⟨_, Yl_not rfl, ?_⟩)
        | ((with_reducible refine is_len ?_); (first | ((refine' ⟨_, Yl_len_slice rfl ?q1, ?_⟩); (case q1 => exact und_of rfl)) | ((refine' ⟨_, Yl_len_string rfl ?q1, ?_⟩); (case q1 => exact und_of rfl))))
        | ((with_reducible refine is_b_lss ?_); (first | ((refine' ⟨_, Yl_lss_t rfl rfl ?q1, ?_⟩); (case q1 => omega)) | ((refine' ⟨_, Yl_lss_f rfl rfl ?q1, ?_⟩); (case q1 => omega)) | (refine sp_lss rfl rfl ?_ ?_ <;> intro hc)))
        | ((with_reducible refine is_b_leq ?_); (first | ((refine' ⟨_, Yl_leq_t rfl rfl ?q1, ?_⟩); (case q1 => omega)) | ((refine' ⟨_, Yl_leq_f rfl rfl ?q1, ?_⟩); (case q1 => omega)) | (refine sp_leq rfl rfl ?_ ?_ <;> intro hc)))
        | ((with_reducible refine is_b_gtr ?_); (first | ((refine' ⟨_, Yl_gtr_t rfl rfl ?q1, ?_⟩); (case q1 => omega)) | ((refine' ⟨_, Yl_gtr_f rfl rfl ?q1, ?_⟩); (case q1 => omega)) | (refine sp_gtr rfl rfl ?_ ?_ <;> intro hc)))
        | ((with_reducible refine is_b_eql ?_); (first | ((refine' ⟨_, Yl_eql_t rfl rfl ?q1, ?_⟩); (case q1 => omega)) | ((refine' ⟨_, Yl_eql_f rfl rfl ?q1, ?_⟩); (case q1 => omega)) | (refine sp_eql rfl rfl ?_ ?_ <;> intro hc) | ((refine' ⟨_, Yl_convW (k := .i64) (k' := .u64) rfl ?q1 ?q2, ?_⟩); (case q1 => exact und_of rfl); (case q2 => exact und_of rfl)) | ((refine' ⟨_, Yl_convI (k := .u64) (k' := .i64) rfl ?q1 ?q2 (wrap_mod _ 5 ?q3 ?q4), ?_⟩); (case q1 => exact und_of rfl); (case q2 => exact und_of rfl); (case q3 => decide); (case q4 => decide)) | ((refine' ⟨_, Yl_remE rfl rfl ?q1 ?q2 rfl, ?_⟩); (case q1 => exact wrap_u64_lo _); (case q2 => decide)) | ((refine' ⟨_, Yl_eql_bool rfl rfl ?q1, ?_⟩); (case q1 => exact und_of rfl)) | ((refine' ⟨_, Yl_eql_strT rfl rfl ?q1, ?_⟩); (case q1 => first | assumption | rfl)) | ((refine' ⟨_, Yl_eql_strF rfl rfl ?q1, ?_⟩); (case q1 => first | assumption | decide)) | (refine sp_eqlS rfl rfl ?_ ?_ <;> intro hc)))
        | ((with_reducible refine is_b_neq ?_); (first | ((refine' ⟨_, Yl_neq_t rfl rfl ?q1, ?_⟩); (case q1 => omega)) | ((refine' ⟨_, Yl_neq_f rfl rfl ?q1, ?_⟩); (case q1 => omega)) | (refine sp_neq rfl rfl ?_ ?_ <;> intro hc) | ((refine' ⟨_, Yl_convW (k := .i64) (k' := .u64) rfl ?q1 ?q2, ?_⟩); (case q1 => exact und_of rfl); (case q2 => exact und_of rfl)) | ((refine' ⟨_, Yl_convI (k := .u64) (k' := .i64) rfl ?q1 ?q2 (wrap_mod _ 5 ?q3 ?q4), ?_⟩); (case q1 => exact und_of rfl); (case q2 => exact und_of rfl); (case q3 => decide); (case q4 => decide)) | ((refine' ⟨_, Yl_remE rfl rfl ?q1 ?q2 rfl, ?_⟩); (case q1 => exact wrap_u64_lo _); (case q2 => decide)) | ((refine' ⟨_, Yl_neq_bool rfl rfl ?q1, ?_⟩); (case q1 => exact und_of rfl)) | ((refine' ⟨_, Yl_neq_strT rfl rfl ?q1, ?_⟩); (case q1 => first | assumption | decide)) | ((refine' ⟨_, Yl_neq_strF rfl rfl ?q1, ?_⟩); (case q1 => first | assumption | rfl)) | (refine sp_neqS rfl rfl ?_ ?_ <;> intro hc)))
        | ((with_reducible refine is_b_add ?_); (first | ((refine' ⟨_, Yl_add rfl rfl ?q1 ?q2, ?_⟩); (case q1 => omega); (case q2 => omega)) | ((refine' ⟨_, Yl_add8 rfl rfl ?q1 ?q2, ?_⟩); (case q1 => omega); (case q2 => omega)) | ((refine' ⟨_, Yl_convW (k := .i64) (k' := .u64) rfl ?q1 ?q2, ?_⟩); (case q1 => exact und_of rfl); (case q2 => exact und_of rfl)) | ((refine' ⟨_, Yl_convI (k := .u64) (k' := .i64) rfl ?q1 ?q2 (wrap_mod _ 5 ?q3 ?q4), ?_⟩); (case q1 => exact und_of rfl); (case q2 => exact und_of rfl); (case q3 => decide); (case q4 => decide)) | ((refine' ⟨_, Yl_remE rfl rfl ?q1 ?q2 rfl, ?_⟩); (case q1 => exact wrap_u64_lo _); (case q2 => decide))))
        | (first | ((refine' ⟨_, Yl_convW (k := .i64) (k' := .u64) rfl ?q1 ?q2, ?_⟩); (case q1 => exact und_of rfl); (case q2 => exact und_of rfl)) | ((refine' ⟨_, Yl_convI (k := .u64) (k' := .i64) rfl ?q1 ?q2 (wrap_mod _ 5 ?q3 ?q4), ?_⟩); (case q1 => exact und_of rfl); (case q2 => exact und_of rfl); (case q3 => decide); (case q4 => decide)) | ((refine' ⟨_, Yl_remE rfl rfl ?q1 ?q2 rfl, ?_⟩); (case q1 => exact wrap_u64_lo _); (case q2 => decide)))
        | ((with_reducible refine ie_store ?_); (first
        | ((refine' Ef_store_row1 rfl rfl ?q1 ?q2 ?q3 ?q4 ?q5 ?_); (case q1 => rfl); (case q2 => exact siz_of rfl); (case q3 => (first | exact at0 | exact at1 | exact at2 | exact at3 | exact at4 | exact at5 | exact at6)); (case q4 => omega); (case q5 => assumption))
        | ((refine' Ef_store_rowA rfl rfl ?q1 ?q2 ?q3 ?q4 ?q5 ?q6 ?_); (case q1 => exact siz_of rfl); (case q2 => rfl); (case q3 => (first | assumption | (intro u hu; rcases hu with _ | ⟨_, _ | ⟨_, _ | ⟨_, _ | ⟨_, hu⟩⟩⟩⟩ <;> first | rfl | (cases hu; done)))); (case q4 => (first | exact at0 | exact at1 | exact at2 | exact at3 | exact at4 | exact at5 | exact at6)); (case q5 => omega); (case q6 => assumption))
        | ((refine' Ef_storeA' rfl rfl ?q1 ?q2 ?q3 ?q4 ?_); (case q1 => exact siz_of rfl); (case q2 => (first | assumption | (intro u hu; rcases hu with _ | ⟨_, _ | ⟨_, _ | ⟨_, _ | ⟨_, hu⟩⟩⟩⟩ <;> first | rfl | (cases hu; done)))); (case q3 => (first | exact at0 | exact at1 | exact at2 | exact at3 | exact at4 | exact at5 | exact at6)); (case q4 => rfl))
        | ((refine' Ef_storeC rfl rfl ?q1 ?q2 ?q3 ?q4 ?q5 ?_); (case q1 => rfl); (case q2 => exact siz_of rfl); (case q3 => (first | exact at0 | exact at1 | exact at2 | exact at3 | exact at4 | exact at5 | exact at6)); (case q4 => exact Nat.le_of_ble_eq_true rfl); (case q5 => rfl))))
        | ((with_reducible refine ie_callf ?_); (first
        | ((with_reducible refine g_call 6 ?_); (first | refine Ef_callP rfl rfl ent_6 (fun w _ => awake_c w) ?_))
        | ((with_reducible refine g_call 7 ?_); (first | (refine Ef_callN rfl rfl ent_7 (fun w _ => hfi w) ?_; rintro ⟨A1, c1⟩)))
        | ((with_reducible refine g_call 8 ?_); (first | (((refine' Ef_callNX rfl rfl ent_8 (fun w hp => hch w (hp.rowOf ?q1) (hp.capOf (A := A1) (m := l.length) (cap := c1) ?q2)) ?_); (case q1 => (repeat (first | exact .head _ | apply List.Mem.tail))); (case q2 => (repeat (first | exact .head _ | apply List.Mem.tail)))); rintro ⟨⟨A2, c2⟩, Rw⟩ hR)))
        | ((with_reducible refine g_call 9 ?_); (first | ((refine' Ef_callP rfl rfl ent_9 (fun w hp => hma w (hrow w (hp.own (rM l (A1, c1)) ?q1) (hp.own Rw ?q2))) ?_); (case q1 => (repeat (first | exact .head _ | apply List.Mem.tail))); (case q2 => (repeat (first | exact .head _ | apply List.Mem.tail))))))
        | ((with_reducible refine g_call 10 ?_); (first | refine Ef_callP rfl rfl ent_10 (fun w hp => hat w (hp.rd hrd fun _ => List.not_mem_nil)) ?_))))
        | ((first  | ((with_reducible refine ie_alloc ?_); (((refine' Ef_alloc rfl ?q1 ?_); (case q1 => exact zer_of rfl))))); (first | ((fail_if_success have := b1); intro b1) | ((fail_if_success have := b2); intro b2) | ((fail_if_success have := b3); intro b3) | ((fail_if_success have := b4); intro b4) | ((fail_if_success have := b5); intro b5) | ((fail_if_success have := b6); intro b6) | ((fail_if_success have := b7); intro b7) | ((fail_if_success have := b8); intro b8) | ((fail_if_success have := b9); intro b9) | ((fail_if_success have := b10); intro b10) | ((fail_if_success have := b11); intro b11) | ((fail_if_success have := b12); intro b12)))
        | (fail; (first | ((fail_if_success have := A1); intro A1 c1) | ((fail_if_success have := A2); intro A2 c2) | ((fail_if_success have := A3); intro A3 c3) | ((fail_if_success have := A4); intro A4 c4) | ((fail_if_success have := A5); intro A5 c5) | ((fail_if_success have := A6); intro A6 c6) | ((fail_if_success have := A7); intro A7 c7)))
        | refine Ef_y rfl rfl ?_
        | ((with_reducible refine ie_conv ?_); refine Ef_y' rfl ?_))
    all_goals exact ret_n [] (res1 rfl rfl) (List.nil_sublist _) ⟨rfl, rfl⟩
  refine Sp.enter (n := 152) Try.func3 rfl rfl rfl (Hp.refl w) ?_
  repeat' (first
      | with_reducible refine T.seq ?_
      | with_reducible refine T.block ?_
      | with_reducible refine T.region ?_
      | with_reducible refine T.skip ?_
      | with_reducible refine T.scope ?_
      | with_reducible refine T.label ?_
      | with_reducible refine scopeQ_n ?_
      | with_reducible refine scopeQ_r ?_
      | with_reducible refine scopeQ_x ?_
      | with_reducible refine T.ret ?_
      | with_reducible refine T.exit ?_
      | with_reducible refine seqQ_n ?_
      | with_reducible refine seqQ_x ?_
      | with_reducible refine seqQ_r ?_
      | with_reducible refine blockQ_n ?_
      | with_reducible refine blockQ_r ?_
      | with_reducible refine blockQ_x ?_
      | ((with_reducible refine g_blkx ?_); refine blockQ_y rfl ?_)
      | with_reducible refine loopQ_x ?_
      | with_reducible refine loopQ_r ?_
      | with_reducible refine joinQ_r ?_
      | with_reducible refine joinQ_x ?_
      | ((with_reducible refine g_cond ?_); (first | refine T.cond_t rfl ?_ | refine T.cond_f rfl ?_ | (refine T.cond_s rfl ?_ ?_ <;> intro hc)))
      | with_reducible refine TL_nil ?_
      | with_reducible refine TS_nil ?_
      | ((with_reducible refine g_draw ?_); (first
      | (((refine' T.joinS (α := (Option Addr × Nat) × Asrt × Nat) (fun z => [(1, .slice B len cap), (5, .pointer (some ⟨b1, 0, none⟩)), (7, .int .i64 (i : Int)), (8, .pointer (some ⟨z.2.2, 0, none⟩))]) (fun z => [.blk z.2.2 (.cells (cV s.1 z.1 s.2.length) 26 (0, 0)), rM l (A1, c1), z.2.1, .blk b1 (.cells (cV e (A1, c1) l.length) 26 (0, 0))]) (fun z => z.2.1 = rM s.2 z.1 ∨ (s = (e, l) ∧ z.1 = (A1, c1))) (T.drawBM (id := 9) (.y 0 (.y 1 (.y 2 (.y 3 (.y 4 (.b 5 (.run [(6, false), (7, false)]) 6 (.run [(5, false), (7, false)]))))))) mixd ?q1 ?_) ?_); (case q1 => kernel_rfl)))
      | (((refine' T.joinS (α := Nat) (fun z => [(1, .slice B len cap), (5, .pointer (some ⟨b1, 0, none⟩)), (7, .int .i64 (i : Int)), (8, .pointer (some ⟨b2, 0, none⟩)), (9, .bool sh), (10, .int .i64 la), (11, .int .i64 (k : Int)), (12, .pointer (some ⟨z, 0, none⟩)), (13, .bool (Cf.mem s.2 xn).isSome)]) (fun z => [.blk z (.cells (mE ((Cf.mem s.2 xn).getD Mb.z)).toArray 36 (0, 0))]) (fun _ => True) (T.drawBM (id := 17) (.y 0 (.y 1 (.y 2 (.y 3 (.y 4 (.y 5 (.y 6 (.b 7 (.run [(8, true), (9, true), (10, true), (11, false), (12, false), (13, true)]) 11 (.run [(7, false), (8, true), (9, true), (10, true), (12, false), (13, true)]))))))))) mixd ?q1 ?_) ?_); (case q1 => kernel_rfl)))
      | (((with_reducible refine' T.drawM (id := 19) [(0, true), (1, true), (2, true), (3, true), (4, false), (5, false), (6, false), (7, false), (8, false), (9, false), (10, true), (11, true), (12, false), (13, false), (14, false), (15, false), (16, false), (17, false), (18, false), (19, false), (20, false), (21, false)] mixd ?q1 ?_); (case q1 => kernel_rfl)))
      | (((with_reducible refine' T.drawM (id := 22) [(0, true), (1, false), (2, false), (3, false), (4, false), (5, false), (6, true), (7, true), (8, true), (9, true), (10, true), (11, true), (12, false), (13, false), (14, false), (15, false)] mixd ?q1 ?_); (case q1 => kernel_rfl)))))
      | ((with_reducible refine TL_y' ?hy ?hd ?_); (case hy => rfl); (case hd => rfl))
      | with_reducible refine TL_e ?_
      | ((with_reducible refine g_TL ?_); (first | refine TL_gy' rfl rfl rfl rfl ?_ | refine TL_gn rfl rfl rfl ?_ | refine TL_gu rfl rfl rfl ?_ | refine TL_ge rfl rfl ?_ | refine TL_gn0 rfl rfl ?_))
      | ((with_reducible refine g_TS ?_); (first | refine TS_y rfl rfl ?_ | refine TS_e rfl ?_ | refine TS_gy rfl rfl rfl rfl ?_ | refine TS_gn rfl rfl rfl rfl ?_ | refine TS_gu rfl rfl rfl rfl ?_ | refine TS_ge rfl rfl rfl ?_ | refine TS_gne rfl rfl rfl rfl ?_ | refine TS_gue rfl rfl rfl rfl ?_ | refine TS_gne0 rfl rfl rfl ?_))
      | ((with_reducible refine TSand ?hd ?_); (case hd => (repeat (first | exact List.nil_sublist _ | refine List.Sublist.cons_cons _ ?_ | refine List.Sublist.cons _ ?_))))
      | ((with_reducible refine TBand ?hd ?_); (case hd => (repeat (first | exact List.nil_sublist _ | refine List.Sublist.cons_cons _ ?_ | refine List.Sublist.cons _ ?_))))
      | ((with_reducible refine g_TB ?_); (first | with_reducible refine TB_run ?_ | refine TB_y rfl rfl ?_ | refine TB_b rfl rfl ?_ ?_ | refine TB_e rfl ?_))
      | ((with_reducible refine is_move ?_); refine ⟨_, Yl_move rfl, ?_⟩)
      | ((with_reducible refine is_assign ?_); refine ⟨_, Yl_assign rfl, ?_⟩)
      | ((with_reducible refine is_pick ?_); (first | refine ⟨_, Yl_pick_t rfl rfl, ?_⟩ | refine ⟨_, Yl_pick_f rfl rfl, ?_⟩))
      | ((with_reducible refine is_fld ?_); (first | ((refine' ⟨_, Yl_fld_ad rfl ?q1, ?_⟩); (case q1 => exact fld_of rfl rfl)) | ((refine' ⟨_, Yl_fld_blk0 rfl ?q1, ?_⟩); (case q1 => exact fld_of rfl rfl)) | ((refine' ⟨_, Yl_fld_blk rfl ?q1, ?_⟩); (case q1 => exact fld_of rfl rfl))))
      | ((with_reducible refine is_load ?_); (first
      | ((refine' ⟨_, Yl_load_old rfl ?q1 ?q2 List.not_mem_nil ?q3, ?_⟩); (case q1 => exact one_of rfl); (case q2 => assumption); (case q3 => rfl))
      | ((refine' ⟨_, Yl_loadA_old rfl ?q1 List.not_mem_nil ?q2, ?_⟩); (case q1 => assumption); (case q2 => exact agg_of rfl))
      | ((refine' ⟨_, Yl_load_blk rfl ?q1 ?q2 ?q3, ?_⟩); (case q1 => exact one_of rfl); (case q2 => (repeat (first | exact .head _ | apply List.Mem.tail))); (case q3 => rfl))
      | ((refine' ⟨_, Yl_loadA_blk rfl ?q1 ?q2, ?_⟩); (case q1 => (repeat (first | exact .head _ | apply List.Mem.tail))); (case q2 => exact agg_of rfl))
      | ((refine' ⟨_, Yl_load_blk rfl ?q1 ?q2 ?q3, ?_⟩); (case q1 => exact one_of rfl); (case q2 => (repeat (first | exact .head _ | apply List.Mem.tail))); (case q3 => assumption))
      | ((refine' ⟨_, Yl_load_rd rfl ?q1 ?q2 List.not_mem_nil ?q3, ?_⟩); (case q1 => exact one_of rfl); (case q2 => assumption); (case q3 => assumption))
      | ((refine' ⟨_, Yl_load_row rfl ?q1 ?q2 ?q3, ?_⟩); (case q1 => exact one_of rfl); (case q2 => (repeat (first | exact .head _ | apply List.Mem.tail))); (case q3 => assumption))
      | ((refine' ⟨_, Yl_loadA_rd rfl ?qa ?qb List.not_mem_nil ?ql ?qc, ?_⟩); (case qa => exact agg_of rfl); (case qb => assumption); (case qc => assumption); (case ql => rfl))
      | ((refine' ⟨_, Yl_loadA_row rfl ?qa ?qb ?ql ?qc, ?_⟩); (case qa => exact agg_of rfl); (case qb => (repeat (first | exact .head _ | apply List.Mem.tail))); (case qc => assumption); (case ql => rfl))))
      | ((with_reducible refine is_idx ?_); (first
      | ((refine' ⟨_, Yl_index rfl rfl ?q1 ?q2 ?q3 (Rd.some_ ?q4 ?q5), ?_⟩); (case q1 => exact und_of rfl); (case q2 => exact siz_of rfl); (case q3 => omega); (case q4 => assumption); (case q5 => omega))
      | ((refine' ⟨_, Yl_index_row rfl rfl ?q1 ?q2 ?q3 ?q4, ?_⟩); (case q1 => exact und_of rfl); (case q2 => exact siz_of rfl); (case q3 => omega); (case q4 => (repeat (first | exact .head _ | apply List.Mem.tail))))
      | ((refine' ⟨_, Yl_index rfl rfl ?q1 ?q2 ?q3 rfl, ?_⟩); (case q1 => exact und_of rfl); (case q2 => exact siz_of rfl); (case q3 => omega))
      | ((refine' ⟨_, Yl_index (j := 0) rfl rfl ?q1 ?q2 ?q3 (Rd.some_ ?q4 ?q5), ?_⟩); (case q1 => exact und_of rfl); (case q2 => exact siz_of rfl); (case q3 => omega); (case q4 => assumption); (case q5 => omega))
      | ((refine' ⟨_, Yl_index_row (j := 0) rfl rfl ?q1 ?q2 ?q3 ?q4, ?_⟩); (case q1 => exact und_of rfl); (case q2 => exact siz_of rfl); (case q3 => omega); (case q4 => (repeat (first | exact .head _ | apply List.Mem.tail))))
      | ((refine' ⟨_, Yl_indexI rfl rfl ?q1 ?q2 ?q3 ?q4 (Rd.some_ ?q5 ?q6), ?_⟩); (case q1 => exact und_of rfl); (case q2 => exact siz_of rfl); (case q3 => omega); (case q4 => omega); (case q5 => assumption); (case q6 => omega))))
      | ((with_reducible refine is_ext ?_); refine ⟨_, Yl_extract rfl rfl, ?_⟩)
      | ((with_reducible refine is_un ?_); refine ⟨_, Yl_not rfl, ?_⟩)
      | ((with_reducible refine is_len ?_); (first | ((refine' ⟨_, Yl_len_slice rfl ?q1, ?_⟩); (case q1 => exact und_of rfl)) | ((refine' ⟨_, Yl_len_string rfl ?q1, ?_⟩); (case q1 => exact und_of rfl))))
      | ((with_reducible refine is_b_lss ?_); (first | ((refine' ⟨_, Yl_lss_t rfl rfl ?q1, ?_⟩); (case q1 => omega)) | ((refine' ⟨_, Yl_lss_f rfl rfl ?q1, ?_⟩); (case q1 => omega)) | (refine sp_lss rfl rfl ?_ ?_ <;> intro hc)))
      | ((with_reducible refine is_b_leq ?_); (first | ((refine' ⟨_, Yl_leq_t rfl rfl ?q1, ?_⟩); (case q1 => omega)) | ((refine' ⟨_, Yl_leq_f rfl rfl ?q1, ?_⟩); (case q1 => omega)) | (refine sp_leq rfl rfl ?_ ?_ <;> intro hc)))
      | ((with_reducible refine is_b_gtr ?_); (first | ((refine' ⟨_, Yl_gtr_t rfl rfl ?q1, ?_⟩); (case q1 => omega)) | ((refine' ⟨_, Yl_gtr_f rfl rfl ?q1, ?_⟩); (case q1 => omega)) | (refine sp_gtr rfl rfl ?_ ?_ <;> intro hc)))
      | ((with_reducible refine is_b_eql ?_); (first | ((refine' ⟨_, Yl_eql_t rfl rfl ?q1, ?_⟩); (case q1 => omega)) | ((refine' ⟨_, Yl_eql_f rfl rfl ?q1, ?_⟩); (case q1 => omega)) | (refine sp_eql rfl rfl ?_ ?_ <;> intro hc) | ((refine' ⟨_, Yl_convW (k := .i64) (k' := .u64) rfl ?q1 ?q2, ?_⟩); (case q1 => exact und_of rfl); (case q2 => exact und_of rfl)) | ((refine' ⟨_, Yl_convI (k := .u64) (k' := .i64) rfl ?q1 ?q2 (wrap_mod _ 5 ?q3 ?q4), ?_⟩); (case q1 => exact und_of rfl); (case q2 => exact und_of rfl); (case q3 => decide); (case q4 => decide)) | ((refine' ⟨_, Yl_remE rfl rfl ?q1 ?q2 rfl, ?_⟩); (case q1 => exact wrap_u64_lo _); (case q2 => decide)) | ((refine' ⟨_, Yl_eql_bool rfl rfl ?q1, ?_⟩); (case q1 => exact und_of rfl)) | ((refine' ⟨_, Yl_eql_strT rfl rfl ?q1, ?_⟩); (case q1 => first | assumption | rfl)) | ((refine' ⟨_, Yl_eql_strF rfl rfl ?q1, ?_⟩); (case q1 => first | assumption | decide)) | (refine sp_eqlS rfl rfl ?_ ?_ <;> intro hc)))
      | ((with_reducible refine is_b_neq ?_); (first | ((refine' ⟨_, Yl_neq_t rfl rfl ?q1, ?_⟩); (case q1 => omega)) | ((refine' ⟨_, Yl_neq_f rfl rfl ?q1, ?_⟩); (case q1 => omega)) | (refine sp_neq rfl rfl ?_ ?_ <;> intro hc) | ((refine' ⟨_, Yl_convW (k := .i64) (k' := .u64) rfl ?q1 ?q2, ?_⟩); (case q1 => exact und_of rfl); (case q2 => exact und_of rfl)) | ((refine' ⟨_, Yl_convI (k := .u64) (k' := .i64) rfl ?q1 ?q2 (wrap_mod _ 5 ?q3 ?q4), ?_⟩); (case q1 => exact und_of rfl); (case q2 => exact und_of rfl); (case q3 => decide); (case q4 => decide)) | ((refine' ⟨_, Yl_remE rfl rfl ?q1 ?q2 rfl, ?_⟩); (case q1 => exact wrap_u64_lo _); (case q2 => decide)) | ((refine' ⟨_, Yl_neq_bool rfl rfl ?q1, ?_⟩); (case q1 => exact und_of rfl)) | ((refine' ⟨_, Yl_neq_strT rfl rfl ?q1, ?_⟩); (case q1 => first | assumption | decide)) | ((refine' ⟨_, Yl_neq_strF rfl rfl ?q1, ?_⟩); (case q1 => first | assumption | rfl)) | (refine sp_neqS rfl rfl ?_ ?_ <;> intro hc)))
      | ((with_reducible refine is_b_add ?_); (first | ((refine' ⟨_, Yl_add rfl rfl ?q1 ?q2, ?_⟩); (case q1 => omega); (case q2 => omega)) | ((refine' ⟨_, Yl_add8 rfl rfl ?q1 ?q2, ?_⟩); (case q1 => omega); (case q2 => omega)) | ((refine' ⟨_, Yl_convW (k := .i64) (k' := .u64) rfl ?q1 ?q2, ?_⟩); (case q1 => exact und_of rfl); (case q2 => exact und_of rfl)) | ((refine' ⟨_, Yl_convI (k := .u64) (k' := .i64) rfl ?q1 ?q2 (wrap_mod _ 5 ?q3 ?q4), ?_⟩); (case q1 => exact und_of rfl); (case q2 => exact und_of rfl); (case q3 => decide); (case q4 => decide)) | ((refine' ⟨_, Yl_remE rfl rfl ?q1 ?q2 rfl, ?_⟩); (case q1 => exact wrap_u64_lo _); (case q2 => decide))))
      | (first | ((refine' ⟨_, Yl_convW (k := .i64) (k' := .u64) rfl ?q1 ?q2, ?_⟩); (case q1 => exact und_of rfl); (case q2 => exact und_of rfl)) | ((refine' ⟨_, Yl_convI (k := .u64) (k' := .i64) rfl ?q1 ?q2 (wrap_mod _ 5 ?q3 ?q4), ?_⟩); (case q1 => exact und_of rfl); (case q2 => exact und_of rfl); (case q3 => decide); (case q4 => decide)) | ((refine' ⟨_, Yl_remE rfl rfl ?q1 ?q2 rfl, ?_⟩); (case q1 => exact wrap_u64_lo _); (case q2 => decide)))
      | ((with_reducible refine ie_store ?_); (first
      | ((refine' Ef_store_row1 rfl rfl ?q1 ?q2 ?q3 ?q4 ?q5 ?_); (case q1 => rfl); (case q2 => exact siz_of rfl); (case q3 => (first | exact at0 | exact at1 | exact at2 | exact at3 | exact at4 | exact at5 | exact at6)); (case q4 => omega); (case q5 => assumption))
      | ((refine' Ef_store_rowA rfl rfl ?q1 ?q2 ?q3 ?q4 ?q5 ?q6 ?_); (case q1 => exact siz_of rfl); (case q2 => rfl); (case q3 => (first | assumption | (intro u hu; rcases hu with _ | ⟨_, _ | ⟨_, _ | ⟨_, _ | ⟨_, hu⟩⟩⟩⟩ <;> first | rfl | (cases hu; done)))); (case q4 => (first | exact at0 | exact at1 | exact at2 | exact at3 | exact at4 | exact at5 | exact at6)); (case q5 => omega); (case q6 => assumption))
      | ((refine' Ef_storeA' rfl rfl ?q1 ?q2 ?q3 ?q4 ?_); (case q1 => exact siz_of rfl); (case q2 => (first | assumption | (intro u hu; rcases hu with _ | ⟨_, _ | ⟨_, _ | ⟨_, _ | ⟨_, hu⟩⟩⟩⟩ <;> first | rfl | (cases hu; done)))); (case q3 => (first | exact at0 | exact at1 | exact at2 | exact at3 | exact at4 | exact at5 | exact at6)); (case q4 => rfl))
      | ((refine' Ef_storeC rfl rfl ?q1 ?q2 ?q3 ?q4 ?q5 ?_); (case q1 => rfl); (case q2 => exact siz_of rfl); (case q3 => (first | exact at0 | exact at1 | exact at2 | exact at3 | exact at4 | exact at5 | exact at6)); (case q4 => exact Nat.le_of_ble_eq_true rfl); (case q5 => rfl))))
      | ((with_reducible refine ie_callf ?_); (first
      | ((with_reducible refine g_call 6 ?_); (first | refine Ef_callP rfl rfl ent_6 (fun w _ => awake_c w) ?_))
      | ((with_reducible refine g_call 7 ?_); (first | (refine Ef_callN rfl rfl ent_7 (fun w _ => hfi w) ?_; rintro ⟨A1, c1⟩)))
      | ((with_reducible refine g_call 8 ?_); (first | (((refine' Ef_callNX rfl rfl ent_8 (fun w hp => hch w (hp.rowOf ?q1) (hp.capOf (A := A1) (m := l.length) (cap := c1) ?q2)) ?_); (case q1 => (repeat (first | exact .head _ | apply List.Mem.tail))); (case q2 => (repeat (first | exact .head _ | apply List.Mem.tail)))); rintro ⟨⟨A2, c2⟩, Rw⟩ hR)))
      | ((with_reducible refine g_call 9 ?_); (first | ((refine' Ef_callP rfl rfl ent_9 (fun w hp => hma w (hrow w (hp.own (rM l (A1, c1)) ?q1) (hp.own Rw ?q2))) ?_); (case q1 => (repeat (first | exact .head _ | apply List.Mem.tail))); (case q2 => (repeat (first | exact .head _ | apply List.Mem.tail))))))
      | ((with_reducible refine g_call 10 ?_); (first | refine Ef_callP rfl rfl ent_10 (fun w hp => hat w (hp.rd hrd fun _ => List.not_mem_nil)) ?_))))
      | ((first  | ((with_reducible refine ie_alloc ?_); (((refine' Ef_alloc rfl ?q1 ?_); (case q1 => exact zer_of rfl))))); (first | ((fail_if_success have := b1); intro b1) | ((fail_if_success have := b2); intro b2) | ((fail_if_success have := b3); intro b3) | ((fail_if_success have := b4); intro b4) | ((fail_if_success have := b5); intro b5) | ((fail_if_success have := b6); intro b6) | ((fail_if_success have := b7); intro b7) | ((fail_if_success have := b8); intro b8) | ((fail_if_success have := b9); intro b9) | ((fail_if_success have := b10); intro b10) | ((fail_if_success have := b11); intro b11) | ((fail_if_success have := b12); intro b12)))
      | (fail; (first | ((fail_if_success have := A1); intro A1 c1) | ((fail_if_success have := A2); intro A2 c2) | ((fail_if_success have := A3); intro A3 c3) | ((fail_if_success have := A4); intro A4 c4) | ((fail_if_success have := A5); intro A5 c5) | ((fail_if_success have := A6); intro A6 c6) | ((fail_if_success have := A7); intro A7 c7)))
      | refine Ef_y rfl rfl ?_
      | ((with_reducible refine ie_conv ?_); refine Ef_y' rfl ?_))
  refine T.part (M' := [rM (Cf.ini k0) (A1, c1), .blk b1 (.cells (cV 1 (A1, c1) (Cf.ini k0).length) 26 (0, 0))]) (by (repeat (first | exact Part.nil | refine Part.p0 ?_ | refine Part.p1 ?_ | refine Part.p2 ?_ | refine Part.p3 ?_ | refine Part.p4 ?_ | refine Part.p5 ?_ | refine Part.p6 ?_))) ?_
  refine T.loop (α := Nat × Int × List Mb × (Option Addr × Nat)) (fun s => [(1, .slice B len cap), (5, .pointer (some ⟨b1, 0, none⟩)), (7, .int .i64 (s.1 : Int))]) (fun s => [rM s.2.2.1 s.2.2.2, .blk b1 (.cells (cV s.2.1 s.2.2.2 s.2.2.1.length) 26 (0, 0))]) (fun s => s.1 ≤ len ∧ Cf.May s.2.1 s.2.2.1 ∧ s.2.1 ≤ (s.1 : Int) + 1) (fun s => len - s.1) (0, 1, Cf.ini k0, (A1, c1)) ?_ ?_ ?_ ?_
  · (repeat (first | exact Sub.nil | refine Sub.cons rfl ?_))
  · (repeat (first | exact List.nil_sublist _ | refine List.Sublist.cons_cons _ ?_ | refine List.Sublist.cons _ ?_))
  · exact ⟨Nat.zero_le _, hk0, by show (1 : Int) ≤ ((0 : Nat) : Int) + 1; omega⟩
  · rintro ⟨i, e, l, A1, c1⟩ ⟨hi, hm, he⟩
    dsimp only at hi hm he ⊢
    by_cases hlt : i < len
    · obtain ⟨x0, hxi⟩ := some_of_lt (l := sts) (i := i) (by omega)
      have eA := enc_atA stE_len hxi
      have hx1 := hx x0 (mem_of_some hxi)
      have hst := Cf.step_next hm (x0.1 % 3) (IntKind.wrap .u64 x0.2 % 5)
      have hch := fun w h h2 => changed_c A1 c1 l w h h2 e x0.1 x0.2 hm (by omega) hx1 _ _ rfl rfl
      generalize Cf.step e l (x0.1 % 3) (IntKind.wrap .u64 x0.2 % 5) = s at hst hch
      have hmay := Cf.Next.may hm hst
      have hep := hst.ep
      have hlen := hst.len
      have hl5 := hm.n5
      have he1 := hm.e1
      have hs5 := hmay.n5
      obtain ⟨p, hpp, hpo, kw, xw, iw, hxw, hpw, hww⟩ := hst.places hm
      repeat' (first
          | with_reducible refine T.seq ?_
          | with_reducible refine T.block ?_
          | with_reducible refine T.region ?_
          | with_reducible refine T.skip ?_
          | with_reducible refine T.scope ?_
          | with_reducible refine T.label ?_
          | with_reducible refine scopeQ_n ?_
          | with_reducible refine scopeQ_r ?_
          | with_reducible refine scopeQ_x ?_
          | with_reducible refine T.ret ?_
          | with_reducible refine T.exit ?_
          | with_reducible refine seqQ_n ?_
          | with_reducible refine seqQ_x ?_
          | with_reducible refine seqQ_r ?_
          | with_reducible refine blockQ_n ?_
          | with_reducible refine blockQ_r ?_
          | with_reducible refine blockQ_x ?_
          | ((with_reducible refine g_blkx ?_); refine blockQ_y rfl ?_)
          | with_reducible refine loopQ_x ?_
          | with_reducible refine loopQ_r ?_
          | with_reducible refine joinQ_r ?_
          | with_reducible refine joinQ_x ?_
          | ((with_reducible refine g_cond ?_); (first | refine T.cond_t rfl ?_ | refine T.cond_f rfl ?_ | (refine T.cond_s rfl ?_ ?_ <;> intro hc)))
          | with_reducible refine TL_nil ?_
          | with_reducible refine TS_nil ?_
          | ((with_reducible refine g_draw ?_); (first
          | (((refine' T.joinS (α := (Option Addr × Nat) × Asrt × Nat) (fun z => [(1, .slice B len cap), (5, .pointer (some ⟨b1, 0, none⟩)), (7, .int .i64 (i : Int)), (8, .pointer (some ⟨z.2.2, 0, none⟩))]) (fun z => [.blk z.2.2 (.cells (cV s.1 z.1 s.2.length) 26 (0, 0)), rM l (A1, c1), z.2.1, .blk b1 (.cells (cV e (A1, c1) l.length) 26 (0, 0))]) (fun z => z.2.1 = rM s.2 z.1 ∨ (s = (e, l) ∧ z.1 = (A1, c1))) (T.drawBM (id := 9) (.y 0 (.y 1 (.y 2 (.y 3 (.y 4 (.b 5 (.run [(6, false), (7, false)]) 6 (.run [(5, false), (7, false)]))))))) mixd ?q1 ?_) ?_); (case q1 => kernel_rfl)))
          | (((refine' T.joinS (α := Nat) (fun z => [(1, .slice B len cap), (5, .pointer (some ⟨b1, 0, none⟩)), (7, .int .i64 (i : Int)), (8, .pointer (some ⟨b2, 0, none⟩)), (9, .bool sh), (10, .int .i64 la), (11, .int .i64 (k : Int)), (12, .pointer (some ⟨z, 0, none⟩)), (13, .bool (Cf.mem s.2 xn).isSome)]) (fun z => [.blk z (.cells (mE ((Cf.mem s.2 xn).getD Mb.z)).toArray 36 (0, 0))]) (fun _ => True) (T.drawBM (id := 17) (.y 0 (.y 1 (.y 2 (.y 3 (.y 4 (.y 5 (.y 6 (.b 7 (.run [(8, true), (9, true), (10, true), (11, false), (12, false), (13, true)]) 11 (.run [(7, false), (8, true), (9, true), (10, true), (12, false), (13, true)]))))))))) mixd ?q1 ?_) ?_); (case q1 => kernel_rfl)))
          | (((with_reducible refine' T.drawM (id := 19) [(0, true), (1, true), (2, true), (3, true), (4, false), (5, false), (6, false), (7, false), (8, false), (9, false), (10, true), (11, true), (12, false), (13, false), (14, false), (15, false), (16, false), (17, false), (18, false), (19, false), (20, false), (21, false)] mixd ?q1 ?_); (case q1 => kernel_rfl)))
          | (((with_reducible refine' T.drawM (id := 22) [(0, true), (1, false), (2, false), (3, false), (4, false), (5, false), (6, true), (7, true), (8, true), (9, true), (10, true), (11, true), (12, false), (13, false), (14, false), (15, false)] mixd ?q1 ?_); (case q1 => kernel_rfl)))))
          | ((with_reducible refine TL_y' ?hy ?hd ?_); (case hy => rfl); (case hd => rfl))
          | with_reducible refine TL_e ?_
          | ((with_reducible refine g_TL ?_); (first | refine TL_gy' rfl rfl rfl rfl ?_ | refine TL_gn rfl rfl rfl ?_ | refine TL_gu rfl rfl rfl ?_ | refine TL_ge rfl rfl ?_ | refine TL_gn0 rfl rfl ?_))
          | ((with_reducible refine g_TS ?_); (first | refine TS_y rfl rfl ?_ | refine TS_e rfl ?_ | refine TS_gy rfl rfl rfl rfl ?_ | refine TS_gn rfl rfl rfl rfl ?_ | refine TS_gu rfl rfl rfl rfl ?_ | refine TS_ge rfl rfl rfl ?_ | refine TS_gne rfl rfl rfl rfl ?_ | refine TS_gue rfl rfl rfl rfl ?_ | refine TS_gne0 rfl rfl rfl ?_))
          | ((with_reducible refine TSand ?hd ?_); (case hd => (repeat (first | exact List.nil_sublist _ | refine List.Sublist.cons_cons _ ?_ | refine List.Sublist.cons _ ?_))))
          | ((with_reducible refine TBand ?hd ?_); (case hd => (repeat (first | exact List.nil_sublist _ | refine List.Sublist.cons_cons _ ?_ | refine List.Sublist.cons _ ?_))))
          | ((with_reducible refine g_TB ?_); (first | with_reducible refine TB_run ?_ | refine TB_y rfl rfl ?_ | refine TB_b rfl rfl ?_ ?_ | refine TB_e rfl ?_))
          | ((with_reducible refine is_move ?_); refine ⟨_, Yl_move rfl, ?_⟩)
          | ((with_reducible refine is_assign ?_); refine ⟨_, Yl_assign rfl, ?_⟩)
          | ((with_reducible refine is_pick ?_); (first | refine ⟨_, Yl_pick_t rfl rfl, ?_⟩ | refine ⟨_, Yl_pick_f rfl rfl, ?_⟩))
          | ((with_reducible refine is_fld ?_); (first | ((refine' ⟨_, Yl_fld_ad rfl ?q1, ?_⟩); (case q1 => exact fld_of rfl rfl)) | ((refine' ⟨_, Yl_fld_blk0 rfl ?q1, ?_⟩); (case q1 => exact fld_of rfl rfl)) | ((refine' ⟨_, Yl_fld_blk rfl ?q1, ?_⟩); (case q1 => exact fld_of rfl rfl))))
          | ((with_reducible refine is_load ?_); (first
          | ((refine' ⟨_, Yl_load_old rfl ?q1 ?q2 List.not_mem_nil ?q3, ?_⟩); (case q1 => exact one_of rfl); (case q2 => assumption); (case q3 => rfl))
          | ((refine' ⟨_, Yl_loadA_old rfl ?q1 List.not_mem_nil ?q2, ?_⟩); (case q1 => assumption); (case q2 => exact agg_of rfl))
          | ((refine' ⟨_, Yl_load_blk rfl ?q1 ?q2 ?q3, ?_⟩); (case q1 => exact one_of rfl); (case q2 => (repeat (first | exact .head _ | apply List.Mem.tail))); (case q3 => rfl))
          | ((refine' ⟨_, Yl_loadA_blk rfl ?q1 ?q2, ?_⟩); (case q1 => (repeat (first | exact .head _ | apply List.Mem.tail))); (case q2 => exact agg_of rfl))
          | ((refine' ⟨_, Yl_load_blk rfl ?q1 ?q2 ?q3, ?_⟩); (case q1 => exact one_of rfl); (case q2 => (repeat (first | exact .head _ | apply List.Mem.tail))); (case q3 => assumption))
          | ((refine' ⟨_, Yl_load_rd rfl ?q1 ?q2 List.not_mem_nil ?q3, ?_⟩); (case q1 => exact one_of rfl); (case q2 => assumption); (case q3 => assumption))
          | ((refine' ⟨_, Yl_load_row rfl ?q1 ?q2 ?q3, ?_⟩); (case q1 => exact one_of rfl); (case q2 => (repeat (first | exact .head _ | apply List.Mem.tail))); (case q3 => assumption))
          | ((refine' ⟨_, Yl_loadA_rd rfl ?qa ?qb List.not_mem_nil ?ql ?qc, ?_⟩); (case qa => exact agg_of rfl); (case qb => assumption); (case qc => assumption); (case ql => rfl))
          | ((refine' ⟨_, Yl_loadA_row rfl ?qa ?qb ?ql ?qc, ?_⟩); (case qa => exact agg_of rfl); (case qb => (repeat (first | exact .head _ | apply List.Mem.tail))); (case qc => assumption); (case ql => rfl))))
          | ((with_reducible refine is_idx ?_); (first
          | ((refine' ⟨_, Yl_index rfl rfl ?q1 ?q2 ?q3 (Rd.some_ ?q4 ?q5), ?_⟩); (case q1 => exact und_of rfl); (case q2 => exact siz_of rfl); (case q3 => omega); (case q4 => assumption); (case q5 => omega))
          | ((refine' ⟨_, Yl_index_row rfl rfl ?q1 ?q2 ?q3 ?q4, ?_⟩); (case q1 => exact und_of rfl); (case q2 => exact siz_of rfl); (case q3 => omega); (case q4 => (repeat (first | exact .head _ | apply List.Mem.tail))))
          | ((refine' ⟨_, Yl_index rfl rfl ?q1 ?q2 ?q3 rfl, ?_⟩); (case q1 => exact und_of rfl); (case q2 => exact siz_of rfl); (case q3 => omega))
          | ((refine' ⟨_, Yl_index (j := 0) rfl rfl ?q1 ?q2 ?q3 (Rd.some_ ?q4 ?q5), ?_⟩); (case q1 => exact und_of rfl); (case q2 => exact siz_of rfl); (case q3 => omega); (case q4 => assumption); (case q5 => omega))
          | ((refine' ⟨_, Yl_index_row (j := 0) rfl rfl ?q1 ?q2 ?q3 ?q4, ?_⟩); (case q1 => exact und_of rfl); (case q2 => exact siz_of rfl); (case q3 => omega); (case q4 => (repeat (first | exact .head _ | apply List.Mem.tail))))
          | ((refine' ⟨_, Yl_indexI rfl rfl ?q1 ?q2 ?q3 ?q4 (Rd.some_ ?q5 ?q6), ?_⟩); (case q1 => exact und_of rfl); (case q2 => exact siz_of rfl); (case q3 => omega); (case q4 => omega); (case q5 => assumption); (case q6 => omega))))
          | ((with_reducible refine is_ext ?_); refine ⟨_, Yl_extract rfl rfl, ?_⟩)
          | ((with_reducible refine is_un ?_); refine ⟨_, Yl_not rfl, ?_⟩)
          | ((with_reducible refine is_len ?_); (first | ((refine' ⟨_, Yl_len_slice rfl ?q1, ?_⟩); (case q1 => exact und_of rfl)) | ((refine' ⟨_, Yl_len_string rfl ?q1, ?_⟩); (case q1 => exact und_of rfl))))
          | ((with_reducible refine is_b_lss ?_); (first | ((refine' ⟨_, Yl_lss_t rfl rfl ?q1, ?_⟩); (case q1 => omega)) | ((refine' ⟨_, Yl_lss_f rfl rfl ?q1, ?_⟩); (case q1 => omega)) | (refine sp_lss rfl rfl ?_ ?_ <;> intro hc)))
          | ((with_reducible refine is_b_leq ?_); (first | ((refine' ⟨_, Yl_leq_t rfl rfl ?q1, ?_⟩); (case q1 => omega)) | ((refine' ⟨_, Yl_leq_f rfl rfl ?q1, ?_⟩); (case q1 => omega)) | (refine sp_leq rfl rfl ?_ ?_ <;> intro hc)))
          | ((with_reducible refine is_b_gtr ?_); (first | ((refine' ⟨_, Yl_gtr_t rfl rfl ?q1, ?_⟩); (case q1 => omega)) | ((refine' ⟨_, Yl_gtr_f rfl rfl ?q1, ?_⟩); (case q1 => omega)) | (refine sp_gtr rfl rfl ?_ ?_ <;> intro hc)))
          | ((with_reducible refine is_b_eql ?_); (first | ((refine' ⟨_, Yl_eql_t rfl rfl ?q1, ?_⟩); (case q1 => omega)) | ((refine' ⟨_, Yl_eql_f rfl rfl ?q1, ?_⟩); (case q1 => omega)) | (refine sp_eql rfl rfl ?_ ?_ <;> intro hc) | ((refine' ⟨_, Yl_convW (k := .i64) (k' := .u64) rfl ?q1 ?q2, ?_⟩); (case q1 => exact und_of rfl); (case q2 => exact und_of rfl)) | ((refine' ⟨_, Yl_convI (k := .u64) (k' := .i64) rfl ?q1 ?q2 (wrap_mod _ 5 ?q3 ?q4), ?_⟩); (case q1 => exact und_of rfl); (case q2 => exact und_of rfl); (case q3 => decide); (case q4 => decide)) | ((refine' ⟨_, Yl_remE rfl rfl ?q1 ?q2 rfl, ?_⟩); (case q1 => exact wrap_u64_lo _); (case q2 => decide)) | ((refine' ⟨_, Yl_eql_bool rfl rfl ?q1, ?_⟩); (case q1 => exact und_of rfl)) | ((refine' ⟨_, Yl_eql_strT rfl rfl ?q1, ?_⟩); (case q1 => first | assumption | rfl)) | ((refine' ⟨_, Yl_eql_strF rfl rfl ?q1, ?_⟩); (case q1 => first | assumption | decide)) | (refine sp_eqlS rfl rfl ?_ ?_ <;> intro hc)))
          | ((with_reducible refine is_b_neq ?_); (first | ((refine' ⟨_, Yl_neq_t rfl rfl ?q1, ?_⟩); (case q1 => omega)) | ((refine' ⟨_, Yl_neq_f rfl rfl ?q1, ?_⟩); (case q1 => omega)) | (refine sp_neq rfl rfl ?_ ?_ <;> intro hc) | ((refine' ⟨_, Yl_convW (k := .i64) (k' := .u64) rfl ?q1 ?q2, ?_⟩); (case q1 => exact und_of rfl); (case q2 => exact und_of rfl)) | ((refine' ⟨_, Yl_convI (k := .u64) (k' := .i64) rfl ?q1 ?q2 (wrap_mod _ 5 ?q3 ?q4), ?_⟩); (case q1 => exact und_of rfl); (case q2 => exact und_of rfl); (case q3 => decide); (case q4 => decide)) | ((refine' ⟨_, Yl_remE rfl rfl ?q1 ?q2 rfl, ?_⟩); (case q1 => exact wrap_u64_lo _); (case q2 => decide)) | ((refine' ⟨_, Yl_neq_bool rfl rfl ?q1, ?_⟩); (case q1 => exact und_of rfl)) | ((refine' ⟨_, Yl_neq_strT rfl rfl ?q1, ?_⟩); (case q1 => first | assumption | decide)) | ((refine' ⟨_, Yl_neq_strF rfl rfl ?q1, ?_⟩); (case q1 => first | assumption | rfl)) | (refine sp_neqS rfl rfl ?_ ?_ <;> intro hc)))
          | ((with_reducible refine is_b_add ?_); (first | ((refine' ⟨_, Yl_add rfl rfl ?q1 ?q2, ?_⟩); (case q1 => omega); (case q2 => omega)) | ((refine' ⟨_, Yl_add8 rfl rfl ?q1 ?q2, ?_⟩); (case q1 => omega); (case q2 => omega)) | ((refine' ⟨_, Yl_convW (k := .i64) (k' := .u64) rfl ?q1 ?q2, ?_⟩); (case q1 => exact und_of rfl); (case q2 => exact und_of rfl)) | ((refine' ⟨_, Yl_convI (k := .u64) (k' := .i64) rfl ?q1 ?q2 (wrap_mod _ 5 ?q3 ?q4), ?_⟩); (case q1 => exact und_of rfl); (case q2 => exact und_of rfl); (case q3 => decide); (case q4 => decide)) | ((refine' ⟨_, Yl_remE rfl rfl ?q1 ?q2 rfl, ?_⟩); (case q1 => exact wrap_u64_lo _); (case q2 => decide))))
          | (first | ((refine' ⟨_, Yl_convW (k := .i64) (k' := .u64) rfl ?q1 ?q2, ?_⟩); (case q1 => exact und_of rfl); (case q2 => exact und_of rfl)) | ((refine' ⟨_, Yl_convI (k := .u64) (k' := .i64) rfl ?q1 ?q2 (wrap_mod _ 5 ?q3 ?q4), ?_⟩); (case q1 => exact und_of rfl); (case q2 => exact und_of rfl); (case q3 => decide); (case q4 => decide)) | ((refine' ⟨_, Yl_remE rfl rfl ?q1 ?q2 rfl, ?_⟩); (case q1 => exact wrap_u64_lo _); (case q2 => decide)))
          | ((with_reducible refine ie_store ?_); (first
          | ((refine' Ef_store_row1 rfl rfl ?q1 ?q2 ?q3 ?q4 ?q5 ?_); (case q1 => rfl); (case q2 => exact siz_of rfl); (case q3 => (first | exact at0 | exact at1 | exact at2 | exact at3 | exact at4 | exact at5 | exact at6)); (case q4 => omega); (case q5 => assumption))
          | ((refine' Ef_store_rowA rfl rfl ?q1 ?q2 ?q3 ?q4 ?q5 ?q6 ?_); (case q1 => exact siz_of rfl); (case q2 => rfl); (case q3 => (first | assumption | (intro u hu; rcases hu with _ | ⟨_, _ | ⟨_, _ | ⟨_, _ | ⟨_, hu⟩⟩⟩⟩ <;> first | rfl | (cases hu; done)))); (case q4 => (first | exact at0 | exact at1 | exact at2 | exact at3 | exact at4 | exact at5 | exact at6)); (case q5 => omega); (case q6 => assumption))
          | ((refine' Ef_storeA' rfl rfl ?q1 ?q2 ?q3 ?q4 ?_); (case q1 => exact siz_of rfl); (case q2 => (first | assumption | (intro u hu; rcases hu with _ | ⟨_, _ | ⟨_, _ | ⟨_, _ | ⟨_, hu⟩⟩⟩⟩ <;> first | rfl | (cases hu; done)))); (case q3 => (first | exact at0 | exact at1 | exact at2 | exact at3 | exact at4 | exact at5 | exact at6)); (case q4 => rfl))
          | ((refine' Ef_storeC rfl rfl ?q1 ?q2 ?q3 ?q4 ?q5 ?_); (case q1 => rfl); (case q2 => exact siz_of rfl); (case q3 => (first | exact at0 | exact at1 | exact at2 | exact at3 | exact at4 | exact at5 | exact at6)); (case q4 => exact Nat.le_of_ble_eq_true rfl); (case q5 => rfl))))
          | ((with_reducible refine ie_callf ?_); (first
          | ((with_reducible refine g_call 6 ?_); (first | refine Ef_callP rfl rfl ent_6 (fun w _ => awake_c w) ?_))
          | ((with_reducible refine g_call 7 ?_); (first | (refine Ef_callN rfl rfl ent_7 (fun w _ => hfi w) ?_; rintro ⟨A1, c1⟩)))
          | ((with_reducible refine g_call 8 ?_); (first | (((refine' Ef_callNX rfl rfl ent_8 (fun w hp => hch w (hp.rowOf ?q1) (hp.capOf (A := A1) (m := l.length) (cap := c1) ?q2)) ?_); (case q1 => (repeat (first | exact .head _ | apply List.Mem.tail))); (case q2 => (repeat (first | exact .head _ | apply List.Mem.tail)))); rintro ⟨⟨A2, c2⟩, Rw⟩ hR)))
          | ((with_reducible refine g_call 9 ?_); (first | ((refine' Ef_callP rfl rfl ent_9 (fun w hp => hma w (hrow w (hp.own (rM l (A1, c1)) ?q1) (hp.own Rw ?q2))) ?_); (case q1 => (repeat (first | exact .head _ | apply List.Mem.tail))); (case q2 => (repeat (first | exact .head _ | apply List.Mem.tail))))))
          | ((with_reducible refine g_call 10 ?_); (first | refine Ef_callP rfl rfl ent_10 (fun w hp => hat w (hp.rd hrd fun _ => List.not_mem_nil)) ?_))))
          | ((first  | ((with_reducible refine ie_alloc ?_); (((refine' Ef_alloc rfl ?q1 ?_); (case q1 => exact zer_of rfl))))); (first | ((fail_if_success have := b1); intro b1) | ((fail_if_success have := b2); intro b2) | ((fail_if_success have := b3); intro b3) | ((fail_if_success have := b4); intro b4) | ((fail_if_success have := b5); intro b5) | ((fail_if_success have := b6); intro b6) | ((fail_if_success have := b7); intro b7) | ((fail_if_success have := b8); intro b8) | ((fail_if_success have := b9); intro b9) | ((fail_if_success have := b10); intro b10) | ((fail_if_success have := b11); intro b11) | ((fail_if_success have := b12); intro b12)))
          | (fail; (first | ((fail_if_success have := A1); intro A1 c1) | ((fail_if_success have := A2); intro A2 c2) | ((fail_if_success have := A3); intro A3 c3) | ((fail_if_success have := A4); intro A4 c4) | ((fail_if_success have := A5); intro A5 c5) | ((fail_if_success have := A6); intro A6 c6) | ((fail_if_success have := A7); intro A7 c7)))
          | refine Ef_y rfl rfl ?_
          | ((with_reducible refine ie_conv ?_); refine Ef_y' rfl ?_))
      any_goals exact joinQ_n ((A2, c2), Rw, b2) hR (by (repeat (first | exact Sub.nil | refine Sub.cons rfl ?_))) (by (repeat (first | exact Part.nil | refine Part.p0 ?_ | refine Part.p1 ?_ | refine Part.p2 ?_ | refine Part.p3 ?_ | refine Part.p4 ?_ | refine Part.p5 ?_ | refine Part.p6 ?_)))
      rintro ⟨⟨A2, c2⟩, Rw, b2⟩ hR
      dsimp only at hR ⊢
      have hrow := rd_of hR
      have hma := fun w (h : Rd w A2 s.2.length 3 (s.2.flatMap mE) ∧ s.2.length ≤ c2) => may_v A2 s.2.length c2 s.2 w h.1 rfl (by omega) s.1 true h.2 ((Cf.may_iff _ _).2 hmay)
      refine T.seq (T.joinS (α := Unit) (fun _ => [(1, .slice B len cap), (5, .pointer (some ⟨b1, 0, none⟩)), (7, .int .i64 (i : Int)), (8, .pointer (some ⟨b2, 0, none⟩)), (74, .bool false)]) (fun _ => [.blk b2 (.cells (cV s.1 (A2, c2) s.2.length) 26 (0, 0)), rM l (A1, c1), Rw, .blk b1 (.cells (cV e (A1, c1) l.length) 26 (0, 0))]) (fun _ => True) ?_ ?_)
      · repeat' (first
          | with_reducible refine T.seq ?_
          | with_reducible refine T.block ?_
          | with_reducible refine T.region ?_
          | with_reducible refine T.skip ?_
          | with_reducible refine T.scope ?_
          | with_reducible refine T.label ?_
          | with_reducible refine scopeQ_n ?_
          | with_reducible refine scopeQ_r ?_
          | with_reducible refine scopeQ_x ?_
          | with_reducible refine T.ret ?_
          | with_reducible refine T.exit ?_
          | with_reducible refine seqQ_n ?_
          | with_reducible refine seqQ_x ?_
          | with_reducible refine seqQ_r ?_
          | with_reducible refine blockQ_n ?_
          | with_reducible refine blockQ_r ?_
          | with_reducible refine blockQ_x ?_
          | ((with_reducible refine g_blkx ?_); refine blockQ_y rfl ?_)
          | with_reducible refine loopQ_x ?_
          | with_reducible refine loopQ_r ?_
          | with_reducible refine joinQ_r ?_
          | with_reducible refine joinQ_x ?_
          | ((with_reducible refine g_cond ?_); (first | refine T.cond_t rfl ?_ | refine T.cond_f rfl ?_ | (refine T.cond_s rfl ?_ ?_ <;> intro hc)))
          | with_reducible refine TL_nil ?_
          | with_reducible refine TS_nil ?_
          | ((with_reducible refine g_draw ?_); (first
          | (((refine' T.joinS (α := (Option Addr × Nat) × Asrt × Nat) (fun z => [(1, .slice B len cap), (5, .pointer (some ⟨b1, 0, none⟩)), (7, .int .i64 (i : Int)), (8, .pointer (some ⟨z.2.2, 0, none⟩))]) (fun z => [.blk z.2.2 (.cells (cV s.1 z.1 s.2.length) 26 (0, 0)), rM l (A1, c1), z.2.1, .blk b1 (.cells (cV e (A1, c1) l.length) 26 (0, 0))]) (fun z => z.2.1 = rM s.2 z.1 ∨ (s = (e, l) ∧ z.1 = (A1, c1))) (T.drawBM (id := 9) (.y 0 (.y 1 (.y 2 (.y 3 (.y 4 (.b 5 (.run [(6, false), (7, false)]) 6 (.run [(5, false), (7, false)]))))))) mixd ?q1 ?_) ?_); (case q1 => kernel_rfl)))
          | (((refine' T.joinS (α := Nat) (fun z => [(1, .slice B len cap), (5, .pointer (some ⟨b1, 0, none⟩)), (7, .int .i64 (i : Int)), (8, .pointer (some ⟨b2, 0, none⟩)), (9, .bool sh), (10, .int .i64 la), (11, .int .i64 (k : Int)), (12, .pointer (some ⟨z, 0, none⟩)), (13, .bool (Cf.mem s.2 xn).isSome)]) (fun z => [.blk z (.cells (mE ((Cf.mem s.2 xn).getD Mb.z)).toArray 36 (0, 0))]) (fun _ => True) (T.drawBM (id := 17) (.y 0 (.y 1 (.y 2 (.y 3 (.y 4 (.y 5 (.y 6 (.b 7 (.run [(8, true), (9, true), (10, true), (11, false), (12, false), (13, true)]) 11 (.run [(7, false), (8, true), (9, true), (10, true), (12, false), (13, true)]))))))))) mixd ?q1 ?_) ?_); (case q1 => kernel_rfl)))
          | (((with_reducible refine' T.drawM (id := 19) [(0, true), (1, true), (2, true), (3, true), (4, false), (5, false), (6, false), (7, false), (8, false), (9, false), (10, true), (11, true), (12, false), (13, false), (14, false), (15, false), (16, false), (17, false), (18, false), (19, false), (20, false), (21, false)] mixd ?q1 ?_); (case q1 => kernel_rfl)))
          | (((with_reducible refine' T.drawM (id := 22) [(0, true), (1, false), (2, false), (3, false), (4, false), (5, false), (6, true), (7, true), (8, true), (9, true), (10, true), (11, true), (12, false), (13, false), (14, false), (15, false)] mixd ?q1 ?_); (case q1 => kernel_rfl)))))
          | ((with_reducible refine TL_y' ?hy ?hd ?_); (case hy => rfl); (case hd => rfl))
          | with_reducible refine TL_e ?_
          | ((with_reducible refine g_TL ?_); (first | refine TL_gy' rfl rfl rfl rfl ?_ | refine TL_gn rfl rfl rfl ?_ | refine TL_gu rfl rfl rfl ?_ | refine TL_ge rfl rfl ?_ | refine TL_gn0 rfl rfl ?_))
          | ((with_reducible refine g_TS ?_); (first | refine TS_y rfl rfl ?_ | refine TS_e rfl ?_ | refine TS_gy rfl rfl rfl rfl ?_ | refine TS_gn rfl rfl rfl rfl ?_ | refine TS_gu rfl rfl rfl rfl ?_ | refine TS_ge rfl rfl rfl ?_ | refine TS_gne rfl rfl rfl rfl ?_ | refine TS_gue rfl rfl rfl rfl ?_ | refine TS_gne0 rfl rfl rfl ?_))
          | ((with_reducible refine TSand ?hd ?_); (case hd => (repeat (first | exact List.nil_sublist _ | refine List.Sublist.cons_cons _ ?_ | refine List.Sublist.cons _ ?_))))
          | ((with_reducible refine TBand ?hd ?_); (case hd => (repeat (first | exact List.nil_sublist _ | refine List.Sublist.cons_cons _ ?_ | refine List.Sublist.cons _ ?_))))
          | ((with_reducible refine g_TB ?_); (first | with_reducible refine TB_run ?_ | refine TB_y rfl rfl ?_ | refine TB_b rfl rfl ?_ ?_ | refine TB_e rfl ?_))
          | ((with_reducible refine is_move ?_); refine ⟨_, Yl_move rfl, ?_⟩)
          | ((with_reducible refine is_assign ?_); refine ⟨_, Yl_assign rfl, ?_⟩)
          | ((with_reducible refine is_pick ?_); (first | refine ⟨_, Yl_pick_t rfl rfl, ?_⟩ | refine ⟨_, Yl_pick_f rfl rfl, ?_⟩))
          | ((with_reducible refine is_fld ?_); (first | ((refine' ⟨_, Yl_fld_ad rfl ?q1, ?_⟩); (case q1 => exact fld_of rfl rfl)) | ((refine' ⟨_, Yl_fld_blk0 rfl ?q1, ?_⟩); (case q1 => exact fld_of rfl rfl)) | ((refine' ⟨_, Yl_fld_blk rfl ?q1, ?_⟩); (case q1 => exact fld_of rfl rfl))))
          | ((with_reducible refine is_load ?_); (first
          | ((refine' ⟨_, Yl_load_old rfl ?q1 ?q2 List.not_mem_nil ?q3, ?_⟩); (case q1 => exact one_of rfl); (case q2 => assumption); (case q3 => rfl))
          | ((refine' ⟨_, Yl_loadA_old rfl ?q1 List.not_mem_nil ?q2, ?_⟩); (case q1 => assumption); (case q2 => exact agg_of rfl))
          | ((refine' ⟨_, Yl_load_blk rfl ?q1 ?q2 ?q3, ?_⟩); (case q1 => exact one_of rfl); (case q2 => (repeat (first | exact .head _ | apply List.Mem.tail))); (case q3 => rfl))
          | ((refine' ⟨_, Yl_loadA_blk rfl ?q1 ?q2, ?_⟩); (case q1 => (repeat (first | exact .head _ | apply List.Mem.tail))); (case q2 => exact agg_of rfl))
          | ((refine' ⟨_, Yl_load_blk rfl ?q1 ?q2 ?q3, ?_⟩); (case q1 => exact one_of rfl); (case q2 => (repeat (first | exact .head _ | apply List.Mem.tail))); (case q3 => assumption))
          | ((refine' ⟨_, Yl_load_rd rfl ?q1 ?q2 List.not_mem_nil ?q3, ?_⟩); (case q1 => exact one_of rfl); (case q2 => assumption); (case q3 => assumption))
          | ((refine' ⟨_, Yl_load_row rfl ?q1 ?q2 ?q3, ?_⟩); (case q1 => exact one_of rfl); (case q2 => (repeat (first | exact .head _ | apply List.Mem.tail))); (case q3 => assumption))
          | ((refine' ⟨_, Yl_loadA_rd rfl ?qa ?qb List.not_mem_nil ?ql ?qc, ?_⟩); (case qa => exact agg_of rfl); (case qb => assumption); (case qc => assumption); (case ql => rfl))
          | ((refine' ⟨_, Yl_loadA_row rfl ?qa ?qb ?ql ?qc, ?_⟩); (case qa => exact agg_of rfl); (case qb => (repeat (first | exact .head _ | apply List.Mem.tail))); (case qc => assumption); (case ql => rfl))))
          | ((with_reducible refine is_idx ?_); (first
          | ((refine' ⟨_, Yl_index rfl rfl ?q1 ?q2 ?q3 (Rd.some_ ?q4 ?q5), ?_⟩); (case q1 => exact und_of rfl); (case q2 => exact siz_of rfl); (case q3 => omega); (case q4 => assumption); (case q5 => omega))
          | ((refine' ⟨_, Yl_index_row rfl rfl ?q1 ?q2 ?q3 ?q4, ?_⟩); (case q1 => exact und_of rfl); (case q2 => exact siz_of rfl); (case q3 => omega); (case q4 => (repeat (first | exact .head _ | apply List.Mem.tail))))
          | ((refine' ⟨_, Yl_index rfl rfl ?q1 ?q2 ?q3 rfl, ?_⟩); (case q1 => exact und_of rfl); (case q2 => exact siz_of rfl); (case q3 => omega))
          | ((refine' ⟨_, Yl_index (j := 0) rfl rfl ?q1 ?q2 ?q3 (Rd.some_ ?q4 ?q5), ?_⟩); (case q1 => exact und_of rfl); (case q2 => exact siz_of rfl); (case q3 => omega); (case q4 => assumption); (case q5 => omega))
          | ((refine' ⟨_, Yl_index_row (j := 0) rfl rfl ?q1 ?q2 ?q3 ?q4, ?_⟩); (case q1 => exact und_of rfl); (case q2 => exact siz_of rfl); (case q3 => omega); (case q4 => (repeat (first | exact .head _ | apply List.Mem.tail))))
          | ((refine' ⟨_, Yl_indexI rfl rfl ?q1 ?q2 ?q3 ?q4 (Rd.some_ ?q5 ?q6), ?_⟩); (case q1 => exact und_of rfl); (case q2 => exact siz_of rfl); (case q3 => omega); (case q4 => omega); (case q5 => assumption); (case q6 => omega))))
          | ((with_reducible refine is_ext ?_); refine ⟨_, Yl_extract rfl rfl, ?_⟩)
          | ((with_reducible refine is_un ?_); refine ⟨_, Yl_not rfl, ?_⟩)
          | ((with_reducible refine is_len ?_); (first | ((refine' ⟨_, Yl_len_slice rfl ?q1, ?_⟩); (case q1 => exact und_of rfl)) | ((refine' ⟨_, Yl_len_string rfl ?q1, ?_⟩); (case q1 => exact und_of rfl))))
          | ((with_reducible refine is_b_lss ?_); (first | ((refine' ⟨_, Yl_lss_t rfl rfl ?q1, ?_⟩); (case q1 => omega)) | ((refine' ⟨_, Yl_lss_f rfl rfl ?q1, ?_⟩); (case q1 => omega)) | (refine sp_lss rfl rfl ?_ ?_ <;> intro hc)))
          | ((with_reducible refine is_b_leq ?_); (first | ((refine' ⟨_, Yl_leq_t rfl rfl ?q1, ?_⟩); (case q1 => omega)) | ((refine' ⟨_, Yl_leq_f rfl rfl ?q1, ?_⟩); (case q1 => omega)) | (refine sp_leq rfl rfl ?_ ?_ <;> intro hc)))
          | ((with_reducible refine is_b_gtr ?_); (first | ((refine' ⟨_, Yl_gtr_t rfl rfl ?q1, ?_⟩); (case q1 => omega)) | ((refine' ⟨_, Yl_gtr_f rfl rfl ?q1, ?_⟩); (case q1 => omega)) | (refine sp_gtr rfl rfl ?_ ?_ <;> intro hc)))
          | ((with_reducible refine is_b_eql ?_); (first | ((refine' ⟨_, Yl_eql_t rfl rfl ?q1, ?_⟩); (case q1 => omega)) | ((refine' ⟨_, Yl_eql_f rfl rfl ?q1, ?_⟩); (case q1 => omega)) | (refine sp_eql rfl rfl ?_ ?_ <;> intro hc) | ((refine' ⟨_, Yl_convW (k := .i64) (k' := .u64) rfl ?q1 ?q2, ?_⟩); (case q1 => exact und_of rfl); (case q2 => exact und_of rfl)) | ((refine' ⟨_, Yl_convI (k := .u64) (k' := .i64) rfl ?q1 ?q2 (wrap_mod _ 5 ?q3 ?q4), ?_⟩); (case q1 => exact und_of rfl); (case q2 => exact und_of rfl); (case q3 => decide); (case q4 => decide)) | ((refine' ⟨_, Yl_remE rfl rfl ?q1 ?q2 rfl, ?_⟩); (case q1 => exact wrap_u64_lo _); (case q2 => decide)) | ((refine' ⟨_, Yl_eql_bool rfl rfl ?q1, ?_⟩); (case q1 => exact und_of rfl)) | ((refine' ⟨_, Yl_eql_strT rfl rfl ?q1, ?_⟩); (case q1 => first | assumption | rfl)) | ((refine' ⟨_, Yl_eql_strF rfl rfl ?q1, ?_⟩); (case q1 => first | assumption | decide)) | (refine sp_eqlS rfl rfl ?_ ?_ <;> intro hc)))
          | ((with_reducible refine is_b_neq ?_); (first | ((refine' ⟨_, Yl_neq_t rfl rfl ?q1, ?_⟩); (case q1 => omega)) | ((refine' ⟨_, Yl_neq_f rfl rfl ?q1, ?_⟩); (case q1 => omega)) | (refine sp_neq rfl rfl ?_ ?_ <;> intro hc) | ((refine' ⟨_, Yl_convW (k := .i64) (k' := .u64) rfl ?q1 ?q2, ?_⟩); (case q1 => exact und_of rfl); (case q2 => exact und_of rfl)) | ((refine' ⟨_, Yl_convI (k := .u64) (k' := .i64) rfl ?q1 ?q2 (wrap_mod _ 5 ?q3 ?q4), ?_⟩); (case q1 => exact und_of rfl); (case q2 => exact und_of rfl); (case q3 => decide); (case q4 => decide)) | ((refine' ⟨_, Yl_remE rfl rfl ?q1 ?q2 rfl, ?_⟩); (case q1 => exact wrap_u64_lo _); (case q2 => decide)) | ((refine' ⟨_, Yl_neq_bool rfl rfl ?q1, ?_⟩); (case q1 => exact und_of rfl)) | ((refine' ⟨_, Yl_neq_strT rfl rfl ?q1, ?_⟩); (case q1 => first | assumption | decide)) | ((refine' ⟨_, Yl_neq_strF rfl rfl ?q1, ?_⟩); (case q1 => first | assumption | rfl)) | (refine sp_neqS rfl rfl ?_ ?_ <;> intro hc)))
          | ((with_reducible refine is_b_add ?_); (first | ((refine' ⟨_, Yl_add rfl rfl ?q1 ?q2, ?_⟩); (case q1 => omega); (case q2 => omega)) | ((refine' ⟨_, Yl_add8 rfl rfl ?q1 ?q2, ?_⟩); (case q1 => omega); (case q2 => omega)) | ((refine' ⟨_, Yl_convW (k := .i64) (k' := .u64) rfl ?q1 ?q2, ?_⟩); (case q1 => exact und_of rfl); (case q2 => exact und_of rfl)) | ((refine' ⟨_, Yl_convI (k := .u64) (k' := .i64) rfl ?q1 ?q2 (wrap_mod _ 5 ?q3 ?q4), ?_⟩); (case q1 => exact und_of rfl); (case q2 => exact und_of rfl); (case q3 => decide); (case q4 => decide)) | ((refine' ⟨_, Yl_remE rfl rfl ?q1 ?q2 rfl, ?_⟩); (case q1 => exact wrap_u64_lo _); (case q2 => decide))))
          | (first | ((refine' ⟨_, Yl_convW (k := .i64) (k' := .u64) rfl ?q1 ?q2, ?_⟩); (case q1 => exact und_of rfl); (case q2 => exact und_of rfl)) | ((refine' ⟨_, Yl_convI (k := .u64) (k' := .i64) rfl ?q1 ?q2 (wrap_mod _ 5 ?q3 ?q4), ?_⟩); (case q1 => exact und_of rfl); (case q2 => exact und_of rfl); (case q3 => decide); (case q4 => decide)) | ((refine' ⟨_, Yl_remE rfl rfl ?q1 ?q2 rfl, ?_⟩); (case q1 => exact wrap_u64_lo _); (case q2 => decide)))
          | ((with_reducible refine ie_store ?_); (first
          | ((refine' Ef_store_row1 rfl rfl ?q1 ?q2 ?q3 ?q4 ?q5 ?_); (case q1 => rfl); (case q2 => exact siz_of rfl); (case q3 => (first | exact at0 | exact at1 | exact at2 | exact at3 | exact at4 | exact at5 | exact at6)); (case q4 => omega); (case q5 => assumption))
          | ((refine' Ef_store_rowA rfl rfl ?q1 ?q2 ?q3 ?q4 ?q5 ?q6 ?_); (case q1 => exact siz_of rfl); (case q2 => rfl); (case q3 => (first | assumption | (intro u hu; rcases hu with _ | ⟨_, _ | ⟨_, _ | ⟨_, _ | ⟨_, hu⟩⟩⟩⟩ <;> first | rfl | (cases hu; done)))); (case q4 => (first | exact at0 | exact at1 | exact at2 | exact at3 | exact at4 | exact at5 | exact at6)); (case q5 => omega); (case q6 => assumption))
          | ((refine' Ef_storeA' rfl rfl ?q1 ?q2 ?q3 ?q4 ?_); (case q1 => exact siz_of rfl); (case q2 => (first | assumption | (intro u hu; rcases hu with _ | ⟨_, _ | ⟨_, _ | ⟨_, _ | ⟨_, hu⟩⟩⟩⟩ <;> first | rfl | (cases hu; done)))); (case q3 => (first | exact at0 | exact at1 | exact at2 | exact at3 | exact at4 | exact at5 | exact at6)); (case q4 => rfl))
          | ((refine' Ef_storeC rfl rfl ?q1 ?q2 ?q3 ?q4 ?q5 ?_); (case q1 => rfl); (case q2 => exact siz_of rfl); (case q3 => (first | exact at0 | exact at1 | exact at2 | exact at3 | exact at4 | exact at5 | exact at6)); (case q4 => exact Nat.le_of_ble_eq_true rfl); (case q5 => rfl))))
          | ((with_reducible refine ie_callf ?_); (first
          | ((with_reducible refine g_call 6 ?_); (first | refine Ef_callP rfl rfl ent_6 (fun w _ => awake_c w) ?_))
          | ((with_reducible refine g_call 7 ?_); (first | (refine Ef_callN rfl rfl ent_7 (fun w _ => hfi w) ?_; rintro ⟨A1, c1⟩)))
          | ((with_reducible refine g_call 8 ?_); (first | (((refine' Ef_callNX rfl rfl ent_8 (fun w hp => hch w (hp.rowOf ?q1) (hp.capOf (A := A1) (m := l.length) (cap := c1) ?q2)) ?_); (case q1 => (repeat (first | exact .head _ | apply List.Mem.tail))); (case q2 => (repeat (first | exact .head _ | apply List.Mem.tail)))); rintro ⟨⟨A2, c2⟩, Rw⟩ hR)))
          | ((with_reducible refine g_call 9 ?_); (first | ((refine' Ef_callP rfl rfl ent_9 (fun w hp => hma w (hrow w (hp.own (rM l (A1, c1)) ?q1) (hp.own Rw ?q2))) ?_); (case q1 => (repeat (first | exact .head _ | apply List.Mem.tail))); (case q2 => (repeat (first | exact .head _ | apply List.Mem.tail))))))
          | ((with_reducible refine g_call 10 ?_); (first | refine Ef_callP rfl rfl ent_10 (fun w hp => hat w (hp.rd hrd fun _ => List.not_mem_nil)) ?_))))
          | ((first  | ((with_reducible refine ie_alloc ?_); (((refine' Ef_alloc rfl ?q1 ?_); (case q1 => exact zer_of rfl))))); (first | ((fail_if_success have := b1); intro b1) | ((fail_if_success have := b2); intro b2) | ((fail_if_success have := b3); intro b3) | ((fail_if_success have := b4); intro b4) | ((fail_if_success have := b5); intro b5) | ((fail_if_success have := b6); intro b6) | ((fail_if_success have := b7); intro b7) | ((fail_if_success have := b8); intro b8) | ((fail_if_success have := b9); intro b9) | ((fail_if_success have := b10); intro b10) | ((fail_if_success have := b11); intro b11) | ((fail_if_success have := b12); intro b12)))
          | (fail; (first | ((fail_if_success have := A1); intro A1 c1) | ((fail_if_success have := A2); intro A2 c2) | ((fail_if_success have := A3); intro A3 c3) | ((fail_if_success have := A4); intro A4 c4) | ((fail_if_success have := A5); intro A5 c5) | ((fail_if_success have := A6); intro A6 c6) | ((fail_if_success have := A7); intro A7 c7)))
          | refine Ef_y rfl rfl ?_
          | ((with_reducible refine ie_conv ?_); refine Ef_y' rfl ?_))
        all_goals exact joinQ_n () trivial (by (repeat (first | exact Sub.nil | refine Sub.cons rfl ?_))) (by (repeat (first | exact Part.nil | refine Part.p0 ?_ | refine Part.p1 ?_ | refine Part.p2 ?_ | refine Part.p3 ?_ | refine Part.p4 ?_ | refine Part.p5 ?_ | refine Part.p6 ?_)))
      · intro _ _
        repeat' (first
            | with_reducible refine T.seq ?_
            | with_reducible refine T.block ?_
            | with_reducible refine T.region ?_
            | with_reducible refine T.skip ?_
            | with_reducible refine T.scope ?_
            | with_reducible refine T.label ?_
            | with_reducible refine scopeQ_n ?_
            | with_reducible refine scopeQ_r ?_
            | with_reducible refine scopeQ_x ?_
            | with_reducible refine T.ret ?_
            | with_reducible refine T.exit ?_
            | with_reducible refine seqQ_n ?_
            | with_reducible refine seqQ_x ?_
            | with_reducible refine seqQ_r ?_
            | with_reducible refine blockQ_n ?_
            | with_reducible refine blockQ_r ?_
            | with_reducible refine blockQ_x ?_
            | ((with_reducible refine g_blkx ?_); refine blockQ_y rfl ?_)
            | with_reducible refine loopQ_x ?_
            | with_reducible refine loopQ_r ?_
            | with_reducible refine joinQ_r ?_
            | with_reducible refine joinQ_x ?_
            | ((with_reducible refine g_cond ?_); (first | refine T.cond_t rfl ?_ | refine T.cond_f rfl ?_ | (refine T.cond_s rfl ?_ ?_ <;> intro hc)))
            | with_reducible refine TL_nil ?_
            | with_reducible refine TS_nil ?_
            | ((with_reducible refine g_draw ?_); (first
            | (((refine' T.joinS (α := (Option Addr × Nat) × Asrt × Nat) (fun z => [(1, .slice B len cap), (5, .pointer (some ⟨b1, 0, none⟩)), (7, .int .i64 (i : Int)), (8, .pointer (some ⟨z.2.2, 0, none⟩))]) (fun z => [.blk z.2.2 (.cells (cV s.1 z.1 s.2.length) 26 (0, 0)), rM l (A1, c1), z.2.1, .blk b1 (.cells (cV e (A1, c1) l.length) 26 (0, 0))]) (fun z => z.2.1 = rM s.2 z.1 ∨ (s = (e, l) ∧ z.1 = (A1, c1))) (T.drawBM (id := 9) (.y 0 (.y 1 (.y 2 (.y 3 (.y 4 (.b 5 (.run [(6, false), (7, false)]) 6 (.run [(5, false), (7, false)]))))))) mixd ?q1 ?_) ?_); (case q1 => kernel_rfl)))
            | (((refine' T.joinS (α := Nat) (fun z => [(1, .slice B len cap), (5, .pointer (some ⟨b1, 0, none⟩)), (7, .int .i64 (i : Int)), (8, .pointer (some ⟨b2, 0, none⟩)), (9, .bool sh), (10, .int .i64 la), (11, .int .i64 (k : Int)), (12, .pointer (some ⟨z, 0, none⟩)), (13, .bool (Cf.mem s.2 xn).isSome)]) (fun z => [.blk z (.cells (mE ((Cf.mem s.2 xn).getD Mb.z)).toArray 36 (0, 0))]) (fun _ => True) (T.drawBM (id := 17) (.y 0 (.y 1 (.y 2 (.y 3 (.y 4 (.y 5 (.y 6 (.b 7 (.run [(8, true), (9, true), (10, true), (11, false), (12, false), (13, true)]) 11 (.run [(7, false), (8, true), (9, true), (10, true), (12, false), (13, true)]))))))))) mixd ?q1 ?_) ?_); (case q1 => kernel_rfl)))
            | (((with_reducible refine' T.drawM (id := 19) [(0, true), (1, true), (2, true), (3, true), (4, false), (5, false), (6, false), (7, false), (8, false), (9, false), (10, true), (11, true), (12, false), (13, false), (14, false), (15, false), (16, false), (17, false), (18, false), (19, false), (20, false), (21, false)] mixd ?q1 ?_); (case q1 => kernel_rfl)))
            | (((with_reducible refine' T.drawM (id := 22) [(0, true), (1, false), (2, false), (3, false), (4, false), (5, false), (6, true), (7, true), (8, true), (9, true), (10, true), (11, true), (12, false), (13, false), (14, false), (15, false)] mixd ?q1 ?_); (case q1 => kernel_rfl)))))
            | ((with_reducible refine TL_y' ?hy ?hd ?_); (case hy => rfl); (case hd => rfl))
            | with_reducible refine TL_e ?_
            | ((with_reducible refine g_TL ?_); (first | refine TL_gy' rfl rfl rfl rfl ?_ | refine TL_gn rfl rfl rfl ?_ | refine TL_gu rfl rfl rfl ?_ | refine TL_ge rfl rfl ?_ | refine TL_gn0 rfl rfl ?_))
            | ((with_reducible refine g_TS ?_); (first | refine TS_y rfl rfl ?_ | refine TS_e rfl ?_ | refine TS_gy rfl rfl rfl rfl ?_ | refine TS_gn rfl rfl rfl rfl ?_ | refine TS_gu rfl rfl rfl rfl ?_ | refine TS_ge rfl rfl rfl ?_ | refine TS_gne rfl rfl rfl rfl ?_ | refine TS_gue rfl rfl rfl rfl ?_ | refine TS_gne0 rfl rfl rfl ?_))
            | ((with_reducible refine TSand ?hd ?_); (case hd => (repeat (first | exact List.nil_sublist _ | refine List.Sublist.cons_cons _ ?_ | refine List.Sublist.cons _ ?_))))
            | ((with_reducible refine TBand ?hd ?_); (case hd => (repeat (first | exact List.nil_sublist _ | refine List.Sublist.cons_cons _ ?_ | refine List.Sublist.cons _ ?_))))
            | ((with_reducible refine g_TB ?_); (first | with_reducible refine TB_run ?_ | refine TB_y rfl rfl ?_ | refine TB_b rfl rfl ?_ ?_ | refine TB_e rfl ?_))
            | ((with_reducible refine is_move ?_); refine ⟨_, Yl_move rfl, ?_⟩)
            | ((with_reducible refine is_assign ?_); refine ⟨_, Yl_assign rfl, ?_⟩)
            | ((with_reducible refine is_pick ?_); (first | refine ⟨_, Yl_pick_t rfl rfl, ?_⟩ | refine ⟨_, Yl_pick_f rfl rfl, ?_⟩))
            | ((with_reducible refine is_fld ?_); (first | ((refine' ⟨_, Yl_fld_ad rfl ?q1, ?_⟩); (case q1 => exact fld_of rfl rfl)) | ((refine' ⟨_, Yl_fld_blk0 rfl ?q1, ?_⟩); (case q1 => exact fld_of rfl rfl)) | ((refine' ⟨_, Yl_fld_blk rfl ?q1, ?_⟩); (case q1 => exact fld_of rfl rfl))))
            | ((with_reducible refine is_load ?_); (first
            | ((refine' ⟨_, Yl_load_old rfl ?q1 ?q2 List.not_mem_nil ?q3, ?_⟩); (case q1 => exact one_of rfl); (case q2 => assumption); (case q3 => rfl))
            | ((refine' ⟨_, Yl_loadA_old rfl ?q1 List.not_mem_nil ?q2, ?_⟩); (case q1 => assumption); (case q2 => exact agg_of rfl))
            | ((refine' ⟨_, Yl_load_blk rfl ?q1 ?q2 ?q3, ?_⟩); (case q1 => exact one_of rfl); (case q2 => (repeat (first | exact .head _ | apply List.Mem.tail))); (case q3 => rfl))
            | ((refine' ⟨_, Yl_loadA_blk rfl ?q1 ?q2, ?_⟩); (case q1 => (repeat (first | exact .head _ | apply List.Mem.tail))); (case q2 => exact agg_of rfl))
            | ((refine' ⟨_, Yl_load_blk rfl ?q1 ?q2 ?q3, ?_⟩); (case q1 => exact one_of rfl); (case q2 => (repeat (first | exact .head _ | apply List.Mem.tail))); (case q3 => assumption))
            | ((refine' ⟨_, Yl_load_rd rfl ?q1 ?q2 List.not_mem_nil ?q3, ?_⟩); (case q1 => exact one_of rfl); (case q2 => assumption); (case q3 => assumption))
            | ((refine' ⟨_, Yl_load_row rfl ?q1 ?q2 ?q3, ?_⟩); (case q1 => exact one_of rfl); (case q2 => (repeat (first | exact .head _ | apply List.Mem.tail))); (case q3 => assumption))
            | ((refine' ⟨_, Yl_loadA_rd rfl ?qa ?qb List.not_mem_nil ?ql ?qc, ?_⟩); (case qa => exact agg_of rfl); (case qb => assumption); (case qc => assumption); (case ql => rfl))
            | ((refine' ⟨_, Yl_loadA_row rfl ?qa ?qb ?ql ?qc, ?_⟩); (case qa => exact agg_of rfl); (case qb => (repeat (first | exact .head _ | apply List.Mem.tail))); (case qc => assumption); (case ql => rfl))))
            | ((with_reducible refine is_idx ?_); (first
            | ((refine' ⟨_, Yl_index rfl rfl ?q1 ?q2 ?q3 (Rd.some_ ?q4 ?q5), ?_⟩); (case q1 => exact und_of rfl); (case q2 => exact siz_of rfl); (case q3 => omega); (case q4 => assumption); (case q5 => omega))
            | ((refine' ⟨_, Yl_index_row rfl rfl ?q1 ?q2 ?q3 ?q4, ?_⟩); (case q1 => exact und_of rfl); (case q2 => exact siz_of rfl); (case q3 => omega); (case q4 => (repeat (first | exact .head _ | apply List.Mem.tail))))
            | ((refine' ⟨_, Yl_index rfl rfl ?q1 ?q2 ?q3 rfl, ?_⟩); (case q1 => exact und_of rfl); (case q2 => exact siz_of rfl); (case q3 => omega))
            | ((refine' ⟨_, Yl_index (j := 0) rfl rfl ?q1 ?q2 ?q3 (Rd.some_ ?q4 ?q5), ?_⟩); (case q1 => exact und_of rfl); (case q2 => exact siz_of rfl); (case q3 => omega); (case q4 => assumption); (case q5 => omega))
            | ((refine' ⟨_, Yl_index_row (j := 0) rfl rfl ?q1 ?q2 ?q3 ?q4, ?_⟩); (case q1 => exact und_of rfl); (case q2 => exact siz_of rfl); (case q3 => omega); (case q4 => (repeat (first | exact .head _ | apply List.Mem.tail))))
            | ((refine' ⟨_, Yl_indexI rfl rfl ?q1 ?q2 ?q3 ?q4 (Rd.some_ ?q5 ?q6), ?_⟩); (case q1 => exact und_of rfl); (case q2 => exact siz_of rfl); (case q3 => omega); (case q4 => omega); (case q5 => assumption); (case q6 => omega))))
            | ((with_reducible refine is_ext ?_); refine ⟨_, Yl_extract rfl rfl, ?_⟩)
            | ((with_reducible refine is_un ?_); refine ⟨_, Yl_not rfl, ?_⟩)
            | ((with_reducible refine is_len ?_); (first | ((refine' ⟨_, Yl_len_slice rfl ?q1, ?_⟩); (case q1 => exact und_of rfl)) | ((refine' ⟨_, Yl_len_string rfl ?q1, ?_⟩); (case q1 => exact und_of rfl))))
            | ((with_reducible refine is_b_lss ?_); (first | ((refine' ⟨_, Yl_lss_t rfl rfl ?q1, ?_⟩); (case q1 => omega)) | ((refine' ⟨_, Yl_lss_f rfl rfl ?q1, ?_⟩); (case q1 => omega)) | (refine sp_lss rfl rfl ?_ ?_ <;> intro hc)))
            | ((with_reducible refine is_b_leq ?_); (first | ((refine' ⟨_, Yl_leq_t rfl rfl ?q1, ?_⟩); (case q1 => omega)) | ((refine' ⟨_, Yl_leq_f rfl rfl ?q1, ?_⟩); (case q1 => omega)) | (refine sp_leq rfl rfl ?_ ?_ <;> intro hc)))
            | ((with_reducible refine is_b_gtr ?_); (first | ((refine' ⟨_, Yl_gtr_t rfl rfl ?q1, ?_⟩); (case q1 => omega)) | ((refine' ⟨_, Yl_gtr_f rfl rfl ?q1, ?_⟩); (case q1 => omega)) | (refine sp_gtr rfl rfl ?_ ?_ <;> intro hc)))
            | ((with_reducible refine is_b_eql ?_); (first | ((refine' ⟨_, Yl_eql_t rfl rfl ?q1, ?_⟩); (case q1 => omega)) | ((refine' ⟨_, Yl_eql_f rfl rfl ?q1, ?_⟩); (case q1 => omega)) | (refine sp_eql rfl rfl ?_ ?_ <;> intro hc) | ((refine' ⟨_, Yl_convW (k := .i64) (k' := .u64) rfl ?q1 ?q2, ?_⟩); (case q1 => exact und_of rfl); (case q2 => exact und_of rfl)) | ((refine' ⟨_, Yl_convI (k := .u64) (k' := .i64) rfl ?q1 ?q2 (wrap_mod _ 5 ?q3 ?q4), ?_⟩); (case q1 => exact und_of rfl); (case q2 => exact und_of rfl); (case q3 => decide); (case q4 => decide)) | ((refine' ⟨_, Yl_remE rfl rfl ?q1 ?q2 rfl, ?_⟩); (case q1 => exact wrap_u64_lo _); (case q2 => decide)) | ((refine' ⟨_, Yl_eql_bool rfl rfl ?q1, ?_⟩); (case q1 => exact und_of rfl)) | ((refine' ⟨_, Yl_eql_strT rfl rfl ?q1, ?_⟩); (case q1 => first | assumption | rfl)) | ((refine' ⟨_, Yl_eql_strF rfl rfl ?q1, ?_⟩); (case q1 => first | assumption | decide)) | (refine sp_eqlS rfl rfl ?_ ?_ <;> intro hc)))
            | ((with_reducible refine is_b_neq ?_); (first | ((refine' ⟨_, Yl_neq_t rfl rfl ?q1, ?_⟩); (case q1 => omega)) | ((refine' ⟨_, Yl_neq_f rfl rfl ?q1, ?_⟩); (case q1 => omega)) | (refine sp_neq rfl rfl ?_ ?_ <;> intro hc) | ((refine' ⟨_, Yl_convW (k := .i64) (k' := .u64) rfl ?q1 ?q2, ?_⟩); (case q1 => exact und_of rfl); (case q2 => exact und_of rfl)) | ((refine' ⟨_, Yl_convI (k := .u64) (k' := .i64) rfl ?q1 ?q2 (wrap_mod _ 5 ?q3 ?q4), ?_⟩); (case q1 => exact und_of rfl); (case q2 => exact und_of rfl); (case q3 => decide); (case q4 => decide)) | ((refine' ⟨_, Yl_remE rfl rfl ?q1 ?q2 rfl, ?_⟩); (case q1 => exact wrap_u64_lo _); (case q2 => decide)) | ((refine' ⟨_, Yl_neq_bool rfl rfl ?q1, ?_⟩); (case q1 => exact und_of rfl)) | ((refine' ⟨_, Yl_neq_strT rfl rfl ?q1, ?_⟩); (case q1 => first | assumption | decide)) | ((refine' ⟨_, Yl_neq_strF rfl rfl ?q1, ?_⟩); (case q1 => first | assumption | rfl)) | (refine sp_neqS rfl rfl ?_ ?_ <;> intro hc)))
            | ((with_reducible refine is_b_add ?_); (first | ((refine' ⟨_, Yl_add rfl rfl ?q1 ?q2, ?_⟩); (case q1 => omega); (case q2 => omega)) | ((refine' ⟨_, Yl_add8 rfl rfl ?q1 ?q2, ?_⟩); (case q1 => omega); (case q2 => omega)) | ((refine' ⟨_, Yl_convW (k := .i64) (k' := .u64) rfl ?q1 ?q2, ?_⟩); (case q1 => exact und_of rfl); (case q2 => exact und_of rfl)) | ((refine' ⟨_, Yl_convI (k := .u64) (k' := .i64) rfl ?q1 ?q2 (wrap_mod _ 5 ?q3 ?q4), ?_⟩); (case q1 => exact und_of rfl); (case q2 => exact und_of rfl); (case q3 => decide); (case q4 => decide)) | ((refine' ⟨_, Yl_remE rfl rfl ?q1 ?q2 rfl, ?_⟩); (case q1 => exact wrap_u64_lo _); (case q2 => decide))))
            | (first | ((refine' ⟨_, Yl_convW (k := .i64) (k' := .u64) rfl ?q1 ?q2, ?_⟩); (case q1 => exact und_of rfl); (case q2 => exact und_of rfl)) | ((refine' ⟨_, Yl_convI (k := .u64) (k' := .i64) rfl ?q1 ?q2 (wrap_mod _ 5 ?q3 ?q4), ?_⟩); (case q1 => exact und_of rfl); (case q2 => exact und_of rfl); (case q3 => decide); (case q4 => decide)) | ((refine' ⟨_, Yl_remE rfl rfl ?q1 ?q2 rfl, ?_⟩); (case q1 => exact wrap_u64_lo _); (case q2 => decide)))
            | ((with_reducible refine ie_store ?_); (first
            | ((refine' Ef_store_row1 rfl rfl ?q1 ?q2 ?q3 ?q4 ?q5 ?_); (case q1 => rfl); (case q2 => exact siz_of rfl); (case q3 => (first | exact at0 | exact at1 | exact at2 | exact at3 | exact at4 | exact at5 | exact at6)); (case q4 => omega); (case q5 => assumption))
            | ((refine' Ef_store_rowA rfl rfl ?q1 ?q2 ?q3 ?q4 ?q5 ?q6 ?_); (case q1 => exact siz_of rfl); (case q2 => rfl); (case q3 => (first | assumption | (intro u hu; rcases hu with _ | ⟨_, _ | ⟨_, _ | ⟨_, _ | ⟨_, hu⟩⟩⟩⟩ <;> first | rfl | (cases hu; done)))); (case q4 => (first | exact at0 | exact at1 | exact at2 | exact at3 | exact at4 | exact at5 | exact at6)); (case q5 => omega); (case q6 => assumption))
            | ((refine' Ef_storeA' rfl rfl ?q1 ?q2 ?q3 ?q4 ?_); (case q1 => exact siz_of rfl); (case q2 => (first | assumption | (intro u hu; rcases hu with _ | ⟨_, _ | ⟨_, _ | ⟨_, _ | ⟨_, hu⟩⟩⟩⟩ <;> first | rfl | (cases hu; done)))); (case q3 => (first | exact at0 | exact at1 | exact at2 | exact at3 | exact at4 | exact at5 | exact at6)); (case q4 => rfl))
            | ((refine' Ef_storeC rfl rfl ?q1 ?q2 ?q3 ?q4 ?q5 ?_); (case q1 => rfl); (case q2 => exact siz_of rfl); (case q3 => (first | exact at0 | exact at1 | exact at2 | exact at3 | exact at4 | exact at5 | exact at6)); (case q4 => exact Nat.le_of_ble_eq_true rfl); (case q5 => rfl))))
            | ((with_reducible refine ie_callf ?_); (first
            | ((with_reducible refine g_call 6 ?_); (first | refine Ef_callP rfl rfl ent_6 (fun w _ => awake_c w) ?_))
            | ((with_reducible refine g_call 7 ?_); (first | (refine Ef_callN rfl rfl ent_7 (fun w _ => hfi w) ?_; rintro ⟨A1, c1⟩)))
            | ((with_reducible refine g_call 8 ?_); (first | (((refine' Ef_callNX rfl rfl ent_8 (fun w hp => hch w (hp.rowOf ?q1) (hp.capOf (A := A1) (m := l.length) (cap := c1) ?q2)) ?_); (case q1 => (repeat (first | exact .head _ | apply List.Mem.tail))); (case q2 => (repeat (first | exact .head _ | apply List.Mem.tail)))); rintro ⟨⟨A2, c2⟩, Rw⟩ hR)))
            | ((with_reducible refine g_call 9 ?_); (first | ((refine' Ef_callP rfl rfl ent_9 (fun w hp => hma w (hrow w (hp.own (rM l (A1, c1)) ?q1) (hp.own Rw ?q2))) ?_); (case q1 => (repeat (first | exact .head _ | apply List.Mem.tail))); (case q2 => (repeat (first | exact .head _ | apply List.Mem.tail))))))
            | ((with_reducible refine g_call 10 ?_); (first | refine Ef_callP rfl rfl ent_10 (fun w hp => hat w (hp.rd hrd fun _ => List.not_mem_nil)) ?_))))
            | ((first  | ((with_reducible refine ie_alloc ?_); (((refine' Ef_alloc rfl ?q1 ?_); (case q1 => exact zer_of rfl))))); (first | ((fail_if_success have := b1); intro b1) | ((fail_if_success have := b2); intro b2) | ((fail_if_success have := b3); intro b3) | ((fail_if_success have := b4); intro b4) | ((fail_if_success have := b5); intro b5) | ((fail_if_success have := b6); intro b6) | ((fail_if_success have := b7); intro b7) | ((fail_if_success have := b8); intro b8) | ((fail_if_success have := b9); intro b9) | ((fail_if_success have := b10); intro b10) | ((fail_if_success have := b11); intro b11) | ((fail_if_success have := b12); intro b12)))
            | (fail; (first | ((fail_if_success have := A1); intro A1 c1) | ((fail_if_success have := A2); intro A2 c2) | ((fail_if_success have := A3); intro A3 c3) | ((fail_if_success have := A4); intro A4 c4) | ((fail_if_success have := A5); intro A5 c5) | ((fail_if_success have := A6); intro A6 c6) | ((fail_if_success have := A7); intro A7 c7)))
            | refine Ef_y rfl rfl ?_
            | ((with_reducible refine ie_conv ?_); refine Ef_y' rfl ?_))
        refine T.freeze fun w1 hp1 => ?_
        obtain ⟨hrd, hcd⟩ := hrow w1 (hp1.own (rM l (A1, c1)) (by (repeat (first | exact .head _ | apply List.Mem.tail)))) (hp1.own Rw (by (repeat (first | exact .head _ | apply List.Mem.tail))))
        have hrc : Rd w1 A1 l.length 3 (l.flatMap mE) := hp1.rowOf (cap := c1) (by (repeat (first | exact .head _ | apply List.Mem.tail)))
        have hb1 := hp1.blkOf (b := b1) (o := (.cells (cV e (A1, c1) l.length) 26 (0, 0))) (by (repeat (first | exact .head _ | apply List.Mem.tail)))
        have hb2 := hp1.blkOf (b := b2) (o := (.cells (cV s.1 (A2, c2) s.2.length) 26 (0, 0))) (by (repeat (first | exact .head _ | apply List.Mem.tail)))
        refine T.loop (α := Nat × Bool × Int) (fun z => [(1, .slice B len cap), (5, .pointer (some ⟨b1, 0, none⟩)), (7, .int .i64 (i : Int)), (8, .pointer (some ⟨b2, 0, none⟩)), (9, .bool z.2.1), (10, .int .i64 z.2.2), (11, .int .i64 (z.1 : Int))]) (fun _ => []) (fun z => z.1 ≤ l.length ∧ (z.2.2 = -1 ∨ ∃ k' i, k' < z.1 ∧ p k' = some i ∧ z.2.2 = (i : Int)) ∧ (z.2.1 = true ∨ ∀ k' x i, k' < z.1 → l[k']? = some x → p k' = some i → x.2.2 = false)) (fun z => l.length - z.1) (0, false, -1) ?_ ?_ ?_ ?_
        · (repeat (first | exact Sub.nil | refine Sub.cons rfl ?_))
        · (repeat (first | exact List.nil_sublist _ | refine List.Sublist.cons_cons _ ?_ | refine List.Sublist.cons _ ?_))
        · exact ⟨Nat.zero_le _, .inl rfl, .inr fun k' x i h => absurd h (by show ¬ k' < 0; omega)⟩
        · rintro ⟨k, sh, la⟩ ⟨hk, hla, hsh⟩
          dsimp only at hk hla hsh ⊢
          by_cases hkl : k < l.length
          · obtain ⟨⟨xn, xs, xh⟩, hxk⟩ := some_of_lt (l := l) (i := k) hkl
            have e0 := enc_at mE_len hxk (j := 0) (by decide)
            have e1 := enc_at mE_len hxk (j := 1) (by decide)
            have e2 := enc_at mE_len hxk (j := 2) (by decide)
            have hat := fun w h => mem_c A2 s.2.length c2 s.2 w h rfl hcd s.1 hmay xn
            have hpk := hpp k _ hxk
            repeat' (first
                | with_reducible refine T.seq ?_
                | with_reducible refine T.block ?_
                | with_reducible refine T.region ?_
                | with_reducible refine T.skip ?_
                | with_reducible refine T.scope ?_
                | with_reducible refine T.label ?_
                | with_reducible refine scopeQ_n ?_
                | with_reducible refine scopeQ_r ?_
                | with_reducible refine scopeQ_x ?_
                | with_reducible refine T.ret ?_
                | with_reducible refine T.exit ?_
                | with_reducible refine seqQ_n ?_
                | with_reducible refine seqQ_x ?_
                | with_reducible refine seqQ_r ?_
                | with_reducible refine blockQ_n ?_
                | with_reducible refine blockQ_r ?_
                | with_reducible refine blockQ_x ?_
                | ((with_reducible refine g_blkx ?_); refine blockQ_y rfl ?_)
                | with_reducible refine loopQ_x ?_
                | with_reducible refine loopQ_r ?_
                | with_reducible refine joinQ_r ?_
                | with_reducible refine joinQ_x ?_
                | ((with_reducible refine g_cond ?_); (first | refine T.cond_t rfl ?_ | refine T.cond_f rfl ?_ | (refine T.cond_s rfl ?_ ?_ <;> intro hc)))
                | with_reducible refine TL_nil ?_
                | with_reducible refine TS_nil ?_
                | ((with_reducible refine g_draw ?_); (first
                | (((refine' T.joinS (α := (Option Addr × Nat) × Asrt × Nat) (fun z => [(1, .slice B len cap), (5, .pointer (some ⟨b1, 0, none⟩)), (7, .int .i64 (i : Int)), (8, .pointer (some ⟨z.2.2, 0, none⟩))]) (fun z => [.blk z.2.2 (.cells (cV s.1 z.1 s.2.length) 26 (0, 0)), rM l (A1, c1), z.2.1, .blk b1 (.cells (cV e (A1, c1) l.length) 26 (0, 0))]) (fun z => z.2.1 = rM s.2 z.1 ∨ (s = (e, l) ∧ z.1 = (A1, c1))) (T.drawBM (id := 9) (.y 0 (.y 1 (.y 2 (.y 3 (.y 4 (.b 5 (.run [(6, false), (7, false)]) 6 (.run [(5, false), (7, false)]))))))) mixd ?q1 ?_) ?_); (case q1 => kernel_rfl)))
                | (((refine' T.joinS (α := Nat) (fun z => [(1, .slice B len cap), (5, .pointer (some ⟨b1, 0, none⟩)), (7, .int .i64 (i : Int)), (8, .pointer (some ⟨b2, 0, none⟩)), (9, .bool sh), (10, .int .i64 la), (11, .int .i64 (k : Int)), (12, .pointer (some ⟨z, 0, none⟩)), (13, .bool (Cf.mem s.2 xn).isSome)]) (fun z => [.blk z (.cells (mE ((Cf.mem s.2 xn).getD Mb.z)).toArray 36 (0, 0))]) (fun _ => True) (T.drawBM (id := 17) (.y 0 (.y 1 (.y 2 (.y 3 (.y 4 (.y 5 (.y 6 (.b 7 (.run [(8, true), (9, true), (10, true), (11, false), (12, false), (13, true)]) 11 (.run [(7, false), (8, true), (9, true), (10, true), (12, false), (13, true)]))))))))) mixd ?q1 ?_) ?_); (case q1 => kernel_rfl)))
                | (((with_reducible refine' T.drawM (id := 19) [(0, true), (1, true), (2, true), (3, true), (4, false), (5, false), (6, false), (7, false), (8, false), (9, false), (10, true), (11, true), (12, false), (13, false), (14, false), (15, false), (16, false), (17, false), (18, false), (19, false), (20, false), (21, false)] mixd ?q1 ?_); (case q1 => kernel_rfl)))
                | (((with_reducible refine' T.drawM (id := 22) [(0, true), (1, false), (2, false), (3, false), (4, false), (5, false), (6, true), (7, true), (8, true), (9, true), (10, true), (11, true), (12, false), (13, false), (14, false), (15, false)] mixd ?q1 ?_); (case q1 => kernel_rfl)))))
                | ((with_reducible refine TL_y' ?hy ?hd ?_); (case hy => rfl); (case hd => rfl))
                | with_reducible refine TL_e ?_
                | ((with_reducible refine g_TL ?_); (first | refine TL_gy' rfl rfl rfl rfl ?_ | refine TL_gn rfl rfl rfl ?_ | refine TL_gu rfl rfl rfl ?_ | refine TL_ge rfl rfl ?_ | refine TL_gn0 rfl rfl ?_))
                | ((with_reducible refine g_TS ?_); (first | refine TS_y rfl rfl ?_ | refine TS_e rfl ?_ | refine TS_gy rfl rfl rfl rfl ?_ | refine TS_gn rfl rfl rfl rfl ?_ | refine TS_gu rfl rfl rfl rfl ?_ | refine TS_ge rfl rfl rfl ?_ | refine TS_gne rfl rfl rfl rfl ?_ | refine TS_gue rfl rfl rfl rfl ?_ | refine TS_gne0 rfl rfl rfl ?_))
                | ((with_reducible refine TSand ?hd ?_); (case hd => (repeat (first | exact List.nil_sublist _ | refine List.Sublist.cons_cons _ ?_ | refine List.Sublist.cons _ ?_))))
                | ((with_reducible refine TBand ?hd ?_); (case hd => (repeat (first | exact List.nil_sublist _ | refine List.Sublist.cons_cons _ ?_ | refine List.Sublist.cons _ ?_))))
                | ((with_reducible refine g_TB ?_); (first | with_reducible refine TB_run ?_ | refine TB_y rfl rfl ?_ | refine TB_b rfl rfl ?_ ?_ | refine TB_e rfl ?_))
                | ((with_reducible refine is_move ?_); refine ⟨_, Yl_move rfl, ?_⟩)
                | ((with_reducible refine is_assign ?_); refine ⟨_, Yl_assign rfl, ?_⟩)
                | ((with_reducible refine is_pick ?_); (first | refine ⟨_, Yl_pick_t rfl rfl, ?_⟩ | refine ⟨_, Yl_pick_f rfl rfl, ?_⟩))
                | ((with_reducible refine is_fld ?_); (first | ((refine' ⟨_, Yl_fld_ad rfl ?q1, ?_⟩); (case q1 => exact fld_of rfl rfl)) | ((refine' ⟨_, Yl_fld_blk0 rfl ?q1, ?_⟩); (case q1 => exact fld_of rfl rfl)) | ((refine' ⟨_, Yl_fld_blk rfl ?q1, ?_⟩); (case q1 => exact fld_of rfl rfl))))
                | ((with_reducible refine is_load ?_); (first
                | ((refine' ⟨_, Yl_load_old rfl ?q1 ?q2 List.not_mem_nil ?q3, ?_⟩); (case q1 => exact one_of rfl); (case q2 => assumption); (case q3 => rfl))
                | ((refine' ⟨_, Yl_loadA_old rfl ?q1 List.not_mem_nil ?q2, ?_⟩); (case q1 => assumption); (case q2 => exact agg_of rfl))
                | ((refine' ⟨_, Yl_load_blk rfl ?q1 ?q2 ?q3, ?_⟩); (case q1 => exact one_of rfl); (case q2 => (repeat (first | exact .head _ | apply List.Mem.tail))); (case q3 => rfl))
                | ((refine' ⟨_, Yl_loadA_blk rfl ?q1 ?q2, ?_⟩); (case q1 => (repeat (first | exact .head _ | apply List.Mem.tail))); (case q2 => exact agg_of rfl))
                | ((refine' ⟨_, Yl_load_blk rfl ?q1 ?q2 ?q3, ?_⟩); (case q1 => exact one_of rfl); (case q2 => (repeat (first | exact .head _ | apply List.Mem.tail))); (case q3 => assumption))
                | ((refine' ⟨_, Yl_load_rd rfl ?q1 ?q2 List.not_mem_nil ?q3, ?_⟩); (case q1 => exact one_of rfl); (case q2 => assumption); (case q3 => assumption))
                | ((refine' ⟨_, Yl_load_row rfl ?q1 ?q2 ?q3, ?_⟩); (case q1 => exact one_of rfl); (case q2 => (repeat (first | exact .head _ | apply List.Mem.tail))); (case q3 => assumption))
                | ((refine' ⟨_, Yl_loadA_rd rfl ?qa ?qb List.not_mem_nil ?ql ?qc, ?_⟩); (case qa => exact agg_of rfl); (case qb => assumption); (case qc => assumption); (case ql => rfl))
                | ((refine' ⟨_, Yl_loadA_row rfl ?qa ?qb ?ql ?qc, ?_⟩); (case qa => exact agg_of rfl); (case qb => (repeat (first | exact .head _ | apply List.Mem.tail))); (case qc => assumption); (case ql => rfl))))
                | ((with_reducible refine is_idx ?_); (first
                | ((refine' ⟨_, Yl_index rfl rfl ?q1 ?q2 ?q3 (Rd.some_ ?q4 ?q5), ?_⟩); (case q1 => exact und_of rfl); (case q2 => exact siz_of rfl); (case q3 => omega); (case q4 => assumption); (case q5 => omega))
                | ((refine' ⟨_, Yl_index_row rfl rfl ?q1 ?q2 ?q3 ?q4, ?_⟩); (case q1 => exact und_of rfl); (case q2 => exact siz_of rfl); (case q3 => omega); (case q4 => (repeat (first | exact .head _ | apply List.Mem.tail))))
                | ((refine' ⟨_, Yl_index rfl rfl ?q1 ?q2 ?q3 rfl, ?_⟩); (case q1 => exact und_of rfl); (case q2 => exact siz_of rfl); (case q3 => omega))
                | ((refine' ⟨_, Yl_index (j := 0) rfl rfl ?q1 ?q2 ?q3 (Rd.some_ ?q4 ?q5), ?_⟩); (case q1 => exact und_of rfl); (case q2 => exact siz_of rfl); (case q3 => omega); (case q4 => assumption); (case q5 => omega))
                | ((refine' ⟨_, Yl_index_row (j := 0) rfl rfl ?q1 ?q2 ?q3 ?q4, ?_⟩); (case q1 => exact und_of rfl); (case q2 => exact siz_of rfl); (case q3 => omega); (case q4 => (repeat (first | exact .head _ | apply List.Mem.tail))))
                | ((refine' ⟨_, Yl_indexI rfl rfl ?q1 ?q2 ?q3 ?q4 (Rd.some_ ?q5 ?q6), ?_⟩); (case q1 => exact und_of rfl); (case q2 => exact siz_of rfl); (case q3 => omega); (case q4 => omega); (case q5 => assumption); (case q6 => omega))))
                | ((with_reducible refine is_ext ?_); refine ⟨_, Yl_extract rfl rfl, ?_⟩)
                | ((with_reducible refine is_un ?_); refine ⟨_, Yl_not rfl, ?_⟩)
                | ((with_reducible refine is_len ?_); (first | ((refine' ⟨_, Yl_len_slice rfl ?q1, ?_⟩); (case q1 => exact und_of rfl)) | ((refine' ⟨_, Yl_len_string rfl ?q1, ?_⟩); (case q1 => exact und_of rfl))))
                | ((with_reducible refine is_b_lss ?_); (first | ((refine' ⟨_, Yl_lss_t rfl rfl ?q1, ?_⟩); (case q1 => omega)) | ((refine' ⟨_, Yl_lss_f rfl rfl ?q1, ?_⟩); (case q1 => omega)) | (refine sp_lss rfl rfl ?_ ?_ <;> intro hc)))
                | ((with_reducible refine is_b_leq ?_); (first | ((refine' ⟨_, Yl_leq_t rfl rfl ?q1, ?_⟩); (case q1 => omega)) | ((refine' ⟨_, Yl_leq_f rfl rfl ?q1, ?_⟩); (case q1 => omega)) | (refine sp_leq rfl rfl ?_ ?_ <;> intro hc)))
                | ((with_reducible refine is_b_gtr ?_); (first | ((refine' ⟨_, Yl_gtr_t rfl rfl ?q1, ?_⟩); (case q1 => omega)) | ((refine' ⟨_, Yl_gtr_f rfl rfl ?q1, ?_⟩); (case q1 => omega)) | (refine sp_gtr rfl rfl ?_ ?_ <;> intro hc)))
                | ((with_reducible refine is_b_eql ?_); (first | ((refine' ⟨_, Yl_eql_t rfl rfl ?q1, ?_⟩); (case q1 => omega)) | ((refine' ⟨_, Yl_eql_f rfl rfl ?q1, ?_⟩); (case q1 => omega)) | (refine sp_eql rfl rfl ?_ ?_ <;> intro hc) | ((refine' ⟨_, Yl_convW (k := .i64) (k' := .u64) rfl ?q1 ?q2, ?_⟩); (case q1 => exact und_of rfl); (case q2 => exact und_of rfl)) | ((refine' ⟨_, Yl_convI (k := .u64) (k' := .i64) rfl ?q1 ?q2 (wrap_mod _ 5 ?q3 ?q4), ?_⟩); (case q1 => exact und_of rfl); (case q2 => exact und_of rfl); (case q3 => decide); (case q4 => decide)) | ((refine' ⟨_, Yl_remE rfl rfl ?q1 ?q2 rfl, ?_⟩); (case q1 => exact wrap_u64_lo _); (case q2 => decide)) | ((refine' ⟨_, Yl_eql_bool rfl rfl ?q1, ?_⟩); (case q1 => exact und_of rfl)) | ((refine' ⟨_, Yl_eql_strT rfl rfl ?q1, ?_⟩); (case q1 => first | assumption | rfl)) | ((refine' ⟨_, Yl_eql_strF rfl rfl ?q1, ?_⟩); (case q1 => first | assumption | decide)) | (refine sp_eqlS rfl rfl ?_ ?_ <;> intro hc)))
                | ((with_reducible refine is_b_neq ?_); (first | ((refine' ⟨_, Yl_neq_t rfl rfl ?q1, ?_⟩); (case q1 => omega)) | ((refine' ⟨_, Yl_neq_f rfl rfl ?q1, ?_⟩); (case q1 => omega)) | (refine sp_neq rfl rfl ?_ ?_ <;> intro hc) | ((refine' ⟨_, Yl_convW (k := .i64) (k' := .u64) rfl ?q1 ?q2, ?_⟩); (case q1 => exact und_of rfl); (case q2 => exact und_of rfl)) | ((refine' ⟨_, Yl_convI (k := .u64) (k' := .i64) rfl ?q1 ?q2 (wrap_mod _ 5 ?q3 ?q4), ?_⟩); (case q1 => exact und_of rfl); (case q2 => exact und_of rfl); (case q3 => decide); (case q4 => decide)) | ((refine' ⟨_, Yl_remE rfl rfl ?q1 ?q2 rfl, ?_⟩); (case q1 => exact wrap_u64_lo _); (case q2 => decide)) | ((refine' ⟨_, Yl_neq_bool rfl rfl ?q1, ?_⟩); (case q1 => exact und_of rfl)) | ((refine' ⟨_, Yl_neq_strT rfl rfl ?q1, ?_⟩); (case q1 => first | assumption | decide)) | ((refine' ⟨_, Yl_neq_strF rfl rfl ?q1, ?_⟩); (case q1 => first | assumption | rfl)) | (refine sp_neqS rfl rfl ?_ ?_ <;> intro hc)))
                | ((with_reducible refine is_b_add ?_); (first | ((refine' ⟨_, Yl_add rfl rfl ?q1 ?q2, ?_⟩); (case q1 => omega); (case q2 => omega)) | ((refine' ⟨_, Yl_add8 rfl rfl ?q1 ?q2, ?_⟩); (case q1 => omega); (case q2 => omega)) | ((refine' ⟨_, Yl_convW (k := .i64) (k' := .u64) rfl ?q1 ?q2, ?_⟩); (case q1 => exact und_of rfl); (case q2 => exact und_of rfl)) | ((refine' ⟨_, Yl_convI (k := .u64) (k' := .i64) rfl ?q1 ?q2 (wrap_mod _ 5 ?q3 ?q4), ?_⟩); (case q1 => exact und_of rfl); (case q2 => exact und_of rfl); (case q3 => decide); (case q4 => decide)) | ((refine' ⟨_, Yl_remE rfl rfl ?q1 ?q2 rfl, ?_⟩); (case q1 => exact wrap_u64_lo _); (case q2 => decide))))
                | (first | ((refine' ⟨_, Yl_convW (k := .i64) (k' := .u64) rfl ?q1 ?q2, ?_⟩); (case q1 => exact und_of rfl); (case q2 => exact und_of rfl)) | ((refine' ⟨_, Yl_convI (k := .u64) (k' := .i64) rfl ?q1 ?q2 (wrap_mod _ 5 ?q3 ?q4), ?_⟩); (case q1 => exact und_of rfl); (case q2 => exact und_of rfl); (case q3 => decide); (case q4 => decide)) | ((refine' ⟨_, Yl_remE rfl rfl ?q1 ?q2 rfl, ?_⟩); (case q1 => exact wrap_u64_lo _); (case q2 => decide)))
                | ((with_reducible refine ie_store ?_); (first
                | ((refine' Ef_store_row1 rfl rfl ?q1 ?q2 ?q3 ?q4 ?q5 ?_); (case q1 => rfl); (case q2 => exact siz_of rfl); (case q3 => (first | exact at0 | exact at1 | exact at2 | exact at3 | exact at4 | exact at5 | exact at6)); (case q4 => omega); (case q5 => assumption))
                | ((refine' Ef_store_rowA rfl rfl ?q1 ?q2 ?q3 ?q4 ?q5 ?q6 ?_); (case q1 => exact siz_of rfl); (case q2 => rfl); (case q3 => (first | assumption | (intro u hu; rcases hu with _ | ⟨_, _ | ⟨_, _ | ⟨_, _ | ⟨_, hu⟩⟩⟩⟩ <;> first | rfl | (cases hu; done)))); (case q4 => (first | exact at0 | exact at1 | exact at2 | exact at3 | exact at4 | exact at5 | exact at6)); (case q5 => omega); (case q6 => assumption))
                | ((refine' Ef_storeA' rfl rfl ?q1 ?q2 ?q3 ?q4 ?_); (case q1 => exact siz_of rfl); (case q2 => (first | assumption | (intro u hu; rcases hu with _ | ⟨_, _ | ⟨_, _ | ⟨_, _ | ⟨_, hu⟩⟩⟩⟩ <;> first | rfl | (cases hu; done)))); (case q3 => (first | exact at0 | exact at1 | exact at2 | exact at3 | exact at4 | exact at5 | exact at6)); (case q4 => rfl))
                | ((refine' Ef_storeC rfl rfl ?q1 ?q2 ?q3 ?q4 ?q5 ?_); (case q1 => rfl); (case q2 => exact siz_of rfl); (case q3 => (first | exact at0 | exact at1 | exact at2 | exact at3 | exact at4 | exact at5 | exact at6)); (case q4 => exact Nat.le_of_ble_eq_true rfl); (case q5 => rfl))))
                | ((with_reducible refine ie_callf ?_); (first
                | ((with_reducible refine g_call 6 ?_); (first | refine Ef_callP rfl rfl ent_6 (fun w _ => awake_c w) ?_))
                | ((with_reducible refine g_call 7 ?_); (first | (refine Ef_callN rfl rfl ent_7 (fun w _ => hfi w) ?_; rintro ⟨A1, c1⟩)))
                | ((with_reducible refine g_call 8 ?_); (first | (((refine' Ef_callNX rfl rfl ent_8 (fun w hp => hch w (hp.rowOf ?q1) (hp.capOf (A := A1) (m := l.length) (cap := c1) ?q2)) ?_); (case q1 => (repeat (first | exact .head _ | apply List.Mem.tail))); (case q2 => (repeat (first | exact .head _ | apply List.Mem.tail)))); rintro ⟨⟨A2, c2⟩, Rw⟩ hR)))
                | ((with_reducible refine g_call 9 ?_); (first | ((refine' Ef_callP rfl rfl ent_9 (fun w hp => hma w (hrow w (hp.own (rM l (A1, c1)) ?q1) (hp.own Rw ?q2))) ?_); (case q1 => (repeat (first | exact .head _ | apply List.Mem.tail))); (case q2 => (repeat (first | exact .head _ | apply List.Mem.tail))))))
                | ((with_reducible refine g_call 10 ?_); (first | refine Ef_callP rfl rfl ent_10 (fun w hp => hat w (hp.rd hrd fun _ => List.not_mem_nil)) ?_))))
                | ((first  | ((with_reducible refine ie_alloc ?_); (((refine' Ef_alloc rfl ?q1 ?_); (case q1 => exact zer_of rfl))))); (first | ((fail_if_success have := b1); intro b1) | ((fail_if_success have := b2); intro b2) | ((fail_if_success have := b3); intro b3) | ((fail_if_success have := b4); intro b4) | ((fail_if_success have := b5); intro b5) | ((fail_if_success have := b6); intro b6) | ((fail_if_success have := b7); intro b7) | ((fail_if_success have := b8); intro b8) | ((fail_if_success have := b9); intro b9) | ((fail_if_success have := b10); intro b10) | ((fail_if_success have := b11); intro b11) | ((fail_if_success have := b12); intro b12)))
                | (fail; (first | ((fail_if_success have := A1); intro A1 c1) | ((fail_if_success have := A2); intro A2 c2) | ((fail_if_success have := A3); intro A3 c3) | ((fail_if_success have := A4); intro A4 c4) | ((fail_if_success have := A5); intro A5 c5) | ((fail_if_success have := A6); intro A6 c6) | ((fail_if_success have := A7); intro A7 c7)))
                | refine Ef_y rfl rfl ?_
                | ((with_reducible refine ie_conv ?_); refine Ef_y' rfl ?_))
            any_goals exact joinQ_n b3 trivial (by (repeat (first | exact Sub.nil | refine Sub.cons rfl ?_))) (by (repeat (first | exact Part.nil | refine Part.p0 ?_ | refine Part.p1 ?_ | refine Part.p2 ?_ | refine Part.p3 ?_ | refine Part.p4 ?_ | refine Part.p5 ?_ | refine Part.p6 ?_)))
            intro b3 _
            rcases hpk with ⟨hpk, hno⟩ | ⟨j0, ⟨mn, ms, mw⟩, hpk, hkp⟩
            · have hmem : Cf.mem s.2 xn = none := by unfold Cf.mem; dsimp only at hno; rw [hno]; rfl
              rw [hmem]
              repeat' (first
                  | with_reducible refine T.seq ?_
                  | with_reducible refine T.block ?_
                  | with_reducible refine T.region ?_
                  | with_reducible refine T.skip ?_
                  | with_reducible refine T.scope ?_
                  | with_reducible refine T.label ?_
                  | with_reducible refine scopeQ_n ?_
                  | with_reducible refine scopeQ_r ?_
                  | with_reducible refine scopeQ_x ?_
                  | with_reducible refine T.ret ?_
                  | with_reducible refine T.exit ?_
                  | with_reducible refine seqQ_n ?_
                  | with_reducible refine seqQ_x ?_
                  | with_reducible refine seqQ_r ?_
                  | with_reducible refine blockQ_n ?_
                  | with_reducible refine blockQ_r ?_
                  | with_reducible refine blockQ_x ?_
                  | ((with_reducible refine g_blkx ?_); refine blockQ_y rfl ?_)
                  | with_reducible refine loopQ_x ?_
                  | with_reducible refine loopQ_r ?_
                  | with_reducible refine joinQ_r ?_
                  | with_reducible refine joinQ_x ?_
                  | ((with_reducible refine g_cond ?_); (first | refine T.cond_t rfl ?_ | refine T.cond_f rfl ?_ | (refine T.cond_s rfl ?_ ?_ <;> intro hc)))
                  | with_reducible refine TL_nil ?_
                  | with_reducible refine TS_nil ?_
                  | ((with_reducible refine g_draw ?_); (first
                  | (((refine' T.joinS (α := (Option Addr × Nat) × Asrt × Nat) (fun z => [(1, .slice B len cap), (5, .pointer (some ⟨b1, 0, none⟩)), (7, .int .i64 (i : Int)), (8, .pointer (some ⟨z.2.2, 0, none⟩))]) (fun z => [.blk z.2.2 (.cells (cV s.1 z.1 s.2.length) 26 (0, 0)), rM l (A1, c1), z.2.1, .blk b1 (.cells (cV e (A1, c1) l.length) 26 (0, 0))]) (fun z => z.2.1 = rM s.2 z.1 ∨ (s = (e, l) ∧ z.1 = (A1, c1))) (T.drawBM (id := 9) (.y 0 (.y 1 (.y 2 (.y 3 (.y 4 (.b 5 (.run [(6, false), (7, false)]) 6 (.run [(5, false), (7, false)]))))))) mixd ?q1 ?_) ?_); (case q1 => kernel_rfl)))
                  | (((refine' T.joinS (α := Nat) (fun z => [(1, .slice B len cap), (5, .pointer (some ⟨b1, 0, none⟩)), (7, .int .i64 (i : Int)), (8, .pointer (some ⟨b2, 0, none⟩)), (9, .bool sh), (10, .int .i64 la), (11, .int .i64 (k : Int)), (12, .pointer (some ⟨z, 0, none⟩)), (13, .bool (Cf.mem s.2 xn).isSome)]) (fun z => [.blk z (.cells (mE ((Cf.mem s.2 xn).getD Mb.z)).toArray 36 (0, 0))]) (fun _ => True) (T.drawBM (id := 17) (.y 0 (.y 1 (.y 2 (.y 3 (.y 4 (.y 5 (.y 6 (.b 7 (.run [(8, true), (9, true), (10, true), (11, false), (12, false), (13, true)]) 11 (.run [(7, false), (8, true), (9, true), (10, true), (12, false), (13, true)]))))))))) mixd ?q1 ?_) ?_); (case q1 => kernel_rfl)))
                  | (((with_reducible refine' T.drawM (id := 19) [(0, true), (1, true), (2, true), (3, true), (4, false), (5, false), (6, false), (7, false), (8, false), (9, false), (10, true), (11, true), (12, false), (13, false), (14, false), (15, false), (16, false), (17, false), (18, false), (19, false), (20, false), (21, false)] mixd ?q1 ?_); (case q1 => kernel_rfl)))
                  | (((with_reducible refine' T.drawM (id := 22) [(0, true), (1, false), (2, false), (3, false), (4, false), (5, false), (6, true), (7, true), (8, true), (9, true), (10, true), (11, true), (12, false), (13, false), (14, false), (15, false)] mixd ?q1 ?_); (case q1 => kernel_rfl)))))
                  | ((with_reducible refine TL_y' ?hy ?hd ?_); (case hy => rfl); (case hd => rfl))
                  | with_reducible refine TL_e ?_
                  | ((with_reducible refine g_TL ?_); (first | refine TL_gy' rfl rfl rfl rfl ?_ | refine TL_gn rfl rfl rfl ?_ | refine TL_gu rfl rfl rfl ?_ | refine TL_ge rfl rfl ?_ | refine TL_gn0 rfl rfl ?_))
                  | ((with_reducible refine g_TS ?_); (first | refine TS_y rfl rfl ?_ | refine TS_e rfl ?_ | refine TS_gy rfl rfl rfl rfl ?_ | refine TS_gn rfl rfl rfl rfl ?_ | refine TS_gu rfl rfl rfl rfl ?_ | refine TS_ge rfl rfl rfl ?_ | refine TS_gne rfl rfl rfl rfl ?_ | refine TS_gue rfl rfl rfl rfl ?_ | refine TS_gne0 rfl rfl rfl ?_))
                  | ((with_reducible refine TSand ?hd ?_); (case hd => (repeat (first | exact List.nil_sublist _ | refine List.Sublist.cons_cons _ ?_ | refine List.Sublist.cons _ ?_))))
                  | ((with_reducible refine TBand ?hd ?_); (case hd => (repeat (first | exact List.nil_sublist _ | refine List.Sublist.cons_cons _ ?_ | refine List.Sublist.cons _ ?_))))
                  | ((with_reducible refine g_TB ?_); (first | with_reducible refine TB_run ?_ | refine TB_y rfl rfl ?_ | refine TB_b rfl rfl ?_ ?_ | refine TB_e rfl ?_))
                  | ((with_reducible refine is_move ?_); refine ⟨_, Yl_move rfl, ?_⟩)
                  | ((with_reducible refine is_assign ?_); refine ⟨_, Yl_assign rfl, ?_⟩)
                  | ((with_reducible refine is_pick ?_); (first | refine ⟨_, Yl_pick_t rfl rfl, ?_⟩ | refine ⟨_, Yl_pick_f rfl rfl, ?_⟩))
                  | ((with_reducible refine is_fld ?_); (first | ((refine' ⟨_, Yl_fld_ad rfl ?q1, ?_⟩); (case q1 => exact fld_of rfl rfl)) | ((refine' ⟨_, Yl_fld_blk0 rfl ?q1, ?_⟩); (case q1 => exact fld_of rfl rfl)) | ((refine' ⟨_, Yl_fld_blk rfl ?q1, ?_⟩); (case q1 => exact fld_of rfl rfl))))
                  | ((with_reducible refine is_load ?_); (first
                  | ((refine' ⟨_, Yl_load_old rfl ?q1 ?q2 List.not_mem_nil ?q3, ?_⟩); (case q1 => exact one_of rfl); (case q2 => assumption); (case q3 => rfl))
                  | ((refine' ⟨_, Yl_loadA_old rfl ?q1 List.not_mem_nil ?q2, ?_⟩); (case q1 => assumption); (case q2 => exact agg_of rfl))
                  | ((refine' ⟨_, Yl_load_blk rfl ?q1 ?q2 ?q3, ?_⟩); (case q1 => exact one_of rfl); (case q2 => (repeat (first | exact .head _ | apply List.Mem.tail))); (case q3 => rfl))
                  | ((refine' ⟨_, Yl_loadA_blk rfl ?q1 ?q2, ?_⟩); (case q1 => (repeat (first | exact .head _ | apply List.Mem.tail))); (case q2 => exact agg_of rfl))
                  | ((refine' ⟨_, Yl_load_blk rfl ?q1 ?q2 ?q3, ?_⟩); (case q1 => exact one_of rfl); (case q2 => (repeat (first | exact .head _ | apply List.Mem.tail))); (case q3 => assumption))
                  | ((refine' ⟨_, Yl_load_rd rfl ?q1 ?q2 List.not_mem_nil ?q3, ?_⟩); (case q1 => exact one_of rfl); (case q2 => assumption); (case q3 => assumption))
                  | ((refine' ⟨_, Yl_load_row rfl ?q1 ?q2 ?q3, ?_⟩); (case q1 => exact one_of rfl); (case q2 => (repeat (first | exact .head _ | apply List.Mem.tail))); (case q3 => assumption))
                  | ((refine' ⟨_, Yl_loadA_rd rfl ?qa ?qb List.not_mem_nil ?ql ?qc, ?_⟩); (case qa => exact agg_of rfl); (case qb => assumption); (case qc => assumption); (case ql => rfl))
                  | ((refine' ⟨_, Yl_loadA_row rfl ?qa ?qb ?ql ?qc, ?_⟩); (case qa => exact agg_of rfl); (case qb => (repeat (first | exact .head _ | apply List.Mem.tail))); (case qc => assumption); (case ql => rfl))))
                  | ((with_reducible refine is_idx ?_); (first
                  | ((refine' ⟨_, Yl_index rfl rfl ?q1 ?q2 ?q3 (Rd.some_ ?q4 ?q5), ?_⟩); (case q1 => exact und_of rfl); (case q2 => exact siz_of rfl); (case q3 => omega); (case q4 => assumption); (case q5 => omega))
                  | ((refine' ⟨_, Yl_index_row rfl rfl ?q1 ?q2 ?q3 ?q4, ?_⟩); (case q1 => exact und_of rfl); (case q2 => exact siz_of rfl); (case q3 => omega); (case q4 => (repeat (first | exact .head _ | apply List.Mem.tail))))
                  | ((refine' ⟨_, Yl_index rfl rfl ?q1 ?q2 ?q3 rfl, ?_⟩); (case q1 => exact und_of rfl); (case q2 => exact siz_of rfl); (case q3 => omega))
                  | ((refine' ⟨_, Yl_index (j := 0) rfl rfl ?q1 ?q2 ?q3 (Rd.some_ ?q4 ?q5), ?_⟩); (case q1 => exact und_of rfl); (case q2 => exact siz_of rfl); (case q3 => omega); (case q4 => assumption); (case q5 => omega))
                  | ((refine' ⟨_, Yl_index_row (j := 0) rfl rfl ?q1 ?q2 ?q3 ?q4, ?_⟩); (case q1 => exact und_of rfl); (case q2 => exact siz_of rfl); (case q3 => omega); (case q4 => (repeat (first | exact .head _ | apply List.Mem.tail))))
                  | ((refine' ⟨_, Yl_indexI rfl rfl ?q1 ?q2 ?q3 ?q4 (Rd.some_ ?q5 ?q6), ?_⟩); (case q1 => exact und_of rfl); (case q2 => exact siz_of rfl); (case q3 => omega); (case q4 => omega); (case q5 => assumption); (case q6 => omega))))
                  | ((with_reducible refine is_ext ?_); refine ⟨_, Yl_extract rfl rfl, ?_⟩)
                  | ((with_reducible refine is_un ?_); refine ⟨_, Yl_not rfl, ?_⟩)
                  | ((with_reducible refine is_len ?_); (first | ((refine' ⟨_, Yl_len_slice rfl ?q1, ?_⟩); (case q1 => exact und_of rfl)) | ((refine' ⟨_, Yl_len_string rfl ?q1, ?_⟩); (case q1 => exact und_of rfl))))
                  | ((with_reducible refine is_b_lss ?_); (first | ((refine' ⟨_, Yl_lss_t rfl rfl ?q1, ?_⟩); (case q1 => omega)) | ((refine' ⟨_, Yl_lss_f rfl rfl ?q1, ?_⟩); (case q1 => omega)) | (refine sp_lss rfl rfl ?_ ?_ <;> intro hc)))
                  | ((with_reducible refine is_b_leq ?_); (first | ((refine' ⟨_, Yl_leq_t rfl rfl ?q1, ?_⟩); (case q1 => omega)) | ((refine' ⟨_, Yl_leq_f rfl rfl ?q1, ?_⟩); (case q1 => omega)) | (refine sp_leq rfl rfl ?_ ?_ <;> intro hc)))
                  | ((with_reducible refine is_b_gtr ?_); (first | ((refine' ⟨_, Yl_gtr_t rfl rfl ?q1, ?_⟩); (case q1 => omega)) | ((refine' ⟨_, Yl_gtr_f rfl rfl ?q1, ?_⟩); (case q1 => omega)) | (refine sp_gtr rfl rfl ?_ ?_ <;> intro hc)))
                  | ((with_reducible refine is_b_eql ?_); (first | ((refine' ⟨_, Yl_eql_t rfl rfl ?q1, ?_⟩); (case q1 => omega)) | ((refine' ⟨_, Yl_eql_f rfl rfl ?q1, ?_⟩); (case q1 => omega)) | (refine sp_eql rfl rfl ?_ ?_ <;> intro hc) | ((refine' ⟨_, Yl_convW (k := .i64) (k' := .u64) rfl ?q1 ?q2, ?_⟩); (case q1 => exact und_of rfl); (case q2 => exact und_of rfl)) | ((refine' ⟨_, Yl_convI (k := .u64) (k' := .i64) rfl ?q1 ?q2 (wrap_mod _ 5 ?q3 ?q4), ?_⟩); (case q1 => exact und_of rfl); (case q2 => exact und_of rfl); (case q3 => decide); (case q4 => decide)) | ((refine' ⟨_, Yl_remE rfl rfl ?q1 ?q2 rfl, ?_⟩); (case q1 => exact wrap_u64_lo _); (case q2 => decide)) | ((refine' ⟨_, Yl_eql_bool rfl rfl ?q1, ?_⟩); (case q1 => exact und_of rfl)) | ((refine' ⟨_, Yl_eql_strT rfl rfl ?q1, ?_⟩); (case q1 => first | assumption | rfl)) | ((refine' ⟨_, Yl_eql_strF rfl rfl ?q1, ?_⟩); (case q1 => first | assumption | decide)) | (refine sp_eqlS rfl rfl ?_ ?_ <;> intro hc)))
                  | ((with_reducible refine is_b_neq ?_); (first | ((refine' ⟨_, Yl_neq_t rfl rfl ?q1, ?_⟩); (case q1 => omega)) | ((refine' ⟨_, Yl_neq_f rfl rfl ?q1, ?_⟩); (case q1 => omega)) | (refine sp_neq rfl rfl ?_ ?_ <;> intro hc) | ((refine' ⟨_, Yl_convW (k := .i64) (k' := .u64) rfl ?q1 ?q2, ?_⟩); (case q1 => exact und_of rfl); (case q2 => exact und_of rfl)) | ((refine' ⟨_, Yl_convI (k := .u64) (k' := .i64) rfl ?q1 ?q2 (wrap_mod _ 5 ?q3 ?q4), ?_⟩); (case q1 => exact und_of rfl); (case q2 => exact und_of rfl); (case q3 => decide); (case q4 => decide)) | ((refine' ⟨_, Yl_remE rfl rfl ?q1 ?q2 rfl, ?_⟩); (case q1 => exact wrap_u64_lo _); (case q2 => decide)) | ((refine' ⟨_, Yl_neq_bool rfl rfl ?q1, ?_⟩); (case q1 => exact und_of rfl)) | ((refine' ⟨_, Yl_neq_strT rfl rfl ?q1, ?_⟩); (case q1 => first | assumption | decide)) | ((refine' ⟨_, Yl_neq_strF rfl rfl ?q1, ?_⟩); (case q1 => first | assumption | rfl)) | (refine sp_neqS rfl rfl ?_ ?_ <;> intro hc)))
                  | ((with_reducible refine is_b_add ?_); (first | ((refine' ⟨_, Yl_add rfl rfl ?q1 ?q2, ?_⟩); (case q1 => omega); (case q2 => omega)) | ((refine' ⟨_, Yl_add8 rfl rfl ?q1 ?q2, ?_⟩); (case q1 => omega); (case q2 => omega)) | ((refine' ⟨_, Yl_convW (k := .i64) (k' := .u64) rfl ?q1 ?q2, ?_⟩); (case q1 => exact und_of rfl); (case q2 => exact und_of rfl)) | ((refine' ⟨_, Yl_convI (k := .u64) (k' := .i64) rfl ?q1 ?q2 (wrap_mod _ 5 ?q3 ?q4), ?_⟩); (case q1 => exact und_of rfl); (case q2 => exact und_of rfl); (case q3 => decide); (case q4 => decide)) | ((refine' ⟨_, Yl_remE rfl rfl ?q1 ?q2 rfl, ?_⟩); (case q1 => exact wrap_u64_lo _); (case q2 => decide))))
                  | (first | ((refine' ⟨_, Yl_convW (k := .i64) (k' := .u64) rfl ?q1 ?q2, ?_⟩); (case q1 => exact und_of rfl); (case q2 => exact und_of rfl)) | ((refine' ⟨_, Yl_convI (k := .u64) (k' := .i64) rfl ?q1 ?q2 (wrap_mod _ 5 ?q3 ?q4), ?_⟩); (case q1 => exact und_of rfl); (case q2 => exact und_of rfl); (case q3 => decide); (case q4 => decide)) | ((refine' ⟨_, Yl_remE rfl rfl ?q1 ?q2 rfl, ?_⟩); (case q1 => exact wrap_u64_lo _); (case q2 => decide)))
                  | ((with_reducible refine ie_store ?_); (first
                  | ((refine' Ef_store_row1 rfl rfl ?q1 ?q2 ?q3 ?q4 ?q5 ?_); (case q1 => rfl); (case q2 => exact siz_of rfl); (case q3 => (first | exact at0 | exact at1 | exact at2 | exact at3 | exact at4 | exact at5 | exact at6)); (case q4 => omega); (case q5 => assumption))
                  | ((refine' Ef_store_rowA rfl rfl ?q1 ?q2 ?q3 ?q4 ?q5 ?q6 ?_); (case q1 => exact siz_of rfl); (case q2 => rfl); (case q3 => (first | assumption | (intro u hu; rcases hu with _ | ⟨_, _ | ⟨_, _ | ⟨_, _ | ⟨_, hu⟩⟩⟩⟩ <;> first | rfl | (cases hu; done)))); (case q4 => (first | exact at0 | exact at1 | exact at2 | exact at3 | exact at4 | exact at5 | exact at6)); (case q5 => omega); (case q6 => assumption))
                  | ((refine' Ef_storeA' rfl rfl ?q1 ?q2 ?q3 ?q4 ?_); (case q1 => exact siz_of rfl); (case q2 => (first | assumption | (intro u hu; rcases hu with _ | ⟨_, _ | ⟨_, _ | ⟨_, _ | ⟨_, hu⟩⟩⟩⟩ <;> first | rfl | (cases hu; done)))); (case q3 => (first | exact at0 | exact at1 | exact at2 | exact at3 | exact at4 | exact at5 | exact at6)); (case q4 => rfl))
                  | ((refine' Ef_storeC rfl rfl ?q1 ?q2 ?q3 ?q4 ?q5 ?_); (case q1 => rfl); (case q2 => exact siz_of rfl); (case q3 => (first | exact at0 | exact at1 | exact at2 | exact at3 | exact at4 | exact at5 | exact at6)); (case q4 => exact Nat.le_of_ble_eq_true rfl); (case q5 => rfl))))
                  | ((with_reducible refine ie_callf ?_); (first
                  | ((with_reducible refine g_call 6 ?_); (first | refine Ef_callP rfl rfl ent_6 (fun w _ => awake_c w) ?_))
                  | ((with_reducible refine g_call 7 ?_); (first | (refine Ef_callN rfl rfl ent_7 (fun w _ => hfi w) ?_; rintro ⟨A1, c1⟩)))
                  | ((with_reducible refine g_call 8 ?_); (first | (((refine' Ef_callNX rfl rfl ent_8 (fun w hp => hch w (hp.rowOf ?q1) (hp.capOf (A := A1) (m := l.length) (cap := c1) ?q2)) ?_); (case q1 => (repeat (first | exact .head _ | apply List.Mem.tail))); (case q2 => (repeat (first | exact .head _ | apply List.Mem.tail)))); rintro ⟨⟨A2, c2⟩, Rw⟩ hR)))
                  | ((with_reducible refine g_call 9 ?_); (first | ((refine' Ef_callP rfl rfl ent_9 (fun w hp => hma w (hrow w (hp.own (rM l (A1, c1)) ?q1) (hp.own Rw ?q2))) ?_); (case q1 => (repeat (first | exact .head _ | apply List.Mem.tail))); (case q2 => (repeat (first | exact .head _ | apply List.Mem.tail))))))
                  | ((with_reducible refine g_call 10 ?_); (first | refine Ef_callP rfl rfl ent_10 (fun w hp => hat w (hp.rd hrd fun _ => List.not_mem_nil)) ?_))))
                  | ((first  | ((with_reducible refine ie_alloc ?_); (((refine' Ef_alloc rfl ?q1 ?_); (case q1 => exact zer_of rfl))))); (first | ((fail_if_success have := b1); intro b1) | ((fail_if_success have := b2); intro b2) | ((fail_if_success have := b3); intro b3) | ((fail_if_success have := b4); intro b4) | ((fail_if_success have := b5); intro b5) | ((fail_if_success have := b6); intro b6) | ((fail_if_success have := b7); intro b7) | ((fail_if_success have := b8); intro b8) | ((fail_if_success have := b9); intro b9) | ((fail_if_success have := b10); intro b10) | ((fail_if_success have := b11); intro b11) | ((fail_if_success have := b12); intro b12)))
                  | (fail; (first | ((fail_if_success have := A1); intro A1 c1) | ((fail_if_success have := A2); intro A2 c2) | ((fail_if_success have := A3); intro A3 c3) | ((fail_if_success have := A4); intro A4 c4) | ((fail_if_success have := A5); intro A5 c5) | ((fail_if_success have := A6); intro A6 c6) | ((fail_if_success have := A7); intro A7 c7)))
                  | refine Ef_y rfl rfl ?_
                  | ((with_reducible refine ie_conv ?_); refine Ef_y' rfl ?_))
              refine loopQ_n (k + 1, sh, la) ?_ (List.nil_sublist _) ⟨by (first | omega | (dsimp only; omega) | (simp; omega)), ?_, ?_⟩ (by (first | omega | (dsimp only; omega) | (simp; omega)))
              · (repeat (first | exact Sub.nil | refine Sub.cons rfl ?_))
              · rcases hla with h | ⟨k', i', h1, h2, h3⟩
                · exact .inl h
                · exact .inr ⟨k', i', by (first | omega | (dsimp only; omega) | (simp; omega)), h2, h3⟩
              · rcases hsh with h | h
                · exact .inl h
                · refine .inr fun k' x i' h1 h2 h3 => ?_
                  rcases Nat.lt_or_eq_of_le (Nat.le_of_lt_succ h1) with h4 | rfl
                  · exact h k' x i' h4 h2 h3
                  · rw [hpk] at h3; cases h3
            · obtain ⟨hg, ha, hn, hs, hw⟩ := hkp
              dsimp only at ha hn hs hw
              subst hn hs
              have hmem : Cf.mem s.2 mn = some (mn, ms, mw) := Cf.mem_self hmay hg
              have hj0 := (List.getElem?_eq_some_iff.1 hg).1
              have hlast : la < (j0 : Int) := by
                rcases hla with h | ⟨k', i', h1, h2, h3⟩
                · omega
                · have := hpo k' k i' j0 h2 hpk h1
                  omega
              have hl1 : -1 ≤ la := by
                rcases hla with h | ⟨k', i', h1, h2, h3⟩ <;> omega
              rw [hmem]
              have hxw2 : xh = false ∨ (xh = true ∧ mw = true) := by cases xh with
                | false => exact .inl rfl
                | true => exact .inr ⟨rfl, hw rfl⟩
              have hshn : ∀ sh', (sh = true → sh' = true) → (xh = true → sh' = true) → (sh' = true ∨ ∀ k' x i, k' < k + 1 → l[k']? = some x → p k' = some i → x.2.2 = false) := fun sh' g1 g2 => by
                rcases hsh with h | h
                · exact .inl (g1 h)
                · cases xh with
                  | true => exact .inl (g2 rfl)
                  | false =>
                    refine .inr fun k' x i' h1 h2 h3 => ?_
                    rcases Nat.lt_or_eq_of_le (Nat.le_of_lt_succ h1) with h4 | rfl
                    · exact h k' x i' h4 h2 h3
                    · rw [hxk] at h2; cases h2; rfl
              clear hla hsh hw
              have k1 : ((some (mn, ms, mw)).getD Mb.z).2.1 = ms := rfl
              have k2 : ((mn, ms, xh) : Mb).2.1 = ms := rfl
              have k3 : ((some (mn, ms, mw)).getD Mb.z).1 = mn := rfl
              have k4 : ((mn, ms, mw) : Mb).1 = mn := rfl
              rcases hxw2 with rfl | ⟨rfl, rfl⟩
              all_goals repeat' (first
                  | with_reducible refine T.seq ?_
                  | with_reducible refine T.block ?_
                  | with_reducible refine T.region ?_
                  | with_reducible refine T.skip ?_
                  | with_reducible refine T.scope ?_
                  | with_reducible refine T.label ?_
                  | with_reducible refine scopeQ_n ?_
                  | with_reducible refine scopeQ_r ?_
                  | with_reducible refine scopeQ_x ?_
                  | with_reducible refine T.ret ?_
                  | with_reducible refine T.exit ?_
                  | with_reducible refine seqQ_n ?_
                  | with_reducible refine seqQ_x ?_
                  | with_reducible refine seqQ_r ?_
                  | with_reducible refine blockQ_n ?_
                  | with_reducible refine blockQ_r ?_
                  | with_reducible refine blockQ_x ?_
                  | ((with_reducible refine g_blkx ?_); refine blockQ_y rfl ?_)
                  | with_reducible refine loopQ_x ?_
                  | with_reducible refine loopQ_r ?_
                  | with_reducible refine joinQ_r ?_
                  | with_reducible refine joinQ_x ?_
                  | ((with_reducible refine g_cond ?_); (first | refine T.cond_t rfl ?_ | refine T.cond_f rfl ?_ | (refine T.cond_s rfl ?_ ?_ <;> intro hc)))
                  | with_reducible refine TL_nil ?_
                  | with_reducible refine TS_nil ?_
                  | ((with_reducible refine g_draw ?_); (first
                  | (((refine' T.joinS (α := (Option Addr × Nat) × Asrt × Nat) (fun z => [(1, .slice B len cap), (5, .pointer (some ⟨b1, 0, none⟩)), (7, .int .i64 (i : Int)), (8, .pointer (some ⟨z.2.2, 0, none⟩))]) (fun z => [.blk z.2.2 (.cells (cV s.1 z.1 s.2.length) 26 (0, 0)), rM l (A1, c1), z.2.1, .blk b1 (.cells (cV e (A1, c1) l.length) 26 (0, 0))]) (fun z => z.2.1 = rM s.2 z.1 ∨ (s = (e, l) ∧ z.1 = (A1, c1))) (T.drawBM (id := 9) (.y 0 (.y 1 (.y 2 (.y 3 (.y 4 (.b 5 (.run [(6, false), (7, false)]) 6 (.run [(5, false), (7, false)]))))))) mixd ?q1 ?_) ?_); (case q1 => kernel_rfl)))
                  | (((refine' T.joinS (α := Nat) (fun z => [(1, .slice B len cap), (5, .pointer (some ⟨b1, 0, none⟩)), (7, .int .i64 (i : Int)), (8, .pointer (some ⟨b2, 0, none⟩)), (9, .bool sh), (10, .int .i64 la), (11, .int .i64 (k : Int)), (12, .pointer (some ⟨z, 0, none⟩)), (13, .bool (Cf.mem s.2 xn).isSome)]) (fun z => [.blk z (.cells (mE ((Cf.mem s.2 xn).getD Mb.z)).toArray 36 (0, 0))]) (fun _ => True) (T.drawBM (id := 17) (.y 0 (.y 1 (.y 2 (.y 3 (.y 4 (.y 5 (.y 6 (.b 7 (.run [(8, true), (9, true), (10, true), (11, false), (12, false), (13, true)]) 11 (.run [(7, false), (8, true), (9, true), (10, true), (12, false), (13, true)]))))))))) mixd ?q1 ?_) ?_); (case q1 => kernel_rfl)))
                  | (((with_reducible refine' T.drawM (id := 19) [(0, true), (1, true), (2, true), (3, true), (4, false), (5, false), (6, false), (7, false), (8, false), (9, false), (10, true), (11, true), (12, false), (13, false), (14, false), (15, false), (16, false), (17, false), (18, false), (19, false), (20, false), (21, false)] mixd ?q1 ?_); (case q1 => kernel_rfl)))
                  | (((with_reducible refine' T.drawM (id := 22) [(0, true), (1, false), (2, false), (3, false), (4, false), (5, false), (6, true), (7, true), (8, true), (9, true), (10, true), (11, true), (12, false), (13, false), (14, false), (15, false)] mixd ?q1 ?_); (case q1 => kernel_rfl)))))
                  | ((with_reducible refine TL_y' ?hy ?hd ?_); (case hy => rfl); (case hd => rfl))
                  | with_reducible refine TL_e ?_
                  | ((with_reducible refine g_TL ?_); (first | refine TL_gy' rfl rfl rfl rfl ?_ | refine TL_gn rfl rfl rfl ?_ | refine TL_gu rfl rfl rfl ?_ | refine TL_ge rfl rfl ?_ | refine TL_gn0 rfl rfl ?_))
                  | ((with_reducible refine g_TS ?_); (first | refine TS_y rfl rfl ?_ | refine TS_e rfl ?_ | refine TS_gy rfl rfl rfl rfl ?_ | refine TS_gn rfl rfl rfl rfl ?_ | refine TS_gu rfl rfl rfl rfl ?_ | refine TS_ge rfl rfl rfl ?_ | refine TS_gne rfl rfl rfl rfl ?_ | refine TS_gue rfl rfl rfl rfl ?_ | refine TS_gne0 rfl rfl rfl ?_))
                  | ((with_reducible refine TSand ?hd ?_); (case hd => (repeat (first | exact List.nil_sublist _ | refine List.Sublist.cons_cons _ ?_ | refine List.Sublist.cons _ ?_))))
                  | ((with_reducible refine TBand ?hd ?_); (case hd => (repeat (first | exact List.nil_sublist _ | refine List.Sublist.cons_cons _ ?_ | refine List.Sublist.cons _ ?_))))
                  | ((with_reducible refine g_TB ?_); (first | with_reducible refine TB_run ?_ | refine TB_y rfl rfl ?_ | refine TB_b rfl rfl ?_ ?_ | refine TB_e rfl ?_))
                  | ((with_reducible refine is_move ?_); refine ⟨_, Yl_move rfl, ?_⟩)
                  | ((with_reducible refine is_assign ?_); refine ⟨_, Yl_assign rfl, ?_⟩)
                  | ((with_reducible refine is_pick ?_); (first | refine ⟨_, Yl_pick_t rfl rfl, ?_⟩ | refine ⟨_, Yl_pick_f rfl rfl, ?_⟩))
                  | ((with_reducible refine is_fld ?_); (first | ((refine' ⟨_, Yl_fld_ad rfl ?q1, ?_⟩); (case q1 => exact fld_of rfl rfl)) | ((refine' ⟨_, Yl_fld_blk0 rfl ?q1, ?_⟩); (case q1 => exact fld_of rfl rfl)) | ((refine' ⟨_, Yl_fld_blk rfl ?q1, ?_⟩); (case q1 => exact fld_of rfl rfl))))
                  | ((with_reducible refine is_load ?_); (first
                  | ((refine' ⟨_, Yl_load_old rfl ?q1 ?q2 List.not_mem_nil ?q3, ?_⟩); (case q1 => exact one_of rfl); (case q2 => assumption); (case q3 => rfl))
                  | ((refine' ⟨_, Yl_loadA_old rfl ?q1 List.not_mem_nil ?q2, ?_⟩); (case q1 => assumption); (case q2 => exact agg_of rfl))
                  | ((refine' ⟨_, Yl_load_blk rfl ?q1 ?q2 ?q3, ?_⟩); (case q1 => exact one_of rfl); (case q2 => (repeat (first | exact .head _ | apply List.Mem.tail))); (case q3 => rfl))
                  | ((refine' ⟨_, Yl_loadA_blk rfl ?q1 ?q2, ?_⟩); (case q1 => (repeat (first | exact .head _ | apply List.Mem.tail))); (case q2 => exact agg_of rfl))
                  | ((refine' ⟨_, Yl_load_blk rfl ?q1 ?q2 ?q3, ?_⟩); (case q1 => exact one_of rfl); (case q2 => (repeat (first | exact .head _ | apply List.Mem.tail))); (case q3 => assumption))
                  | ((refine' ⟨_, Yl_load_rd rfl ?q1 ?q2 List.not_mem_nil ?q3, ?_⟩); (case q1 => exact one_of rfl); (case q2 => assumption); (case q3 => assumption))
                  | ((refine' ⟨_, Yl_load_row rfl ?q1 ?q2 ?q3, ?_⟩); (case q1 => exact one_of rfl); (case q2 => (repeat (first | exact .head _ | apply List.Mem.tail))); (case q3 => assumption))
                  | ((refine' ⟨_, Yl_loadA_rd rfl ?qa ?qb List.not_mem_nil ?ql ?qc, ?_⟩); (case qa => exact agg_of rfl); (case qb => assumption); (case qc => assumption); (case ql => rfl))
                  | ((refine' ⟨_, Yl_loadA_row rfl ?qa ?qb ?ql ?qc, ?_⟩); (case qa => exact agg_of rfl); (case qb => (repeat (first | exact .head _ | apply List.Mem.tail))); (case qc => assumption); (case ql => rfl))))
                  | ((with_reducible refine is_idx ?_); (first
                  | ((refine' ⟨_, Yl_index rfl rfl ?q1 ?q2 ?q3 (Rd.some_ ?q4 ?q5), ?_⟩); (case q1 => exact und_of rfl); (case q2 => exact siz_of rfl); (case q3 => omega); (case q4 => assumption); (case q5 => omega))
                  | ((refine' ⟨_, Yl_index_row rfl rfl ?q1 ?q2 ?q3 ?q4, ?_⟩); (case q1 => exact und_of rfl); (case q2 => exact siz_of rfl); (case q3 => omega); (case q4 => (repeat (first | exact .head _ | apply List.Mem.tail))))
                  | ((refine' ⟨_, Yl_index rfl rfl ?q1 ?q2 ?q3 rfl, ?_⟩); (case q1 => exact und_of rfl); (case q2 => exact siz_of rfl); (case q3 => omega))
                  | ((refine' ⟨_, Yl_index (j := 0) rfl rfl ?q1 ?q2 ?q3 (Rd.some_ ?q4 ?q5), ?_⟩); (case q1 => exact und_of rfl); (case q2 => exact siz_of rfl); (case q3 => omega); (case q4 => assumption); (case q5 => omega))
                  | ((refine' ⟨_, Yl_index_row (j := 0) rfl rfl ?q1 ?q2 ?q3 ?q4, ?_⟩); (case q1 => exact und_of rfl); (case q2 => exact siz_of rfl); (case q3 => omega); (case q4 => (repeat (first | exact .head _ | apply List.Mem.tail))))
                  | ((refine' ⟨_, Yl_indexI rfl rfl ?q1 ?q2 ?q3 ?q4 (Rd.some_ ?q5 ?q6), ?_⟩); (case q1 => exact und_of rfl); (case q2 => exact siz_of rfl); (case q3 => omega); (case q4 => omega); (case q5 => assumption); (case q6 => omega))))
                  | ((with_reducible refine is_ext ?_); refine ⟨_, Yl_extract rfl rfl, ?_⟩)
                  | ((with_reducible refine is_un ?_); refine ⟨_, Yl_not rfl, ?_⟩)
                  | ((with_reducible refine is_len ?_); (first | ((refine' ⟨_, Yl_len_slice rfl ?q1, ?_⟩); (case q1 => exact und_of rfl)) | ((refine' ⟨_, Yl_len_string rfl ?q1, ?_⟩); (case q1 => exact und_of rfl))))
                  | ((with_reducible refine is_b_lss ?_); (first | ((refine' ⟨_, Yl_lss_t rfl rfl ?q1, ?_⟩); (case q1 => omega)) | ((refine' ⟨_, Yl_lss_f rfl rfl ?q1, ?_⟩); (case q1 => omega)) | (refine sp_lss rfl rfl ?_ ?_ <;> intro hc)))
                  | ((with_reducible refine is_b_leq ?_); (first | ((refine' ⟨_, Yl_leq_t rfl rfl ?q1, ?_⟩); (case q1 => omega)) | ((refine' ⟨_, Yl_leq_f rfl rfl ?q1, ?_⟩); (case q1 => omega)) | (refine sp_leq rfl rfl ?_ ?_ <;> intro hc)))
                  | ((with_reducible refine is_b_gtr ?_); (first | ((refine' ⟨_, Yl_gtr_t rfl rfl ?q1, ?_⟩); (case q1 => omega)) | ((refine' ⟨_, Yl_gtr_f rfl rfl ?q1, ?_⟩); (case q1 => omega)) | (refine sp_gtr rfl rfl ?_ ?_ <;> intro hc)))
                  | ((with_reducible refine is_b_eql ?_); (first | ((refine' ⟨_, Yl_eql_t rfl rfl ?q1, ?_⟩); (case q1 => omega)) | ((refine' ⟨_, Yl_eql_f rfl rfl ?q1, ?_⟩); (case q1 => omega)) | (refine sp_eql rfl rfl ?_ ?_ <;> intro hc) | ((refine' ⟨_, Yl_convW (k := .i64) (k' := .u64) rfl ?q1 ?q2, ?_⟩); (case q1 => exact und_of rfl); (case q2 => exact und_of rfl)) | ((refine' ⟨_, Yl_convI (k := .u64) (k' := .i64) rfl ?q1 ?q2 (wrap_mod _ 5 ?q3 ?q4), ?_⟩); (case q1 => exact und_of rfl); (case q2 => exact und_of rfl); (case q3 => decide); (case q4 => decide)) | ((refine' ⟨_, Yl_remE rfl rfl ?q1 ?q2 rfl, ?_⟩); (case q1 => exact wrap_u64_lo _); (case q2 => decide)) | ((refine' ⟨_, Yl_eql_bool rfl rfl ?q1, ?_⟩); (case q1 => exact und_of rfl)) | ((refine' ⟨_, Yl_eql_strT rfl rfl ?q1, ?_⟩); (case q1 => first | assumption | rfl)) | ((refine' ⟨_, Yl_eql_strF rfl rfl ?q1, ?_⟩); (case q1 => first | assumption | decide)) | (refine sp_eqlS rfl rfl ?_ ?_ <;> intro hc)))
                  | ((with_reducible refine is_b_neq ?_); (first | ((refine' ⟨_, Yl_neq_t rfl rfl ?q1, ?_⟩); (case q1 => omega)) | ((refine' ⟨_, Yl_neq_f rfl rfl ?q1, ?_⟩); (case q1 => omega)) | (refine sp_neq rfl rfl ?_ ?_ <;> intro hc) | ((refine' ⟨_, Yl_convW (k := .i64) (k' := .u64) rfl ?q1 ?q2, ?_⟩); (case q1 => exact und_of rfl); (case q2 => exact und_of rfl)) | ((refine' ⟨_, Yl_convI (k := .u64) (k' := .i64) rfl ?q1 ?q2 (wrap_mod _ 5 ?q3 ?q4), ?_⟩); (case q1 => exact und_of rfl); (case q2 => exact und_of rfl); (case q3 => decide); (case q4 => decide)) | ((refine' ⟨_, Yl_remE rfl rfl ?q1 ?q2 rfl, ?_⟩); (case q1 => exact wrap_u64_lo _); (case q2 => decide)) | ((refine' ⟨_, Yl_neq_bool rfl rfl ?q1, ?_⟩); (case q1 => exact und_of rfl)) | ((refine' ⟨_, Yl_neq_strT rfl rfl ?q1, ?_⟩); (case q1 => first | assumption | decide)) | ((refine' ⟨_, Yl_neq_strF rfl rfl ?q1, ?_⟩); (case q1 => first | assumption | rfl)) | (refine sp_neqS rfl rfl ?_ ?_ <;> intro hc)))
                  | ((with_reducible refine is_b_add ?_); (first | ((refine' ⟨_, Yl_add rfl rfl ?q1 ?q2, ?_⟩); (case q1 => omega); (case q2 => omega)) | ((refine' ⟨_, Yl_add8 rfl rfl ?q1 ?q2, ?_⟩); (case q1 => omega); (case q2 => omega)) | ((refine' ⟨_, Yl_convW (k := .i64) (k' := .u64) rfl ?q1 ?q2, ?_⟩); (case q1 => exact und_of rfl); (case q2 => exact und_of rfl)) | ((refine' ⟨_, Yl_convI (k := .u64) (k' := .i64) rfl ?q1 ?q2 (wrap_mod _ 5 ?q3 ?q4), ?_⟩); (case q1 => exact und_of rfl); (case q2 => exact und_of rfl); (case q3 => decide); (case q4 => decide)) | ((refine' ⟨_, Yl_remE rfl rfl ?q1 ?q2 rfl, ?_⟩); (case q1 => exact wrap_u64_lo _); (case q2 => decide))))
                  | (first | ((refine' ⟨_, Yl_convW (k := .i64) (k' := .u64) rfl ?q1 ?q2, ?_⟩); (case q1 => exact und_of rfl); (case q2 => exact und_of rfl)) | ((refine' ⟨_, Yl_convI (k := .u64) (k' := .i64) rfl ?q1 ?q2 (wrap_mod _ 5 ?q3 ?q4), ?_⟩); (case q1 => exact und_of rfl); (case q2 => exact und_of rfl); (case q3 => decide); (case q4 => decide)) | ((refine' ⟨_, Yl_remE rfl rfl ?q1 ?q2 rfl, ?_⟩); (case q1 => exact wrap_u64_lo _); (case q2 => decide)))
                  | ((with_reducible refine ie_store ?_); (first
                  | ((refine' Ef_store_row1 rfl rfl ?q1 ?q2 ?q3 ?q4 ?q5 ?_); (case q1 => rfl); (case q2 => exact siz_of rfl); (case q3 => (first | exact at0 | exact at1 | exact at2 | exact at3 | exact at4 | exact at5 | exact at6)); (case q4 => omega); (case q5 => assumption))
                  | ((refine' Ef_store_rowA rfl rfl ?q1 ?q2 ?q3 ?q4 ?q5 ?q6 ?_); (case q1 => exact siz_of rfl); (case q2 => rfl); (case q3 => (first | assumption | (intro u hu; rcases hu with _ | ⟨_, _ | ⟨_, _ | ⟨_, _ | ⟨_, hu⟩⟩⟩⟩ <;> first | rfl | (cases hu; done)))); (case q4 => (first | exact at0 | exact at1 | exact at2 | exact at3 | exact at4 | exact at5 | exact at6)); (case q5 => omega); (case q6 => assumption))
                  | ((refine' Ef_storeA' rfl rfl ?q1 ?q2 ?q3 ?q4 ?_); (case q1 => exact siz_of rfl); (case q2 => (first | assumption | (intro u hu; rcases hu with _ | ⟨_, _ | ⟨_, _ | ⟨_, _ | ⟨_, hu⟩⟩⟩⟩ <;> first | rfl | (cases hu; done)))); (case q3 => (first | exact at0 | exact at1 | exact at2 | exact at3 | exact at4 | exact at5 | exact at6)); (case q4 => rfl))
                  | ((refine' Ef_storeC rfl rfl ?q1 ?q2 ?q3 ?q4 ?q5 ?_); (case q1 => rfl); (case q2 => exact siz_of rfl); (case q3 => (first | exact at0 | exact at1 | exact at2 | exact at3 | exact at4 | exact at5 | exact at6)); (case q4 => exact Nat.le_of_ble_eq_true rfl); (case q5 => rfl))))
                  | ((with_reducible refine ie_callf ?_); (first
                  | ((with_reducible refine g_call 6 ?_); (first | refine Ef_callP rfl rfl ent_6 (fun w _ => awake_c w) ?_))
                  | ((with_reducible refine g_call 7 ?_); (first | (refine Ef_callN rfl rfl ent_7 (fun w _ => hfi w) ?_; rintro ⟨A1, c1⟩)))
                  | ((with_reducible refine g_call 8 ?_); (first | (((refine' Ef_callNX rfl rfl ent_8 (fun w hp => hch w (hp.rowOf ?q1) (hp.capOf (A := A1) (m := l.length) (cap := c1) ?q2)) ?_); (case q1 => (repeat (first | exact .head _ | apply List.Mem.tail))); (case q2 => (repeat (first | exact .head _ | apply List.Mem.tail)))); rintro ⟨⟨A2, c2⟩, Rw⟩ hR)))
                  | ((with_reducible refine g_call 9 ?_); (first | ((refine' Ef_callP rfl rfl ent_9 (fun w hp => hma w (hrow w (hp.own (rM l (A1, c1)) ?q1) (hp.own Rw ?q2))) ?_); (case q1 => (repeat (first | exact .head _ | apply List.Mem.tail))); (case q2 => (repeat (first | exact .head _ | apply List.Mem.tail))))))
                  | ((with_reducible refine g_call 10 ?_); (first | refine Ef_callP rfl rfl ent_10 (fun w hp => hat w (hp.rd hrd fun _ => List.not_mem_nil)) ?_))))
                  | ((first  | ((with_reducible refine ie_alloc ?_); (((refine' Ef_alloc rfl ?q1 ?_); (case q1 => exact zer_of rfl))))); (first | ((fail_if_success have := b1); intro b1) | ((fail_if_success have := b2); intro b2) | ((fail_if_success have := b3); intro b3) | ((fail_if_success have := b4); intro b4) | ((fail_if_success have := b5); intro b5) | ((fail_if_success have := b6); intro b6) | ((fail_if_success have := b7); intro b7) | ((fail_if_success have := b8); intro b8) | ((fail_if_success have := b9); intro b9) | ((fail_if_success have := b10); intro b10) | ((fail_if_success have := b11); intro b11) | ((fail_if_success have := b12); intro b12)))
                  | (fail; (first | ((fail_if_success have := A1); intro A1 c1) | ((fail_if_success have := A2); intro A2 c2) | ((fail_if_success have := A3); intro A3 c3) | ((fail_if_success have := A4); intro A4 c4) | ((fail_if_success have := A5); intro A5 c5) | ((fail_if_success have := A6); intro A6 c6) | ((fail_if_success have := A7); intro A7 c7)))
                  | refine Ef_y rfl rfl ?_
                  | ((with_reducible refine ie_conv ?_); refine Ef_y' rfl ?_))
              all_goals refine T.loop (α := Nat) (fun j => [(1, .slice B len cap), (5, .pointer (some ⟨b1, 0, none⟩)), (7, .int .i64 (i : Int)), (8, .pointer (some ⟨b2, 0, none⟩)), (9, .bool sh), (10, .int .i64 la), (11, .int .i64 (k : Int)), (12, .pointer (some ⟨b3, 0, none⟩)), (14, .int .i64 (j : Int))]) (fun _ => [.blk b3 (.cells (mE (mn, ms, _)).toArray 36 (0, 0))]) (fun j => j ≤ j0) (fun j => j0 - j) 0 (by (repeat (first | exact Sub.nil | refine Sub.cons rfl ?_))) (by (repeat (first | exact List.nil_sublist _ | refine List.Sublist.cons_cons _ ?_ | refine List.Sublist.cons _ ?_))) (Nat.zero_le _) ?_
              all_goals
                intro j hj
                obtain ⟨u, hu⟩ := some_of_lt (l := s.2) (i := j) (by omega)
                have eu := enc_at mE_len hu (j := 0) (by decide)
                by_cases hjj : j < j0
                · have hne : ¬ u.1 = mn := fun h => by have := Cf.distinct hmay hu hg h; omega
                  repeat' (first
                      | with_reducible refine T.seq ?_
                      | with_reducible refine T.block ?_
                      | with_reducible refine T.region ?_
                      | with_reducible refine T.skip ?_
                      | with_reducible refine T.scope ?_
                      | with_reducible refine T.label ?_
                      | with_reducible refine scopeQ_n ?_
                      | with_reducible refine scopeQ_r ?_
                      | with_reducible refine scopeQ_x ?_
                      | with_reducible refine T.ret ?_
                      | with_reducible refine T.exit ?_
                      | with_reducible refine seqQ_n ?_
                      | with_reducible refine seqQ_x ?_
                      | with_reducible refine seqQ_r ?_
                      | with_reducible refine blockQ_n ?_
                      | with_reducible refine blockQ_r ?_
                      | with_reducible refine blockQ_x ?_
                      | ((with_reducible refine g_blkx ?_); refine blockQ_y rfl ?_)
                      | with_reducible refine loopQ_x ?_
                      | with_reducible refine loopQ_r ?_
                      | with_reducible refine joinQ_r ?_
                      | with_reducible refine joinQ_x ?_
                      | ((with_reducible refine g_cond ?_); (first | refine T.cond_t rfl ?_ | refine T.cond_f rfl ?_ | (refine T.cond_s rfl ?_ ?_ <;> intro hc)))
                      | with_reducible refine TL_nil ?_
                      | with_reducible refine TS_nil ?_
                      | ((with_reducible refine g_draw ?_); (first
                      | (((refine' T.joinS (α := (Option Addr × Nat) × Asrt × Nat) (fun z => [(1, .slice B len cap), (5, .pointer (some ⟨b1, 0, none⟩)), (7, .int .i64 (i : Int)), (8, .pointer (some ⟨z.2.2, 0, none⟩))]) (fun z => [.blk z.2.2 (.cells (cV s.1 z.1 s.2.length) 26 (0, 0)), rM l (A1, c1), z.2.1, .blk b1 (.cells (cV e (A1, c1) l.length) 26 (0, 0))]) (fun z => z.2.1 = rM s.2 z.1 ∨ (s = (e, l) ∧ z.1 = (A1, c1))) (T.drawBM (id := 9) (.y 0 (.y 1 (.y 2 (.y 3 (.y 4 (.b 5 (.run [(6, false), (7, false)]) 6 (.run [(5, false), (7, false)]))))))) mixd ?q1 ?_) ?_); (case q1 => kernel_rfl)))
                      | (((refine' T.joinS (α := Nat) (fun z => [(1, .slice B len cap), (5, .pointer (some ⟨b1, 0, none⟩)), (7, .int .i64 (i : Int)), (8, .pointer (some ⟨b2, 0, none⟩)), (9, .bool sh), (10, .int .i64 la), (11, .int .i64 (k : Int)), (12, .pointer (some ⟨z, 0, none⟩)), (13, .bool (Cf.mem s.2 xn).isSome)]) (fun z => [.blk z (.cells (mE ((Cf.mem s.2 xn).getD Mb.z)).toArray 36 (0, 0))]) (fun _ => True) (T.drawBM (id := 17) (.y 0 (.y 1 (.y 2 (.y 3 (.y 4 (.y 5 (.y 6 (.b 7 (.run [(8, true), (9, true), (10, true), (11, false), (12, false), (13, true)]) 11 (.run [(7, false), (8, true), (9, true), (10, true), (12, false), (13, true)]))))))))) mixd ?q1 ?_) ?_); (case q1 => kernel_rfl)))
                      | (((with_reducible refine' T.drawM (id := 19) [(0, true), (1, true), (2, true), (3, true), (4, false), (5, false), (6, false), (7, false), (8, false), (9, false), (10, true), (11, true), (12, false), (13, false), (14, false), (15, false), (16, false), (17, false), (18, false), (19, false), (20, false), (21, false)] mixd ?q1 ?_); (case q1 => kernel_rfl)))
                      | (((with_reducible refine' T.drawM (id := 22) [(0, true), (1, false), (2, false), (3, false), (4, false), (5, false), (6, true), (7, true), (8, true), (9, true), (10, true), (11, true), (12, false), (13, false), (14, false), (15, false)] mixd ?q1 ?_); (case q1 => kernel_rfl)))))
                      | ((with_reducible refine TL_y' ?hy ?hd ?_); (case hy => rfl); (case hd => rfl))
                      | with_reducible refine TL_e ?_
                      | ((with_reducible refine g_TL ?_); (first | refine TL_gy' rfl rfl rfl rfl ?_ | refine TL_gn rfl rfl rfl ?_ | refine TL_gu rfl rfl rfl ?_ | refine TL_ge rfl rfl ?_ | refine TL_gn0 rfl rfl ?_))
                      | ((with_reducible refine g_TS ?_); (first | refine TS_y rfl rfl ?_ | refine TS_e rfl ?_ | refine TS_gy rfl rfl rfl rfl ?_ | refine TS_gn rfl rfl rfl rfl ?_ | refine TS_gu rfl rfl rfl rfl ?_ | refine TS_ge rfl rfl rfl ?_ | refine TS_gne rfl rfl rfl rfl ?_ | refine TS_gue rfl rfl rfl rfl ?_ | refine TS_gne0 rfl rfl rfl ?_))
                      | ((with_reducible refine TSand ?hd ?_); (case hd => (repeat (first | exact List.nil_sublist _ | refine List.Sublist.cons_cons _ ?_ | refine List.Sublist.cons _ ?_))))
                      | ((with_reducible refine TBand ?hd ?_); (case hd => (repeat (first | exact List.nil_sublist _ | refine List.Sublist.cons_cons _ ?_ | refine List.Sublist.cons _ ?_))))
                      | ((with_reducible refine g_TB ?_); (first | with_reducible refine TB_run ?_ | refine TB_y rfl rfl ?_ | refine TB_b rfl rfl ?_ ?_ | refine TB_e rfl ?_))
                      | ((with_reducible refine is_move ?_); refine ⟨_, Yl_move rfl, ?_⟩)
                      | ((with_reducible refine is_assign ?_); refine ⟨_, Yl_assign rfl, ?_⟩)
                      | ((with_reducible refine is_pick ?_); (first | refine ⟨_, Yl_pick_t rfl rfl, ?_⟩ | refine ⟨_, Yl_pick_f rfl rfl, ?_⟩))
                      | ((with_reducible refine is_fld ?_); (first | ((refine' ⟨_, Yl_fld_ad rfl ?q1, ?_⟩); (case q1 => exact fld_of rfl rfl)) | ((refine' ⟨_, Yl_fld_blk0 rfl ?q1, ?_⟩); (case q1 => exact fld_of rfl rfl)) | ((refine' ⟨_, Yl_fld_blk rfl ?q1, ?_⟩); (case q1 => exact fld_of rfl rfl))))
                      | ((with_reducible refine is_load ?_); (first
                      | ((refine' ⟨_, Yl_load_old rfl ?q1 ?q2 List.not_mem_nil ?q3, ?_⟩); (case q1 => exact one_of rfl); (case q2 => assumption); (case q3 => rfl))
                      | ((refine' ⟨_, Yl_loadA_old rfl ?q1 List.not_mem_nil ?q2, ?_⟩); (case q1 => assumption); (case q2 => exact agg_of rfl))
                      | ((refine' ⟨_, Yl_load_blk rfl ?q1 ?q2 ?q3, ?_⟩); (case q1 => exact one_of rfl); (case q2 => (repeat (first | exact .head _ | apply List.Mem.tail))); (case q3 => rfl))
                      | ((refine' ⟨_, Yl_loadA_blk rfl ?q1 ?q2, ?_⟩); (case q1 => (repeat (first | exact .head _ | apply List.Mem.tail))); (case q2 => exact agg_of rfl))
                      | ((refine' ⟨_, Yl_load_blk rfl ?q1 ?q2 ?q3, ?_⟩); (case q1 => exact one_of rfl); (case q2 => (repeat (first | exact .head _ | apply List.Mem.tail))); (case q3 => assumption))
                      | ((refine' ⟨_, Yl_load_rd rfl ?q1 ?q2 List.not_mem_nil ?q3, ?_⟩); (case q1 => exact one_of rfl); (case q2 => assumption); (case q3 => assumption))
                      | ((refine' ⟨_, Yl_load_row rfl ?q1 ?q2 ?q3, ?_⟩); (case q1 => exact one_of rfl); (case q2 => (repeat (first | exact .head _ | apply List.Mem.tail))); (case q3 => assumption))
                      | ((refine' ⟨_, Yl_loadA_rd rfl ?qa ?qb List.not_mem_nil ?ql ?qc, ?_⟩); (case qa => exact agg_of rfl); (case qb => assumption); (case qc => assumption); (case ql => rfl))
                      | ((refine' ⟨_, Yl_loadA_row rfl ?qa ?qb ?ql ?qc, ?_⟩); (case qa => exact agg_of rfl); (case qb => (repeat (first | exact .head _ | apply List.Mem.tail))); (case qc => assumption); (case ql => rfl))))
                      | ((with_reducible refine is_idx ?_); (first
                      | ((refine' ⟨_, Yl_index rfl rfl ?q1 ?q2 ?q3 (Rd.some_ ?q4 ?q5), ?_⟩); (case q1 => exact und_of rfl); (case q2 => exact siz_of rfl); (case q3 => omega); (case q4 => assumption); (case q5 => omega))
                      | ((refine' ⟨_, Yl_index_row rfl rfl ?q1 ?q2 ?q3 ?q4, ?_⟩); (case q1 => exact und_of rfl); (case q2 => exact siz_of rfl); (case q3 => omega); (case q4 => (repeat (first | exact .head _ | apply List.Mem.tail))))
                      | ((refine' ⟨_, Yl_index rfl rfl ?q1 ?q2 ?q3 rfl, ?_⟩); (case q1 => exact und_of rfl); (case q2 => exact siz_of rfl); (case q3 => omega))
                      | ((refine' ⟨_, Yl_index (j := 0) rfl rfl ?q1 ?q2 ?q3 (Rd.some_ ?q4 ?q5), ?_⟩); (case q1 => exact und_of rfl); (case q2 => exact siz_of rfl); (case q3 => omega); (case q4 => assumption); (case q5 => omega))
                      | ((refine' ⟨_, Yl_index_row (j := 0) rfl rfl ?q1 ?q2 ?q3 ?q4, ?_⟩); (case q1 => exact und_of rfl); (case q2 => exact siz_of rfl); (case q3 => omega); (case q4 => (repeat (first | exact .head _ | apply List.Mem.tail))))
                      | ((refine' ⟨_, Yl_indexI rfl rfl ?q1 ?q2 ?q3 ?q4 (Rd.some_ ?q5 ?q6), ?_⟩); (case q1 => exact und_of rfl); (case q2 => exact siz_of rfl); (case q3 => omega); (case q4 => omega); (case q5 => assumption); (case q6 => omega))))
                      | ((with_reducible refine is_ext ?_); refine ⟨_, Yl_extract rfl rfl, ?_⟩)
                      | ((with_reducible refine is_un ?_); refine ⟨_, Yl_not rfl, ?_⟩)
                      | ((with_reducible refine is_len ?_); (first | ((refine' ⟨_, Yl_len_slice rfl ?q1, ?_⟩); (case q1 => exact und_of rfl)) | ((refine' ⟨_, Yl_len_string rfl ?q1, ?_⟩); (case q1 => exact und_of rfl))))
                      | ((with_reducible refine is_b_lss ?_); (first | ((refine' ⟨_, Yl_lss_t rfl rfl ?q1, ?_⟩); (case q1 => omega)) | ((refine' ⟨_, Yl_lss_f rfl rfl ?q1, ?_⟩); (case q1 => omega)) | (refine sp_lss rfl rfl ?_ ?_ <;> intro hc)))
                      | ((with_reducible refine is_b_leq ?_); (first | ((refine' ⟨_, Yl_leq_t rfl rfl ?q1, ?_⟩); (case q1 => omega)) | ((refine' ⟨_, Yl_leq_f rfl rfl ?q1, ?_⟩); (case q1 => omega)) | (refine sp_leq rfl rfl ?_ ?_ <;> intro hc)))
                      | ((with_reducible refine is_b_gtr ?_); (first | ((refine' ⟨_, Yl_gtr_t rfl rfl ?q1, ?_⟩); (case q1 => omega)) | ((refine' ⟨_, Yl_gtr_f rfl rfl ?q1, ?_⟩); (case q1 => omega)) | (refine sp_gtr rfl rfl ?_ ?_ <;> intro hc)))
                      | ((with_reducible refine is_b_eql ?_); (first | ((refine' ⟨_, Yl_eql_t rfl rfl ?q1, ?_⟩); (case q1 => omega)) | ((refine' ⟨_, Yl_eql_f rfl rfl ?q1, ?_⟩); (case q1 => omega)) | (refine sp_eql rfl rfl ?_ ?_ <;> intro hc) | ((refine' ⟨_, Yl_convW (k := .i64) (k' := .u64) rfl ?q1 ?q2, ?_⟩); (case q1 => exact und_of rfl); (case q2 => exact und_of rfl)) | ((refine' ⟨_, Yl_convI (k := .u64) (k' := .i64) rfl ?q1 ?q2 (wrap_mod _ 5 ?q3 ?q4), ?_⟩); (case q1 => exact und_of rfl); (case q2 => exact und_of rfl); (case q3 => decide); (case q4 => decide)) | ((refine' ⟨_, Yl_remE rfl rfl ?q1 ?q2 rfl, ?_⟩); (case q1 => exact wrap_u64_lo _); (case q2 => decide)) | ((refine' ⟨_, Yl_eql_bool rfl rfl ?q1, ?_⟩); (case q1 => exact und_of rfl)) | ((refine' ⟨_, Yl_eql_strT rfl rfl ?q1, ?_⟩); (case q1 => first | assumption | rfl)) | ((refine' ⟨_, Yl_eql_strF rfl rfl ?q1, ?_⟩); (case q1 => first | assumption | decide)) | (refine sp_eqlS rfl rfl ?_ ?_ <;> intro hc)))
                      | ((with_reducible refine is_b_neq ?_); (first | ((refine' ⟨_, Yl_neq_t rfl rfl ?q1, ?_⟩); (case q1 => omega)) | ((refine' ⟨_, Yl_neq_f rfl rfl ?q1, ?_⟩); (case q1 => omega)) | (refine sp_neq rfl rfl ?_ ?_ <;> intro hc) | ((refine' ⟨_, Yl_convW (k := .i64) (k' := .u64) rfl ?q1 ?q2, ?_⟩); (case q1 => exact und_of rfl); (case q2 => exact und_of rfl)) | ((refine' ⟨_, Yl_convI (k := .u64) (k' := .i64) rfl ?q1 ?q2 (wrap_mod _ 5 ?q3 ?q4), ?_⟩); (case q1 => exact und_of rfl); (case q2 => exact und_of rfl); (case q3 => decide); (case q4 => decide)) | ((refine' ⟨_, Yl_remE rfl rfl ?q1 ?q2 rfl, ?_⟩); (case q1 => exact wrap_u64_lo _); (case q2 => decide)) | ((refine' ⟨_, Yl_neq_bool rfl rfl ?q1, ?_⟩); (case q1 => exact und_of rfl)) | ((refine' ⟨_, Yl_neq_strT rfl rfl ?q1, ?_⟩); (case q1 => first | assumption | decide)) | ((refine' ⟨_, Yl_neq_strF rfl rfl ?q1, ?_⟩); (case q1 => first | assumption | rfl)) | (refine sp_neqS rfl rfl ?_ ?_ <;> intro hc)))
                      | ((with_reducible refine is_b_add ?_); (first | ((refine' ⟨_, Yl_add rfl rfl ?q1 ?q2, ?_⟩); (case q1 => omega); (case q2 => omega)) | ((refine' ⟨_, Yl_add8 rfl rfl ?q1 ?q2, ?_⟩); (case q1 => omega); (case q2 => omega)) | ((refine' ⟨_, Yl_convW (k := .i64) (k' := .u64) rfl ?q1 ?q2, ?_⟩); (case q1 => exact und_of rfl); (case q2 => exact und_of rfl)) | ((refine' ⟨_, Yl_convI (k := .u64) (k' := .i64) rfl ?q1 ?q2 (wrap_mod _ 5 ?q3 ?q4), ?_⟩); (case q1 => exact und_of rfl); (case q2 => exact und_of rfl); (case q3 => decide); (case q4 => decide)) | ((refine' ⟨_, Yl_remE rfl rfl ?q1 ?q2 rfl, ?_⟩); (case q1 => exact wrap_u64_lo _); (case q2 => decide))))
                      | (first | ((refine' ⟨_, Yl_convW (k := .i64) (k' := .u64) rfl ?q1 ?q2, ?_⟩); (case q1 => exact und_of rfl); (case q2 => exact und_of rfl)) | ((refine' ⟨_, Yl_convI (k := .u64) (k' := .i64) rfl ?q1 ?q2 (wrap_mod _ 5 ?q3 ?q4), ?_⟩); (case q1 => exact und_of rfl); (case q2 => exact und_of rfl); (case q3 => decide); (case q4 => decide)) | ((refine' ⟨_, Yl_remE rfl rfl ?q1 ?q2 rfl, ?_⟩); (case q1 => exact wrap_u64_lo _); (case q2 => decide)))
                      | ((with_reducible refine ie_store ?_); (first
                      | ((refine' Ef_store_row1 rfl rfl ?q1 ?q2 ?q3 ?q4 ?q5 ?_); (case q1 => rfl); (case q2 => exact siz_of rfl); (case q3 => (first | exact at0 | exact at1 | exact at2 | exact at3 | exact at4 | exact at5 | exact at6)); (case q4 => omega); (case q5 => assumption))
                      | ((refine' Ef_store_rowA rfl rfl ?q1 ?q2 ?q3 ?q4 ?q5 ?q6 ?_); (case q1 => exact siz_of rfl); (case q2 => rfl); (case q3 => (first | assumption | (intro u hu; rcases hu with _ | ⟨_, _ | ⟨_, _ | ⟨_, _ | ⟨_, hu⟩⟩⟩⟩ <;> first | rfl | (cases hu; done)))); (case q4 => (first | exact at0 | exact at1 | exact at2 | exact at3 | exact at4 | exact at5 | exact at6)); (case q5 => omega); (case q6 => assumption))
                      | ((refine' Ef_storeA' rfl rfl ?q1 ?q2 ?q3 ?q4 ?_); (case q1 => exact siz_of rfl); (case q2 => (first | assumption | (intro u hu; rcases hu with _ | ⟨_, _ | ⟨_, _ | ⟨_, _ | ⟨_, hu⟩⟩⟩⟩ <;> first | rfl | (cases hu; done)))); (case q3 => (first | exact at0 | exact at1 | exact at2 | exact at3 | exact at4 | exact at5 | exact at6)); (case q4 => rfl))
                      | ((refine' Ef_storeC rfl rfl ?q1 ?q2 ?q3 ?q4 ?q5 ?_); (case q1 => rfl); (case q2 => exact siz_of rfl); (case q3 => (first | exact at0 | exact at1 | exact at2 | exact at3 | exact at4 | exact at5 | exact at6)); (case q4 => exact Nat.le_of_ble_eq_true rfl); (case q5 => rfl))))
                      | ((with_reducible refine ie_callf ?_); (first
                      | ((with_reducible refine g_call 6 ?_); (first | refine Ef_callP rfl rfl ent_6 (fun w _ => awake_c w) ?_))
                      | ((with_reducible refine g_call 7 ?_); (first | (refine Ef_callN rfl rfl ent_7 (fun w _ => hfi w) ?_; rintro ⟨A1, c1⟩)))
                      | ((with_reducible refine g_call 8 ?_); (first | (((refine' Ef_callNX rfl rfl ent_8 (fun w hp => hch w (hp.rowOf ?q1) (hp.capOf (A := A1) (m := l.length) (cap := c1) ?q2)) ?_); (case q1 => (repeat (first | exact .head _ | apply List.Mem.tail))); (case q2 => (repeat (first | exact .head _ | apply List.Mem.tail)))); rintro ⟨⟨A2, c2⟩, Rw⟩ hR)))
                      | ((with_reducible refine g_call 9 ?_); (first | ((refine' Ef_callP rfl rfl ent_9 (fun w hp => hma w (hrow w (hp.own (rM l (A1, c1)) ?q1) (hp.own Rw ?q2))) ?_); (case q1 => (repeat (first | exact .head _ | apply List.Mem.tail))); (case q2 => (repeat (first | exact .head _ | apply List.Mem.tail))))))
                      | ((with_reducible refine g_call 10 ?_); (first | refine Ef_callP rfl rfl ent_10 (fun w hp => hat w (hp.rd hrd fun _ => List.not_mem_nil)) ?_))))
                      | ((first  | ((with_reducible refine ie_alloc ?_); (((refine' Ef_alloc rfl ?q1 ?_); (case q1 => exact zer_of rfl))))); (first | ((fail_if_success have := b1); intro b1) | ((fail_if_success have := b2); intro b2) | ((fail_if_success have := b3); intro b3) | ((fail_if_success have := b4); intro b4) | ((fail_if_success have := b5); intro b5) | ((fail_if_success have := b6); intro b6) | ((fail_if_success have := b7); intro b7) | ((fail_if_success have := b8); intro b8) | ((fail_if_success have := b9); intro b9) | ((fail_if_success have := b10); intro b10) | ((fail_if_success have := b11); intro b11) | ((fail_if_success have := b12); intro b12)))
                      | (fail; (first | ((fail_if_success have := A1); intro A1 c1) | ((fail_if_success have := A2); intro A2 c2) | ((fail_if_success have := A3); intro A3 c3) | ((fail_if_success have := A4); intro A4 c4) | ((fail_if_success have := A5); intro A5 c5) | ((fail_if_success have := A6); intro A6 c6) | ((fail_if_success have := A7); intro A7 c7)))
                      | refine Ef_y rfl rfl ?_
                      | ((with_reducible refine ie_conv ?_); refine Ef_y' rfl ?_))
                  exact loopQ_n (j + 1) (by (repeat (first | exact Sub.nil | refine Sub.cons rfl ?_))) (by (repeat (first | exact List.nil_sublist _ | refine List.Sublist.cons_cons _ ?_ | refine List.Sublist.cons _ ?_))) (by (first | omega | (dsimp only; omega) | (simp; omega))) (by (first | omega | (dsimp only; omega) | (simp; omega)))
                · obtain rfl : j = j0 := by omega
                  rw [hg] at hu
                  cases hu
                  cases sh
                  all_goals repeat' (first
                      | with_reducible refine T.seq ?_
                      | with_reducible refine T.block ?_
                      | with_reducible refine T.region ?_
                      | with_reducible refine T.skip ?_
                      | with_reducible refine T.scope ?_
                      | with_reducible refine T.label ?_
                      | with_reducible refine scopeQ_n ?_
                      | with_reducible refine scopeQ_r ?_
                      | with_reducible refine scopeQ_x ?_
                      | with_reducible refine T.ret ?_
                      | with_reducible refine T.exit ?_
                      | with_reducible refine seqQ_n ?_
                      | with_reducible refine seqQ_x ?_
                      | with_reducible refine seqQ_r ?_
                      | with_reducible refine blockQ_n ?_
                      | with_reducible refine blockQ_r ?_
                      | with_reducible refine blockQ_x ?_
                      | ((with_reducible refine g_blkx ?_); refine blockQ_y rfl ?_)
                      | with_reducible refine loopQ_x ?_
                      | with_reducible refine loopQ_r ?_
                      | with_reducible refine joinQ_r ?_
                      | with_reducible refine joinQ_x ?_
                      | ((with_reducible refine g_cond ?_); (first | refine T.cond_t rfl ?_ | refine T.cond_f rfl ?_ | (refine T.cond_s rfl ?_ ?_ <;> intro hc)))
                      | with_reducible refine TL_nil ?_
                      | with_reducible refine TS_nil ?_
                      | ((with_reducible refine g_draw ?_); (first
                      | (((refine' T.joinS (α := (Option Addr × Nat) × Asrt × Nat) (fun z => [(1, .slice B len cap), (5, .pointer (some ⟨b1, 0, none⟩)), (7, .int .i64 (i : Int)), (8, .pointer (some ⟨z.2.2, 0, none⟩))]) (fun z => [.blk z.2.2 (.cells (cV s.1 z.1 s.2.length) 26 (0, 0)), rM l (A1, c1), z.2.1, .blk b1 (.cells (cV e (A1, c1) l.length) 26 (0, 0))]) (fun z => z.2.1 = rM s.2 z.1 ∨ (s = (e, l) ∧ z.1 = (A1, c1))) (T.drawBM (id := 9) (.y 0 (.y 1 (.y 2 (.y 3 (.y 4 (.b 5 (.run [(6, false), (7, false)]) 6 (.run [(5, false), (7, false)]))))))) mixd ?q1 ?_) ?_); (case q1 => kernel_rfl)))
                      | (((refine' T.joinS (α := Nat) (fun z => [(1, .slice B len cap), (5, .pointer (some ⟨b1, 0, none⟩)), (7, .int .i64 (i : Int)), (8, .pointer (some ⟨b2, 0, none⟩)), (9, .bool sh), (10, .int .i64 la), (11, .int .i64 (k : Int)), (12, .pointer (some ⟨z, 0, none⟩)), (13, .bool (Cf.mem s.2 xn).isSome)]) (fun z => [.blk z (.cells (mE ((Cf.mem s.2 xn).getD Mb.z)).toArray 36 (0, 0))]) (fun _ => True) (T.drawBM (id := 17) (.y 0 (.y 1 (.y 2 (.y 3 (.y 4 (.y 5 (.y 6 (.b 7 (.run [(8, true), (9, true), (10, true), (11, false), (12, false), (13, true)]) 11 (.run [(7, false), (8, true), (9, true), (10, true), (12, false), (13, true)]))))))))) mixd ?q1 ?_) ?_); (case q1 => kernel_rfl)))
                      | (((with_reducible refine' T.drawM (id := 19) [(0, true), (1, true), (2, true), (3, true), (4, false), (5, false), (6, false), (7, false), (8, false), (9, false), (10, true), (11, true), (12, false), (13, false), (14, false), (15, false), (16, false), (17, false), (18, false), (19, false), (20, false), (21, false)] mixd ?q1 ?_); (case q1 => kernel_rfl)))
                      | (((with_reducible refine' T.drawM (id := 22) [(0, true), (1, false), (2, false), (3, false), (4, false), (5, false), (6, true), (7, true), (8, true), (9, true), (10, true), (11, true), (12, false), (13, false), (14, false), (15, false)] mixd ?q1 ?_); (case q1 => kernel_rfl)))))
                      | ((with_reducible refine TL_y' ?hy ?hd ?_); (case hy => rfl); (case hd => rfl))
                      | with_reducible refine TL_e ?_
                      | ((with_reducible refine g_TL ?_); (first | refine TL_gy' rfl rfl rfl rfl ?_ | refine TL_gn rfl rfl rfl ?_ | refine TL_gu rfl rfl rfl ?_ | refine TL_ge rfl rfl ?_ | refine TL_gn0 rfl rfl ?_))
                      | ((with_reducible refine g_TS ?_); (first | refine TS_y rfl rfl ?_ | refine TS_e rfl ?_ | refine TS_gy rfl rfl rfl rfl ?_ | refine TS_gn rfl rfl rfl rfl ?_ | refine TS_gu rfl rfl rfl rfl ?_ | refine TS_ge rfl rfl rfl ?_ | refine TS_gne rfl rfl rfl rfl ?_ | refine TS_gue rfl rfl rfl rfl ?_ | refine TS_gne0 rfl rfl rfl ?_))
                      | ((with_reducible refine TSand ?hd ?_); (case hd => (repeat (first | exact List.nil_sublist _ | refine List.Sublist.cons_cons _ ?_ | refine List.Sublist.cons _ ?_))))
                      | ((with_reducible refine TBand ?hd ?_); (case hd => (repeat (first | exact List.nil_sublist _ | refine List.Sublist.cons_cons _ ?_ | refine List.Sublist.cons _ ?_))))
                      | ((with_reducible refine g_TB ?_); (first | with_reducible refine TB_run ?_ | refine TB_y rfl rfl ?_ | refine TB_b rfl rfl ?_ ?_ | refine TB_e rfl ?_))
                      | ((with_reducible refine is_move ?_); refine ⟨_, Yl_move rfl, ?_⟩)
                      | ((with_reducible refine is_assign ?_); refine ⟨_, Yl_assign rfl, ?_⟩)
                      | ((with_reducible refine is_pick ?_); (first | refine ⟨_, Yl_pick_t rfl rfl, ?_⟩ | refine ⟨_, Yl_pick_f rfl rfl, ?_⟩))
                      | ((with_reducible refine is_fld ?_); (first | ((refine' ⟨_, Yl_fld_ad rfl ?q1, ?_⟩); (case q1 => exact fld_of rfl rfl)) | ((refine' ⟨_, Yl_fld_blk0 rfl ?q1, ?_⟩); (case q1 => exact fld_of rfl rfl)) | ((refine' ⟨_, Yl_fld_blk rfl ?q1, ?_⟩); (case q1 => exact fld_of rfl rfl))))
                      | ((with_reducible refine is_load ?_); (first
                      | ((refine' ⟨_, Yl_load_old rfl ?q1 ?q2 List.not_mem_nil ?q3, ?_⟩); (case q1 => exact one_of rfl); (case q2 => assumption); (case q3 => rfl))
                      | ((refine' ⟨_, Yl_loadA_old rfl ?q1 List.not_mem_nil ?q2, ?_⟩); (case q1 => assumption); (case q2 => exact agg_of rfl))
                      | ((refine' ⟨_, Yl_load_blk rfl ?q1 ?q2 ?q3, ?_⟩); (case q1 => exact one_of rfl); (case q2 => (repeat (first | exact .head _ | apply List.Mem.tail))); (case q3 => rfl))
                      | ((refine' ⟨_, Yl_loadA_blk rfl ?q1 ?q2, ?_⟩); (case q1 => (repeat (first | exact .head _ | apply List.Mem.tail))); (case q2 => exact agg_of rfl))
                      | ((refine' ⟨_, Yl_load_blk rfl ?q1 ?q2 ?q3, ?_⟩); (case q1 => exact one_of rfl); (case q2 => (repeat (first | exact .head _ | apply List.Mem.tail))); (case q3 => assumption))
                      | ((refine' ⟨_, Yl_load_rd rfl ?q1 ?q2 List.not_mem_nil ?q3, ?_⟩); (case q1 => exact one_of rfl); (case q2 => assumption); (case q3 => assumption))
                      | ((refine' ⟨_, Yl_load_row rfl ?q1 ?q2 ?q3, ?_⟩); (case q1 => exact one_of rfl); (case q2 => (repeat (first | exact .head _ | apply List.Mem.tail))); (case q3 => assumption))
                      | ((refine' ⟨_, Yl_loadA_rd rfl ?qa ?qb List.not_mem_nil ?ql ?qc, ?_⟩); (case qa => exact agg_of rfl); (case qb => assumption); (case qc => assumption); (case ql => rfl))
                      | ((refine' ⟨_, Yl_loadA_row rfl ?qa ?qb ?ql ?qc, ?_⟩); (case qa => exact agg_of rfl); (case qb => (repeat (first | exact .head _ | apply List.Mem.tail))); (case qc => assumption); (case ql => rfl))))
                      | ((with_reducible refine is_idx ?_); (first
                      | ((refine' ⟨_, Yl_index rfl rfl ?q1 ?q2 ?q3 (Rd.some_ ?q4 ?q5), ?_⟩); (case q1 => exact und_of rfl); (case q2 => exact siz_of rfl); (case q3 => omega); (case q4 => assumption); (case q5 => omega))
                      | ((refine' ⟨_, Yl_index_row rfl rfl ?q1 ?q2 ?q3 ?q4, ?_⟩); (case q1 => exact und_of rfl); (case q2 => exact siz_of rfl); (case q3 => omega); (case q4 => (repeat (first | exact .head _ | apply List.Mem.tail))))
                      | ((refine' ⟨_, Yl_index rfl rfl ?q1 ?q2 ?q3 rfl, ?_⟩); (case q1 => exact und_of rfl); (case q2 => exact siz_of rfl); (case q3 => omega))
                      | ((refine' ⟨_, Yl_index (j := 0) rfl rfl ?q1 ?q2 ?q3 (Rd.some_ ?q4 ?q5), ?_⟩); (case q1 => exact und_of rfl); (case q2 => exact siz_of rfl); (case q3 => omega); (case q4 => assumption); (case q5 => omega))
                      | ((refine' ⟨_, Yl_index_row (j := 0) rfl rfl ?q1 ?q2 ?q3 ?q4, ?_⟩); (case q1 => exact und_of rfl); (case q2 => exact siz_of rfl); (case q3 => omega); (case q4 => (repeat (first | exact .head _ | apply List.Mem.tail))))
                      | ((refine' ⟨_, Yl_indexI rfl rfl ?q1 ?q2 ?q3 ?q4 (Rd.some_ ?q5 ?q6), ?_⟩); (case q1 => exact und_of rfl); (case q2 => exact siz_of rfl); (case q3 => omega); (case q4 => omega); (case q5 => assumption); (case q6 => omega))))
                      | ((with_reducible refine is_ext ?_); refine ⟨_, Yl_extract rfl rfl, ?_⟩)
                      | ((with_reducible refine is_un ?_); refine ⟨_, Yl_not rfl, ?_⟩)
                      | ((with_reducible refine is_len ?_); (first | ((refine' ⟨_, Yl_len_slice rfl ?q1, ?_⟩); (case q1 => exact und_of rfl)) | ((refine' ⟨_, Yl_len_string rfl ?q1, ?_⟩); (case q1 => exact und_of rfl))))
                      | ((with_reducible refine is_b_lss ?_); (first | ((refine' ⟨_, Yl_lss_t rfl rfl ?q1, ?_⟩); (case q1 => omega)) | ((refine' ⟨_, Yl_lss_f rfl rfl ?q1, ?_⟩); (case q1 => omega)) | (refine sp_lss rfl rfl ?_ ?_ <;> intro hc)))
                      | ((with_reducible refine is_b_leq ?_); (first | ((refine' ⟨_, Yl_leq_t rfl rfl ?q1, ?_⟩); (case q1 => omega)) | ((refine' ⟨_, Yl_leq_f rfl rfl ?q1, ?_⟩); (case q1 => omega)) | (refine sp_leq rfl rfl ?_ ?_ <;> intro hc)))
                      | ((with_reducible refine is_b_gtr ?_); (first | ((refine' ⟨_, Yl_gtr_t rfl rfl ?q1, ?_⟩); (case q1 => omega)) | ((refine' ⟨_, Yl_gtr_f rfl rfl ?q1, ?_⟩); (case q1 => omega)) | (refine sp_gtr rfl rfl ?_ ?_ <;> intro hc)))
                      | ((with_reducible refine is_b_eql ?_); (first | ((refine' ⟨_, Yl_eql_t rfl rfl ?q1, ?_⟩); (case q1 => omega)) | ((refine' ⟨_, Yl_eql_f rfl rfl ?q1, ?_⟩); (case q1 => omega)) | (refine sp_eql rfl rfl ?_ ?_ <;> intro hc) | ((refine' ⟨_, Yl_convW (k := .i64) (k' := .u64) rfl ?q1 ?q2, ?_⟩); (case q1 => exact und_of rfl); (case q2 => exact und_of rfl)) | ((refine' ⟨_, Yl_convI (k := .u64) (k' := .i64) rfl ?q1 ?q2 (wrap_mod _ 5 ?q3 ?q4), ?_⟩); (case q1 => exact und_of rfl); (case q2 => exact und_of rfl); (case q3 => decide); (case q4 => decide)) | ((refine' ⟨_, Yl_remE rfl rfl ?q1 ?q2 rfl, ?_⟩); (case q1 => exact wrap_u64_lo _); (case q2 => decide)) | ((refine' ⟨_, Yl_eql_bool rfl rfl ?q1, ?_⟩); (case q1 => exact und_of rfl)) | ((refine' ⟨_, Yl_eql_strT rfl rfl ?q1, ?_⟩); (case q1 => first | assumption | rfl)) | ((refine' ⟨_, Yl_eql_strF rfl rfl ?q1, ?_⟩); (case q1 => first | assumption | decide)) | (refine sp_eqlS rfl rfl ?_ ?_ <;> intro hc)))
                      | ((with_reducible refine is_b_neq ?_); (first | ((refine' ⟨_, Yl_neq_t rfl rfl ?q1, ?_⟩); (case q1 => omega)) | ((refine' ⟨_, Yl_neq_f rfl rfl ?q1, ?_⟩); (case q1 => omega)) | (refine sp_neq rfl rfl ?_ ?_ <;> intro hc) | ((refine' ⟨_, Yl_convW (k := .i64) (k' := .u64) rfl ?q1 ?q2, ?_⟩); (case q1 => exact und_of rfl); (case q2 => exact und_of rfl)) | ((refine' ⟨_, Yl_convI (k := .u64) (k' := .i64) rfl ?q1 ?q2 (wrap_mod _ 5 ?q3 ?q4), ?_⟩); (case q1 => exact und_of rfl); (case q2 => exact und_of rfl); (case q3 => decide); (case q4 => decide)) | ((refine' ⟨_, Yl_remE rfl rfl ?q1 ?q2 rfl, ?_⟩); (case q1 => exact wrap_u64_lo _); (case q2 => decide)) | ((refine' ⟨_, Yl_neq_bool rfl rfl ?q1, ?_⟩); (case q1 => exact und_of rfl)) | ((refine' ⟨_, Yl_neq_strT rfl rfl ?q1, ?_⟩); (case q1 => first | assumption | decide)) | ((refine' ⟨_, Yl_neq_strF rfl rfl ?q1, ?_⟩); (case q1 => first | assumption | rfl)) | (refine sp_neqS rfl rfl ?_ ?_ <;> intro hc)))
                      | ((with_reducible refine is_b_add ?_); (first | ((refine' ⟨_, Yl_add rfl rfl ?q1 ?q2, ?_⟩); (case q1 => omega); (case q2 => omega)) | ((refine' ⟨_, Yl_add8 rfl rfl ?q1 ?q2, ?_⟩); (case q1 => omega); (case q2 => omega)) | ((refine' ⟨_, Yl_convW (k := .i64) (k' := .u64) rfl ?q1 ?q2, ?_⟩); (case q1 => exact und_of rfl); (case q2 => exact und_of rfl)) | ((refine' ⟨_, Yl_convI (k := .u64) (k' := .i64) rfl ?q1 ?q2 (wrap_mod _ 5 ?q3 ?q4), ?_⟩); (case q1 => exact und_of rfl); (case q2 => exact und_of rfl); (case q3 => decide); (case q4 => decide)) | ((refine' ⟨_, Yl_remE rfl rfl ?q1 ?q2 rfl, ?_⟩); (case q1 => exact wrap_u64_lo _); (case q2 => decide))))
                      | (first | ((refine' ⟨_, Yl_convW (k := .i64) (k' := .u64) rfl ?q1 ?q2, ?_⟩); (case q1 => exact und_of rfl); (case q2 => exact und_of rfl)) | ((refine' ⟨_, Yl_convI (k := .u64) (k' := .i64) rfl ?q1 ?q2 (wrap_mod _ 5 ?q3 ?q4), ?_⟩); (case q1 => exact und_of rfl); (case q2 => exact und_of rfl); (case q3 => decide); (case q4 => decide)) | ((refine' ⟨_, Yl_remE rfl rfl ?q1 ?q2 rfl, ?_⟩); (case q1 => exact wrap_u64_lo _); (case q2 => decide)))
                      | ((with_reducible refine ie_store ?_); (first
                      | ((refine' Ef_store_row1 rfl rfl ?q1 ?q2 ?q3 ?q4 ?q5 ?_); (case q1 => rfl); (case q2 => exact siz_of rfl); (case q3 => (first | exact at0 | exact at1 | exact at2 | exact at3 | exact at4 | exact at5 | exact at6)); (case q4 => omega); (case q5 => assumption))
                      | ((refine' Ef_store_rowA rfl rfl ?q1 ?q2 ?q3 ?q4 ?q5 ?q6 ?_); (case q1 => exact siz_of rfl); (case q2 => rfl); (case q3 => (first | assumption | (intro u hu; rcases hu with _ | ⟨_, _ | ⟨_, _ | ⟨_, _ | ⟨_, hu⟩⟩⟩⟩ <;> first | rfl | (cases hu; done)))); (case q4 => (first | exact at0 | exact at1 | exact at2 | exact at3 | exact at4 | exact at5 | exact at6)); (case q5 => omega); (case q6 => assumption))
                      | ((refine' Ef_storeA' rfl rfl ?q1 ?q2 ?q3 ?q4 ?_); (case q1 => exact siz_of rfl); (case q2 => (first | assumption | (intro u hu; rcases hu with _ | ⟨_, _ | ⟨_, _ | ⟨_, _ | ⟨_, hu⟩⟩⟩⟩ <;> first | rfl | (cases hu; done)))); (case q3 => (first | exact at0 | exact at1 | exact at2 | exact at3 | exact at4 | exact at5 | exact at6)); (case q4 => rfl))
                      | ((refine' Ef_storeC rfl rfl ?q1 ?q2 ?q3 ?q4 ?q5 ?_); (case q1 => rfl); (case q2 => exact siz_of rfl); (case q3 => (first | exact at0 | exact at1 | exact at2 | exact at3 | exact at4 | exact at5 | exact at6)); (case q4 => exact Nat.le_of_ble_eq_true rfl); (case q5 => rfl))))
                      | ((with_reducible refine ie_callf ?_); (first
                      | ((with_reducible refine g_call 6 ?_); (first | refine Ef_callP rfl rfl ent_6 (fun w _ => awake_c w) ?_))
                      | ((with_reducible refine g_call 7 ?_); (first | (refine Ef_callN rfl rfl ent_7 (fun w _ => hfi w) ?_; rintro ⟨A1, c1⟩)))
                      | ((with_reducible refine g_call 8 ?_); (first | (((refine' Ef_callNX rfl rfl ent_8 (fun w hp => hch w (hp.rowOf ?q1) (hp.capOf (A := A1) (m := l.length) (cap := c1) ?q2)) ?_); (case q1 => (repeat (first | exact .head _ | apply List.Mem.tail))); (case q2 => (repeat (first | exact .head _ | apply List.Mem.tail)))); rintro ⟨⟨A2, c2⟩, Rw⟩ hR)))
                      | ((with_reducible refine g_call 9 ?_); (first | ((refine' Ef_callP rfl rfl ent_9 (fun w hp => hma w (hrow w (hp.own (rM l (A1, c1)) ?q1) (hp.own Rw ?q2))) ?_); (case q1 => (repeat (first | exact .head _ | apply List.Mem.tail))); (case q2 => (repeat (first | exact .head _ | apply List.Mem.tail))))))
                      | ((with_reducible refine g_call 10 ?_); (first | refine Ef_callP rfl rfl ent_10 (fun w hp => hat w (hp.rd hrd fun _ => List.not_mem_nil)) ?_))))
                      | ((first  | ((with_reducible refine ie_alloc ?_); (((refine' Ef_alloc rfl ?q1 ?_); (case q1 => exact zer_of rfl))))); (first | ((fail_if_success have := b1); intro b1) | ((fail_if_success have := b2); intro b2) | ((fail_if_success have := b3); intro b3) | ((fail_if_success have := b4); intro b4) | ((fail_if_success have := b5); intro b5) | ((fail_if_success have := b6); intro b6) | ((fail_if_success have := b7); intro b7) | ((fail_if_success have := b8); intro b8) | ((fail_if_success have := b9); intro b9) | ((fail_if_success have := b10); intro b10) | ((fail_if_success have := b11); intro b11) | ((fail_if_success have := b12); intro b12)))
                      | (fail; (first | ((fail_if_success have := A1); intro A1 c1) | ((fail_if_success have := A2); intro A2 c2) | ((fail_if_success have := A3); intro A3 c3) | ((fail_if_success have := A4); intro A4 c4) | ((fail_if_success have := A5); intro A5 c5) | ((fail_if_success have := A6); intro A6 c6) | ((fail_if_success have := A7); intro A7 c7)))
                      | refine Ef_y rfl rfl ?_
                      | ((with_reducible refine ie_conv ?_); refine Ef_y' rfl ?_))
                  all_goals exact loopQ_n (k + 1, _, (j : Int)) (by (repeat (first | exact Sub.nil | refine Sub.cons rfl ?_))) (List.nil_sublist _) ⟨by (first | omega | (dsimp only; omega) | (simp; omega)), .inr ⟨k, j, by (first | omega | (dsimp only; omega) | (simp; omega)), hpk, rfl⟩, hshn _ (by simp) (by simp)⟩ (by (first | omega | (dsimp only; omega) | (simp; omega)))
          · have hsht : sh = true := hsh.resolve_right fun h => by
              have h1 := h kw xw iw (by have := (List.getElem?_eq_some_iff.1 hxw).1; omega) hxw hpw
              rw [hww] at h1
              cases h1
            subst hsht
            repeat' (first
                | with_reducible refine T.seq ?_
                | with_reducible refine T.block ?_
                | with_reducible refine T.region ?_
                | with_reducible refine T.skip ?_
                | with_reducible refine T.scope ?_
                | with_reducible refine T.label ?_
                | with_reducible refine scopeQ_n ?_
                | with_reducible refine scopeQ_r ?_
                | with_reducible refine scopeQ_x ?_
                | with_reducible refine T.ret ?_
                | with_reducible refine T.exit ?_
                | with_reducible refine seqQ_n ?_
                | with_reducible refine seqQ_x ?_
                | with_reducible refine seqQ_r ?_
                | with_reducible refine blockQ_n ?_
                | with_reducible refine blockQ_r ?_
                | with_reducible refine blockQ_x ?_
                | ((with_reducible refine g_blkx ?_); refine blockQ_y rfl ?_)
                | with_reducible refine loopQ_x ?_
                | with_reducible refine loopQ_r ?_
                | with_reducible refine joinQ_r ?_
                | with_reducible refine joinQ_x ?_
                | ((with_reducible refine g_cond ?_); (first | refine T.cond_t rfl ?_ | refine T.cond_f rfl ?_ | (refine T.cond_s rfl ?_ ?_ <;> intro hc)))
                | with_reducible refine TL_nil ?_
                | with_reducible refine TS_nil ?_
                | ((with_reducible refine g_draw ?_); (first
                | (((refine' T.joinS (α := (Option Addr × Nat) × Asrt × Nat) (fun z => [(1, .slice B len cap), (5, .pointer (some ⟨b1, 0, none⟩)), (7, .int .i64 (i : Int)), (8, .pointer (some ⟨z.2.2, 0, none⟩))]) (fun z => [.blk z.2.2 (.cells (cV s.1 z.1 s.2.length) 26 (0, 0)), rM l (A1, c1), z.2.1, .blk b1 (.cells (cV e (A1, c1) l.length) 26 (0, 0))]) (fun z => z.2.1 = rM s.2 z.1 ∨ (s = (e, l) ∧ z.1 = (A1, c1))) (T.drawBM (id := 9) (.y 0 (.y 1 (.y 2 (.y 3 (.y 4 (.b 5 (.run [(6, false), (7, false)]) 6 (.run [(5, false), (7, false)]))))))) mixd ?q1 ?_) ?_); (case q1 => kernel_rfl)))
                | (((refine' T.joinS (α := Nat) (fun z => [(1, .slice B len cap), (5, .pointer (some ⟨b1, 0, none⟩)), (7, .int .i64 (i : Int)), (8, .pointer (some ⟨b2, 0, none⟩)), (9, .bool sh), (10, .int .i64 la), (11, .int .i64 (k : Int)), (12, .pointer (some ⟨z, 0, none⟩)), (13, .bool (Cf.mem s.2 xn).isSome)]) (fun z => [.blk z (.cells (mE ((Cf.mem s.2 xn).getD Mb.z)).toArray 36 (0, 0))]) (fun _ => True) (T.drawBM (id := 17) (.y 0 (.y 1 (.y 2 (.y 3 (.y 4 (.y 5 (.y 6 (.b 7 (.run [(8, true), (9, true), (10, true), (11, false), (12, false), (13, true)]) 11 (.run [(7, false), (8, true), (9, true), (10, true), (12, false), (13, true)]))))))))) mixd ?q1 ?_) ?_); (case q1 => kernel_rfl)))
                | (((with_reducible refine' T.drawM (id := 19) [(0, true), (1, true), (2, true), (3, true), (4, false), (5, false), (6, false), (7, false), (8, false), (9, false), (10, true), (11, true), (12, false), (13, false), (14, false), (15, false), (16, false), (17, false), (18, false), (19, false), (20, false), (21, false)] mixd ?q1 ?_); (case q1 => kernel_rfl)))
                | (((with_reducible refine' T.drawM (id := 22) [(0, true), (1, false), (2, false), (3, false), (4, false), (5, false), (6, true), (7, true), (8, true), (9, true), (10, true), (11, true), (12, false), (13, false), (14, false), (15, false)] mixd ?q1 ?_); (case q1 => kernel_rfl)))))
                | ((with_reducible refine TL_y' ?hy ?hd ?_); (case hy => rfl); (case hd => rfl))
                | with_reducible refine TL_e ?_
                | ((with_reducible refine g_TL ?_); (first | refine TL_gy' rfl rfl rfl rfl ?_ | refine TL_gn rfl rfl rfl ?_ | refine TL_gu rfl rfl rfl ?_ | refine TL_ge rfl rfl ?_ | refine TL_gn0 rfl rfl ?_))
                | ((with_reducible refine g_TS ?_); (first | refine TS_y rfl rfl ?_ | refine TS_e rfl ?_ | refine TS_gy rfl rfl rfl rfl ?_ | refine TS_gn rfl rfl rfl rfl ?_ | refine TS_gu rfl rfl rfl rfl ?_ | refine TS_ge rfl rfl rfl ?_ | refine TS_gne rfl rfl rfl rfl ?_ | refine TS_gue rfl rfl rfl rfl ?_ | refine TS_gne0 rfl rfl rfl ?_))
                | ((with_reducible refine TSand ?hd ?_); (case hd => (repeat (first | exact List.nil_sublist _ | refine List.Sublist.cons_cons _ ?_ | refine List.Sublist.cons _ ?_))))
                | ((with_reducible refine TBand ?hd ?_); (case hd => (repeat (first | exact List.nil_sublist _ | refine List.Sublist.cons_cons _ ?_ | refine List.Sublist.cons _ ?_))))
                | ((with_reducible refine g_TB ?_); (first | with_reducible refine TB_run ?_ | refine TB_y rfl rfl ?_ | refine TB_b rfl rfl ?_ ?_ | refine TB_e rfl ?_))
                | ((with_reducible refine is_move ?_); refine ⟨_, Yl_move rfl, ?_⟩)
                | ((with_reducible refine is_assign ?_); refine ⟨_, Yl_assign rfl, ?_⟩)
                | ((with_reducible refine is_pick ?_); (first | refine ⟨_, Yl_pick_t rfl rfl, ?_⟩ | refine ⟨_, Yl_pick_f rfl rfl, ?_⟩))
                | ((with_reducible refine is_fld ?_); (first | ((refine' ⟨_, Yl_fld_ad rfl ?q1, ?_⟩); (case q1 => exact fld_of rfl rfl)) | ((refine' ⟨_, Yl_fld_blk0 rfl ?q1, ?_⟩); (case q1 => exact fld_of rfl rfl)) | ((refine' ⟨_, Yl_fld_blk rfl ?q1, ?_⟩); (case q1 => exact fld_of rfl rfl))))
                | ((with_reducible refine is_load ?_); (first
                | ((refine' ⟨_, Yl_load_old rfl ?q1 ?q2 List.not_mem_nil ?q3, ?_⟩); (case q1 => exact one_of rfl); (case q2 => assumption); (case q3 => rfl))
                | ((refine' ⟨_, Yl_loadA_old rfl ?q1 List.not_mem_nil ?q2, ?_⟩); (case q1 => assumption); (case q2 => exact agg_of rfl))
                | ((refine' ⟨_, Yl_load_blk rfl ?q1 ?q2 ?q3, ?_⟩); (case q1 => exact one_of rfl); (case q2 => (repeat (first | exact .head _ | apply List.Mem.tail))); (case q3 => rfl))
                | ((refine' ⟨_, Yl_loadA_blk rfl ?q1 ?q2, ?_⟩); (case q1 => (repeat (first | exact .head _ | apply List.Mem.tail))); (case q2 => exact agg_of rfl))
                | ((refine' ⟨_, Yl_load_blk rfl ?q1 ?q2 ?q3, ?_⟩); (case q1 => exact one_of rfl); (case q2 => (repeat (first | exact .head _ | apply List.Mem.tail))); (case q3 => assumption))
                | ((refine' ⟨_, Yl_load_rd rfl ?q1 ?q2 List.not_mem_nil ?q3, ?_⟩); (case q1 => exact one_of rfl); (case q2 => assumption); (case q3 => assumption))
                | ((refine' ⟨_, Yl_load_row rfl ?q1 ?q2 ?q3, ?_⟩); (case q1 => exact one_of rfl); (case q2 => (repeat (first | exact .head _ | apply List.Mem.tail))); (case q3 => assumption))
                | ((refine' ⟨_, Yl_loadA_rd rfl ?qa ?qb List.not_mem_nil ?ql ?qc, ?_⟩); (case qa => exact agg_of rfl); (case qb => assumption); (case qc => assumption); (case ql => rfl))
                | ((refine' ⟨_, Yl_loadA_row rfl ?qa ?qb ?ql ?qc, ?_⟩); (case qa => exact agg_of rfl); (case qb => (repeat (first | exact .head _ | apply List.Mem.tail))); (case qc => assumption); (case ql => rfl))))
                | ((with_reducible refine is_idx ?_); (first
                | ((refine' ⟨_, Yl_index rfl rfl ?q1 ?q2 ?q3 (Rd.some_ ?q4 ?q5), ?_⟩); (case q1 => exact und_of rfl); (case q2 => exact siz_of rfl); (case q3 => omega); (case q4 => assumption); (case q5 => omega))
                | ((refine' ⟨_, Yl_index_row rfl rfl ?q1 ?q2 ?q3 ?q4, ?_⟩); (case q1 => exact und_of rfl); (case q2 => exact siz_of rfl); (case q3 => omega); (case q4 => (repeat (first | exact .head _ | apply List.Mem.tail))))
                | ((refine' ⟨_, Yl_index rfl rfl ?q1 ?q2 ?q3 rfl, ?_⟩); (case q1 => exact und_of rfl); (case q2 => exact siz_of rfl); (case q3 => omega))
                | ((refine' ⟨_, Yl_index (j := 0) rfl rfl ?q1 ?q2 ?q3 (Rd.some_ ?q4 ?q5), ?_⟩); (case q1 => exact und_of rfl); (case q2 => exact siz_of rfl); (case q3 => omega); (case q4 => assumption); (case q5 => omega))
                | ((refine' ⟨_, Yl_index_row (j := 0) rfl rfl ?q1 ?q2 ?q3 ?q4, ?_⟩); (case q1 => exact und_of rfl); (case q2 => exact siz_of rfl); (case q3 => omega); (case q4 => (repeat (first | exact .head _ | apply List.Mem.tail))))
                | ((refine' ⟨_, Yl_indexI rfl rfl ?q1 ?q2 ?q3 ?q4 (Rd.some_ ?q5 ?q6), ?_⟩); (case q1 => exact und_of rfl); (case q2 => exact siz_of rfl); (case q3 => omega); (case q4 => omega); (case q5 => assumption); (case q6 => omega))))
                | ((with_reducible refine is_ext ?_); refine ⟨_, Yl_extract rfl rfl, ?_⟩)
                | ((with_reducible refine is_un ?_); refine ⟨_, Yl_not rfl, ?_⟩)
                | ((with_reducible refine is_len ?_); (first | ((refine' ⟨_, Yl_len_slice rfl ?q1, ?_⟩); (case q1 => exact und_of rfl)) | ((refine' ⟨_, Yl_len_string rfl ?q1, ?_⟩); (case q1 => exact und_of rfl))))
                | ((with_reducible refine is_b_lss ?_); (first | ((refine' ⟨_, Yl_lss_t rfl rfl ?q1, ?_⟩); (case q1 => omega)) | ((refine' ⟨_, Yl_lss_f rfl rfl ?q1, ?_⟩); (case q1 => omega)) | (refine sp_lss rfl rfl ?_ ?_ <;> intro hc)))
                | ((with_reducible refine is_b_leq ?_); (first | ((refine' ⟨_, Yl_leq_t rfl rfl ?q1, ?_⟩); (case q1 => omega)) | ((refine' ⟨_, Yl_leq_f rfl rfl ?q1, ?_⟩); (case q1 => omega)) | (refine sp_leq rfl rfl ?_ ?_ <;> intro hc)))
                | ((with_reducible refine is_b_gtr ?_); (first | ((refine' ⟨_, Yl_gtr_t rfl rfl ?q1, ?_⟩); (case q1 => omega)) | ((refine' ⟨_, Yl_gtr_f rfl rfl ?q1, ?_⟩); (case q1 => omega)) | (refine sp_gtr rfl rfl ?_ ?_ <;> intro hc)))
                | ((with_reducible refine is_b_eql ?_); (first | ((refine' ⟨_, Yl_eql_t rfl rfl ?q1, ?_⟩); (case q1 => omega)) | ((refine' ⟨_, Yl_eql_f rfl rfl ?q1, ?_⟩); (case q1 => omega)) | (refine sp_eql rfl rfl ?_ ?_ <;> intro hc) | ((refine' ⟨_, Yl_convW (k := .i64) (k' := .u64) rfl ?q1 ?q2, ?_⟩); (case q1 => exact und_of rfl); (case q2 => exact und_of rfl)) | ((refine' ⟨_, Yl_convI (k := .u64) (k' := .i64) rfl ?q1 ?q2 (wrap_mod _ 5 ?q3 ?q4), ?_⟩); (case q1 => exact und_of rfl); (case q2 => exact und_of rfl); (case q3 => decide); (case q4 => decide)) | ((refine' ⟨_, Yl_remE rfl rfl ?q1 ?q2 rfl, ?_⟩); (case q1 => exact wrap_u64_lo _); (case q2 => decide)) | ((refine' ⟨_, Yl_eql_bool rfl rfl ?q1, ?_⟩); (case q1 => exact und_of rfl)) | ((refine' ⟨_, Yl_eql_strT rfl rfl ?q1, ?_⟩); (case q1 => first | assumption | rfl)) | ((refine' ⟨_, Yl_eql_strF rfl rfl ?q1, ?_⟩); (case q1 => first | assumption | decide)) | (refine sp_eqlS rfl rfl ?_ ?_ <;> intro hc)))
                | ((with_reducible refine is_b_neq ?_); (first | ((refine' ⟨_, Yl_neq_t rfl rfl ?q1, ?_⟩); (case q1 => omega)) | ((refine' ⟨_, Yl_neq_f rfl rfl ?q1, ?_⟩); (case q1 => omega)) | (refine sp_neq rfl rfl ?_ ?_ <;> intro hc) | ((refine' ⟨_, Yl_convW (k := .i64) (k' := .u64) rfl ?q1 ?q2, ?_⟩); (case q1 => exact und_of rfl); (case q2 => exact und_of rfl)) | ((refine' ⟨_, Yl_convI (k := .u64) (k' := .i64) rfl ?q1 ?q2 (wrap_mod _ 5 ?q3 ?q4), ?_⟩); (case q1 => exact und_of rfl); (case q2 => exact und_of rfl); (case q3 => decide); (case q4 => decide)) | ((refine' ⟨_, Yl_remE rfl rfl ?q1 ?q2 rfl, ?_⟩); (case q1 => exact wrap_u64_lo _); (case q2 => decide)) | ((refine' ⟨_, Yl_neq_bool rfl rfl ?q1, ?_⟩); (case q1 => exact und_of rfl)) | ((refine' ⟨_, Yl_neq_strT rfl rfl ?q1, ?_⟩); (case q1 => first | assumption | decide)) | ((refine' ⟨_, Yl_neq_strF rfl rfl ?q1, ?_⟩); (case q1 => first | assumption | rfl)) | (refine sp_neqS rfl rfl ?_ ?_ <;> intro hc)))
                | ((with_reducible refine is_b_add ?_); (first | ((refine' ⟨_, Yl_add rfl rfl ?q1 ?q2, ?_⟩); (case q1 => omega); (case q2 => omega)) | ((refine' ⟨_, Yl_add8 rfl rfl ?q1 ?q2, ?_⟩); (case q1 => omega); (case q2 => omega)) | ((refine' ⟨_, Yl_convW (k := .i64) (k' := .u64) rfl ?q1 ?q2, ?_⟩); (case q1 => exact und_of rfl); (case q2 => exact und_of rfl)) | ((refine' ⟨_, Yl_convI (k := .u64) (k' := .i64) rfl ?q1 ?q2 (wrap_mod _ 5 ?q3 ?q4), ?_⟩); (case q1 => exact und_of rfl); (case q2 => exact und_of rfl); (case q3 => decide); (case q4 => decide)) | ((refine' ⟨_, Yl_remE rfl rfl ?q1 ?q2 rfl, ?_⟩); (case q1 => exact wrap_u64_lo _); (case q2 => decide))))
                | (first | ((refine' ⟨_, Yl_convW (k := .i64) (k' := .u64) rfl ?q1 ?q2, ?_⟩); (case q1 => exact und_of rfl); (case q2 => exact und_of rfl)) | ((refine' ⟨_, Yl_convI (k := .u64) (k' := .i64) rfl ?q1 ?q2 (wrap_mod _ 5 ?q3 ?q4), ?_⟩); (case q1 => exact und_of rfl); (case q2 => exact und_of rfl); (case q3 => decide); (case q4 => decide)) | ((refine' ⟨_, Yl_remE rfl rfl ?q1 ?q2 rfl, ?_⟩); (case q1 => exact wrap_u64_lo _); (case q2 => decide)))
                | ((with_reducible refine ie_store ?_); (first
                | ((refine' Ef_store_row1 rfl rfl ?q1 ?q2 ?q3 ?q4 ?q5 ?_); (case q1 => rfl); (case q2 => exact siz_of rfl); (case q3 => (first | exact at0 | exact at1 | exact at2 | exact at3 | exact at4 | exact at5 | exact at6)); (case q4 => omega); (case q5 => assumption))
                | ((refine' Ef_store_rowA rfl rfl ?q1 ?q2 ?q3 ?q4 ?q5 ?q6 ?_); (case q1 => exact siz_of rfl); (case q2 => rfl); (case q3 => (first | assumption | (intro u hu; rcases hu with _ | ⟨_, _ | ⟨_, _ | ⟨_, _ | ⟨_, hu⟩⟩⟩⟩ <;> first | rfl | (cases hu; done)))); (case q4 => (first | exact at0 | exact at1 | exact at2 | exact at3 | exact at4 | exact at5 | exact at6)); (case q5 => omega); (case q6 => assumption))
                | ((refine' Ef_storeA' rfl rfl ?q1 ?q2 ?q3 ?q4 ?_); (case q1 => exact siz_of rfl); (case q2 => (first | assumption | (intro u hu; rcases hu with _ | ⟨_, _ | ⟨_, _ | ⟨_, _ | ⟨_, hu⟩⟩⟩⟩ <;> first | rfl | (cases hu; done)))); (case q3 => (first | exact at0 | exact at1 | exact at2 | exact at3 | exact at4 | exact at5 | exact at6)); (case q4 => rfl))
                | ((refine' Ef_storeC rfl rfl ?q1 ?q2 ?q3 ?q4 ?q5 ?_); (case q1 => rfl); (case q2 => exact siz_of rfl); (case q3 => (first | exact at0 | exact at1 | exact at2 | exact at3 | exact at4 | exact at5 | exact at6)); (case q4 => exact Nat.le_of_ble_eq_true rfl); (case q5 => rfl))))
                | ((with_reducible refine ie_callf ?_); (first
                | ((with_reducible refine g_call 6 ?_); (first | refine Ef_callP rfl rfl ent_6 (fun w _ => awake_c w) ?_))
                | ((with_reducible refine g_call 7 ?_); (first | (refine Ef_callN rfl rfl ent_7 (fun w _ => hfi w) ?_; rintro ⟨A1, c1⟩)))
                | ((with_reducible refine g_call 8 ?_); (first | (((refine' Ef_callNX rfl rfl ent_8 (fun w hp => hch w (hp.rowOf ?q1) (hp.capOf (A := A1) (m := l.length) (cap := c1) ?q2)) ?_); (case q1 => (repeat (first | exact .head _ | apply List.Mem.tail))); (case q2 => (repeat (first | exact .head _ | apply List.Mem.tail)))); rintro ⟨⟨A2, c2⟩, Rw⟩ hR)))
                | ((with_reducible refine g_call 9 ?_); (first | ((refine' Ef_callP rfl rfl ent_9 (fun w hp => hma w (hrow w (hp.own (rM l (A1, c1)) ?q1) (hp.own Rw ?q2))) ?_); (case q1 => (repeat (first | exact .head _ | apply List.Mem.tail))); (case q2 => (repeat (first | exact .head _ | apply List.Mem.tail))))))
                | ((with_reducible refine g_call 10 ?_); (first | refine Ef_callP rfl rfl ent_10 (fun w hp => hat w (hp.rd hrd fun _ => List.not_mem_nil)) ?_))))
                | ((first  | ((with_reducible refine ie_alloc ?_); (((refine' Ef_alloc rfl ?q1 ?_); (case q1 => exact zer_of rfl))))); (first | ((fail_if_success have := b1); intro b1) | ((fail_if_success have := b2); intro b2) | ((fail_if_success have := b3); intro b3) | ((fail_if_success have := b4); intro b4) | ((fail_if_success have := b5); intro b5) | ((fail_if_success have := b6); intro b6) | ((fail_if_success have := b7); intro b7) | ((fail_if_success have := b8); intro b8) | ((fail_if_success have := b9); intro b9) | ((fail_if_success have := b10); intro b10) | ((fail_if_success have := b11); intro b11) | ((fail_if_success have := b12); intro b12)))
                | (fail; (first | ((fail_if_success have := A1); intro A1 c1) | ((fail_if_success have := A2); intro A2 c2) | ((fail_if_success have := A3); intro A3 c3) | ((fail_if_success have := A4); intro A4 c4) | ((fail_if_success have := A5); intro A5 c5) | ((fail_if_success have := A6); intro A6 c6) | ((fail_if_success have := A7); intro A7 c7)))
                | refine Ef_y rfl rfl ?_
                | ((with_reducible refine ie_conv ?_); refine Ef_y' rfl ?_))
            refine frzQ_0 ?_
            repeat' (first
                | with_reducible refine T.seq ?_
                | with_reducible refine T.block ?_
                | with_reducible refine T.region ?_
                | with_reducible refine T.skip ?_
                | with_reducible refine T.scope ?_
                | with_reducible refine T.label ?_
                | with_reducible refine scopeQ_n ?_
                | with_reducible refine scopeQ_r ?_
                | with_reducible refine scopeQ_x ?_
                | with_reducible refine T.ret ?_
                | with_reducible refine T.exit ?_
                | with_reducible refine seqQ_n ?_
                | with_reducible refine seqQ_x ?_
                | with_reducible refine seqQ_r ?_
                | with_reducible refine blockQ_n ?_
                | with_reducible refine blockQ_r ?_
                | with_reducible refine blockQ_x ?_
                | ((with_reducible refine g_blkx ?_); refine blockQ_y rfl ?_)
                | with_reducible refine loopQ_x ?_
                | with_reducible refine loopQ_r ?_
                | with_reducible refine joinQ_r ?_
                | with_reducible refine joinQ_x ?_
                | ((with_reducible refine g_cond ?_); (first | refine T.cond_t rfl ?_ | refine T.cond_f rfl ?_ | (refine T.cond_s rfl ?_ ?_ <;> intro hc)))
                | with_reducible refine TL_nil ?_
                | with_reducible refine TS_nil ?_
                | ((with_reducible refine g_draw ?_); (first
                | (((refine' T.joinS (α := (Option Addr × Nat) × Asrt × Nat) (fun z => [(1, .slice B len cap), (5, .pointer (some ⟨b1, 0, none⟩)), (7, .int .i64 (i : Int)), (8, .pointer (some ⟨z.2.2, 0, none⟩))]) (fun z => [.blk z.2.2 (.cells (cV s.1 z.1 s.2.length) 26 (0, 0)), rM l (A1, c1), z.2.1, .blk b1 (.cells (cV e (A1, c1) l.length) 26 (0, 0))]) (fun z => z.2.1 = rM s.2 z.1 ∨ (s = (e, l) ∧ z.1 = (A1, c1))) (T.drawBM (id := 9) (.y 0 (.y 1 (.y 2 (.y 3 (.y 4 (.b 5 (.run [(6, false), (7, false)]) 6 (.run [(5, false), (7, false)]))))))) mixd ?q1 ?_) ?_); (case q1 => kernel_rfl)))
                | (((refine' T.joinS (α := Nat) (fun z => [(1, .slice B len cap), (5, .pointer (some ⟨b1, 0, none⟩)), (7, .int .i64 (i : Int)), (8, .pointer (some ⟨b2, 0, none⟩)), (9, .bool sh), (10, .int .i64 la), (11, .int .i64 (k : Int)), (12, .pointer (some ⟨z, 0, none⟩)), (13, .bool (Cf.mem s.2 xn).isSome)]) (fun z => [.blk z (.cells (mE ((Cf.mem s.2 xn).getD Mb.z)).toArray 36 (0, 0))]) (fun _ => True) (T.drawBM (id := 17) (.y 0 (.y 1 (.y 2 (.y 3 (.y 4 (.y 5 (.y 6 (.b 7 (.run [(8, true), (9, true), (10, true), (11, false), (12, false), (13, true)]) 11 (.run [(7, false), (8, true), (9, true), (10, true), (12, false), (13, true)]))))))))) mixd ?q1 ?_) ?_); (case q1 => kernel_rfl)))
                | (((with_reducible refine' T.drawM (id := 19) [(0, true), (1, true), (2, true), (3, true), (4, false), (5, false), (6, false), (7, false), (8, false), (9, false), (10, true), (11, true), (12, false), (13, false), (14, false), (15, false), (16, false), (17, false), (18, false), (19, false), (20, false), (21, false)] mixd ?q1 ?_); (case q1 => kernel_rfl)))
                | (((with_reducible refine' T.drawM (id := 22) [(0, true), (1, false), (2, false), (3, false), (4, false), (5, false), (6, true), (7, true), (8, true), (9, true), (10, true), (11, true), (12, false), (13, false), (14, false), (15, false)] mixd ?q1 ?_); (case q1 => kernel_rfl)))))
                | ((with_reducible refine TL_y' ?hy ?hd ?_); (case hy => rfl); (case hd => rfl))
                | with_reducible refine TL_e ?_
                | ((with_reducible refine g_TL ?_); (first | refine TL_gy' rfl rfl rfl rfl ?_ | refine TL_gn rfl rfl rfl ?_ | refine TL_gu rfl rfl rfl ?_ | refine TL_ge rfl rfl ?_ | refine TL_gn0 rfl rfl ?_))
                | ((with_reducible refine g_TS ?_); (first | refine TS_y rfl rfl ?_ | refine TS_e rfl ?_ | refine TS_gy rfl rfl rfl rfl ?_ | refine TS_gn rfl rfl rfl rfl ?_ | refine TS_gu rfl rfl rfl rfl ?_ | refine TS_ge rfl rfl rfl ?_ | refine TS_gne rfl rfl rfl rfl ?_ | refine TS_gue rfl rfl rfl rfl ?_ | refine TS_gne0 rfl rfl rfl ?_))
                | ((with_reducible refine TSand ?hd ?_); (case hd => (repeat (first | exact List.nil_sublist _ | refine List.Sublist.cons_cons _ ?_ | refine List.Sublist.cons _ ?_))))
                | ((with_reducible refine TBand ?hd ?_); (case hd => (repeat (first | exact List.nil_sublist _ | refine List.Sublist.cons_cons _ ?_ | refine List.Sublist.cons _ ?_))))
                | ((with_reducible refine g_TB ?_); (first | with_reducible refine TB_run ?_ | refine TB_y rfl rfl ?_ | refine TB_b rfl rfl ?_ ?_ | refine TB_e rfl ?_))
                | ((with_reducible refine is_move ?_); refine ⟨_, Yl_move rfl, ?_⟩)
                | ((with_reducible refine is_assign ?_); refine ⟨_, Yl_assign rfl, ?_⟩)
                | ((with_reducible refine is_pick ?_); (first | refine ⟨_, Yl_pick_t rfl rfl, ?_⟩ | refine ⟨_, Yl_pick_f rfl rfl, ?_⟩))
                | ((with_reducible refine is_fld ?_); (first | ((refine' ⟨_, Yl_fld_ad rfl ?q1, ?_⟩); (case q1 => exact fld_of rfl rfl)) | ((refine' ⟨_, Yl_fld_blk0 rfl ?q1, ?_⟩); (case q1 => exact fld_of rfl rfl)) | ((refine' ⟨_, Yl_fld_blk rfl ?q1, ?_⟩); (case q1 => exact fld_of rfl rfl))))
                | ((with_reducible refine is_load ?_); (first
                | ((refine' ⟨_, Yl_load_old rfl ?q1 ?q2 List.not_mem_nil ?q3, ?_⟩); (case q1 => exact one_of rfl); (case q2 => assumption); (case q3 => rfl))
                | ((refine' ⟨_, Yl_loadA_old rfl ?q1 List.not_mem_nil ?q2, ?_⟩); (case q1 => assumption); (case q2 => exact agg_of rfl))
                | ((refine' ⟨_, Yl_load_blk rfl ?q1 ?q2 ?q3, ?_⟩); (case q1 => exact one_of rfl); (case q2 => (repeat (first | exact .head _ | apply List.Mem.tail))); (case q3 => rfl))
                | ((refine' ⟨_, Yl_loadA_blk rfl ?q1 ?q2, ?_⟩); (case q1 => (repeat (first | exact .head _ | apply List.Mem.tail))); (case q2 => exact agg_of rfl))
                | ((refine' ⟨_, Yl_load_blk rfl ?q1 ?q2 ?q3, ?_⟩); (case q1 => exact one_of rfl); (case q2 => (repeat (first | exact .head _ | apply List.Mem.tail))); (case q3 => assumption))
                | ((refine' ⟨_, Yl_load_rd rfl ?q1 ?q2 List.not_mem_nil ?q3, ?_⟩); (case q1 => exact one_of rfl); (case q2 => assumption); (case q3 => assumption))
                | ((refine' ⟨_, Yl_load_row rfl ?q1 ?q2 ?q3, ?_⟩); (case q1 => exact one_of rfl); (case q2 => (repeat (first | exact .head _ | apply List.Mem.tail))); (case q3 => assumption))
                | ((refine' ⟨_, Yl_loadA_rd rfl ?qa ?qb List.not_mem_nil ?ql ?qc, ?_⟩); (case qa => exact agg_of rfl); (case qb => assumption); (case qc => assumption); (case ql => rfl))
                | ((refine' ⟨_, Yl_loadA_row rfl ?qa ?qb ?ql ?qc, ?_⟩); (case qa => exact agg_of rfl); (case qb => (repeat (first | exact .head _ | apply List.Mem.tail))); (case qc => assumption); (case ql => rfl))))
                | ((with_reducible refine is_idx ?_); (first
                | ((refine' ⟨_, Yl_index rfl rfl ?q1 ?q2 ?q3 (Rd.some_ ?q4 ?q5), ?_⟩); (case q1 => exact und_of rfl); (case q2 => exact siz_of rfl); (case q3 => omega); (case q4 => assumption); (case q5 => omega))
                | ((refine' ⟨_, Yl_index_row rfl rfl ?q1 ?q2 ?q3 ?q4, ?_⟩); (case q1 => exact und_of rfl); (case q2 => exact siz_of rfl); (case q3 => omega); (case q4 => (repeat (first | exact .head _ | apply List.Mem.tail))))
                | ((refine' ⟨_, Yl_index rfl rfl ?q1 ?q2 ?q3 rfl, ?_⟩); (case q1 => exact und_of rfl); (case q2 => exact siz_of rfl); (case q3 => omega))
                | ((refine' ⟨_, Yl_index (j := 0) rfl rfl ?q1 ?q2 ?q3 (Rd.some_ ?q4 ?q5), ?_⟩); (case q1 => exact und_of rfl); (case q2 => exact siz_of rfl); (case q3 => omega); (case q4 => assumption); (case q5 => omega))
                | ((refine' ⟨_, Yl_index_row (j := 0) rfl rfl ?q1 ?q2 ?q3 ?q4, ?_⟩); (case q1 => exact und_of rfl); (case q2 => exact siz_of rfl); (case q3 => omega); (case q4 => (repeat (first | exact .head _ | apply List.Mem.tail))))
                | ((refine' ⟨_, Yl_indexI rfl rfl ?q1 ?q2 ?q3 ?q4 (Rd.some_ ?q5 ?q6), ?_⟩); (case q1 => exact und_of rfl); (case q2 => exact siz_of rfl); (case q3 => omega); (case q4 => omega); (case q5 => assumption); (case q6 => omega))))
                | ((with_reducible refine is_ext ?_); refine ⟨_, Yl_extract rfl rfl, ?_⟩)
                | ((with_reducible refine is_un ?_); refine ⟨_, Yl_not rfl, ?_⟩)
                | ((with_reducible refine is_len ?_); (first | ((refine' ⟨_, Yl_len_slice rfl ?q1, ?_⟩); (case q1 => exact und_of rfl)) | ((refine' ⟨_, Yl_len_string rfl ?q1, ?_⟩); (case q1 => exact und_of rfl))))
                | ((with_reducible refine is_b_lss ?_); (first | ((refine' ⟨_, Yl_lss_t rfl rfl ?q1, ?_⟩); (case q1 => omega)) | ((refine' ⟨_, Yl_lss_f rfl rfl ?q1, ?_⟩); (case q1 => omega)) | (refine sp_lss rfl rfl ?_ ?_ <;> intro hc)))
                | ((with_reducible refine is_b_leq ?_); (first | ((refine' ⟨_, Yl_leq_t rfl rfl ?q1, ?_⟩); (case q1 => omega)) | ((refine' ⟨_, Yl_leq_f rfl rfl ?q1, ?_⟩); (case q1 => omega)) | (refine sp_leq rfl rfl ?_ ?_ <;> intro hc)))
                | ((with_reducible refine is_b_gtr ?_); (first | ((refine' ⟨_, Yl_gtr_t rfl rfl ?q1, ?_⟩); (case q1 => omega)) | ((refine' ⟨_, Yl_gtr_f rfl rfl ?q1, ?_⟩); (case q1 => omega)) | (refine sp_gtr rfl rfl ?_ ?_ <;> intro hc)))
                | ((with_reducible refine is_b_eql ?_); (first | ((refine' ⟨_, Yl_eql_t rfl rfl ?q1, ?_⟩); (case q1 => omega)) | ((refine' ⟨_, Yl_eql_f rfl rfl ?q1, ?_⟩); (case q1 => omega)) | (refine sp_eql rfl rfl ?_ ?_ <;> intro hc) | ((refine' ⟨_, Yl_convW (k := .i64) (k' := .u64) rfl ?q1 ?q2, ?_⟩); (case q1 => exact und_of rfl); (case q2 => exact und_of rfl)) | ((refine' ⟨_, Yl_convI (k := .u64) (k' := .i64) rfl ?q1 ?q2 (wrap_mod _ 5 ?q3 ?q4), ?_⟩); (case q1 => exact und_of rfl); (case q2 => exact und_of rfl); (case q3 => decide); (case q4 => decide)) | ((refine' ⟨_, Yl_remE rfl rfl ?q1 ?q2 rfl, ?_⟩); (case q1 => exact wrap_u64_lo _); (case q2 => decide)) | ((refine' ⟨_, Yl_eql_bool rfl rfl ?q1, ?_⟩); (case q1 => exact und_of rfl)) | ((refine' ⟨_, Yl_eql_strT rfl rfl ?q1, ?_⟩); (case q1 => first | assumption | rfl)) | ((refine' ⟨_, Yl_eql_strF rfl rfl ?q1, ?_⟩); (case q1 => first | assumption | decide)) | (refine sp_eqlS rfl rfl ?_ ?_ <;> intro hc)))
                | ((with_reducible refine is_b_neq ?_); (first | ((refine' ⟨_, Yl_neq_t rfl rfl ?q1, ?_⟩); (case q1 => omega)) | ((refine' ⟨_, Yl_neq_f rfl rfl ?q1, ?_⟩); (case q1 => omega)) | (refine sp_neq rfl rfl ?_ ?_ <;> intro hc) | ((refine' ⟨_, Yl_convW (k := .i64) (k' := .u64) rfl ?q1 ?q2, ?_⟩); (case q1 => exact und_of rfl); (case q2 => exact und_of rfl)) | ((refine' ⟨_, Yl_convI (k := .u64) (k' := .i64) rfl ?q1 ?q2 (wrap_mod _ 5 ?q3 ?q4), ?_⟩); (case q1 => exact und_of rfl); (case q2 => exact und_of rfl); (case q3 => decide); (case q4 => decide)) | ((refine' ⟨_, Yl_remE rfl rfl ?q1 ?q2 rfl, ?_⟩); (case q1 => exact wrap_u64_lo _); (case q2 => decide)) | ((refine' ⟨_, Yl_neq_bool rfl rfl ?q1, ?_⟩); (case q1 => exact und_of rfl)) | ((refine' ⟨_, Yl_neq_strT rfl rfl ?q1, ?_⟩); (case q1 => first | assumption | decide)) | ((refine' ⟨_, Yl_neq_strF rfl rfl ?q1, ?_⟩); (case q1 => first | assumption | rfl)) | (refine sp_neqS rfl rfl ?_ ?_ <;> intro hc)))
                | ((with_reducible refine is_b_add ?_); (first | ((refine' ⟨_, Yl_add rfl rfl ?q1 ?q2, ?_⟩); (case q1 => omega); (case q2 => omega)) | ((refine' ⟨_, Yl_add8 rfl rfl ?q1 ?q2, ?_⟩); (case q1 => omega); (case q2 => omega)) | ((refine' ⟨_, Yl_convW (k := .i64) (k' := .u64) rfl ?q1 ?q2, ?_⟩); (case q1 => exact und_of rfl); (case q2 => exact und_of rfl)) | ((refine' ⟨_, Yl_convI (k := .u64) (k' := .i64) rfl ?q1 ?q2 (wrap_mod _ 5 ?q3 ?q4), ?_⟩); (case q1 => exact und_of rfl); (case q2 => exact und_of rfl); (case q3 => decide); (case q4 => decide)) | ((refine' ⟨_, Yl_remE rfl rfl ?q1 ?q2 rfl, ?_⟩); (case q1 => exact wrap_u64_lo _); (case q2 => decide))))
                | (first | ((refine' ⟨_, Yl_convW (k := .i64) (k' := .u64) rfl ?q1 ?q2, ?_⟩); (case q1 => exact und_of rfl); (case q2 => exact und_of rfl)) | ((refine' ⟨_, Yl_convI (k := .u64) (k' := .i64) rfl ?q1 ?q2 (wrap_mod _ 5 ?q3 ?q4), ?_⟩); (case q1 => exact und_of rfl); (case q2 => exact und_of rfl); (case q3 => decide); (case q4 => decide)) | ((refine' ⟨_, Yl_remE rfl rfl ?q1 ?q2 rfl, ?_⟩); (case q1 => exact wrap_u64_lo _); (case q2 => decide)))
                | ((with_reducible refine ie_store ?_); (first
                | ((refine' Ef_store_row1 rfl rfl ?q1 ?q2 ?q3 ?q4 ?q5 ?_); (case q1 => rfl); (case q2 => exact siz_of rfl); (case q3 => (first | exact at0 | exact at1 | exact at2 | exact at3 | exact at4 | exact at5 | exact at6)); (case q4 => omega); (case q5 => assumption))
                | ((refine' Ef_store_rowA rfl rfl ?q1 ?q2 ?q3 ?q4 ?q5 ?q6 ?_); (case q1 => exact siz_of rfl); (case q2 => rfl); (case q3 => (first | assumption | (intro u hu; rcases hu with _ | ⟨_, _ | ⟨_, _ | ⟨_, _ | ⟨_, hu⟩⟩⟩⟩ <;> first | rfl | (cases hu; done)))); (case q4 => (first | exact at0 | exact at1 | exact at2 | exact at3 | exact at4 | exact at5 | exact at6)); (case q5 => omega); (case q6 => assumption))
                | ((refine' Ef_storeA' rfl rfl ?q1 ?q2 ?q3 ?q4 ?_); (case q1 => exact siz_of rfl); (case q2 => (first | assumption | (intro u hu; rcases hu with _ | ⟨_, _ | ⟨_, _ | ⟨_, _ | ⟨_, hu⟩⟩⟩⟩ <;> first | rfl | (cases hu; done)))); (case q3 => (first | exact at0 | exact at1 | exact at2 | exact at3 | exact at4 | exact at5 | exact at6)); (case q4 => rfl))
                | ((refine' Ef_storeC rfl rfl ?q1 ?q2 ?q3 ?q4 ?q5 ?_); (case q1 => rfl); (case q2 => exact siz_of rfl); (case q3 => (first | exact at0 | exact at1 | exact at2 | exact at3 | exact at4 | exact at5 | exact at6)); (case q4 => exact Nat.le_of_ble_eq_true rfl); (case q5 => rfl))))
                | ((with_reducible refine ie_callf ?_); (first
                | ((with_reducible refine g_call 6 ?_); (first | refine Ef_callP rfl rfl ent_6 (fun w _ => awake_c w) ?_))
                | ((with_reducible refine g_call 7 ?_); (first | (refine Ef_callN rfl rfl ent_7 (fun w _ => hfi w) ?_; rintro ⟨A1, c1⟩)))
                | ((with_reducible refine g_call 8 ?_); (first | (((refine' Ef_callNX rfl rfl ent_8 (fun w hp => hch w (hp.rowOf ?q1) (hp.capOf (A := A1) (m := l.length) (cap := c1) ?q2)) ?_); (case q1 => (repeat (first | exact .head _ | apply List.Mem.tail))); (case q2 => (repeat (first | exact .head _ | apply List.Mem.tail)))); rintro ⟨⟨A2, c2⟩, Rw⟩ hR)))
                | ((with_reducible refine g_call 9 ?_); (first | ((refine' Ef_callP rfl rfl ent_9 (fun w hp => hma w (hrow w (hp.own (rM l (A1, c1)) ?q1) (hp.own Rw ?q2))) ?_); (case q1 => (repeat (first | exact .head _ | apply List.Mem.tail))); (case q2 => (repeat (first | exact .head _ | apply List.Mem.tail))))))
                | ((with_reducible refine g_call 10 ?_); (first | refine Ef_callP rfl rfl ent_10 (fun w hp => hat w (hp.rd hrd fun _ => List.not_mem_nil)) ?_))))
                | ((first  | ((with_reducible refine ie_alloc ?_); (((refine' Ef_alloc rfl ?q1 ?_); (case q1 => exact zer_of rfl))))); (first | ((fail_if_success have := b1); intro b1) | ((fail_if_success have := b2); intro b2) | ((fail_if_success have := b3); intro b3) | ((fail_if_success have := b4); intro b4) | ((fail_if_success have := b5); intro b5) | ((fail_if_success have := b6); intro b6) | ((fail_if_success have := b7); intro b7) | ((fail_if_success have := b8); intro b8) | ((fail_if_success have := b9); intro b9) | ((fail_if_success have := b10); intro b10) | ((fail_if_success have := b11); intro b11) | ((fail_if_success have := b12); intro b12)))
                | (fail; (first | ((fail_if_success have := A1); intro A1 c1) | ((fail_if_success have := A2); intro A2 c2) | ((fail_if_success have := A3); intro A3 c3) | ((fail_if_success have := A4); intro A4 c4) | ((fail_if_success have := A5); intro A5 c5) | ((fail_if_success have := A6); intro A6 c6) | ((fail_if_success have := A7); intro A7 c7)))
                | refine Ef_y rfl rfl ?_
                | ((with_reducible refine ie_conv ?_); refine Ef_y' rfl ?_))
            refine loopQ_n (i + 1, s.1, s.2, (A2, c2)) ?_ ?_ ⟨by (first | omega | (dsimp only; omega) | (simp; omega)), hmay, by (first | omega | (dsimp only; omega) | (simp; omega))⟩ (by (first | omega | (dsimp only; omega) | (simp; omega)))
            · (repeat (first | exact Sub.nil | refine Sub.cons rfl ?_))
            · rcases hR with rfl | ⟨h1, h2⟩
              · (repeat (first | exact List.nil_sublist _ | refine List.Sublist.cons_cons _ ?_ | refine List.Sublist.cons _ ?_))
              · cases h2
                subst h1
                (repeat (first | exact List.nil_sublist _ | refine List.Sublist.cons_cons _ ?_ | refine List.Sublist.cons _ ?_))
    · repeat' (first
        | with_reducible refine T.seq ?_
        | with_reducible refine T.block ?_
        | with_reducible refine T.region ?_
        | with_reducible refine T.skip ?_
        | with_reducible refine T.scope ?_
        | with_reducible refine T.label ?_
        | with_reducible refine scopeQ_n ?_
        | with_reducible refine scopeQ_r ?_
        | with_reducible refine scopeQ_x ?_
        | with_reducible refine T.ret ?_
        | with_reducible refine T.exit ?_
        | with_reducible refine seqQ_n ?_
        | with_reducible refine seqQ_x ?_
        | with_reducible refine seqQ_r ?_
        | with_reducible refine blockQ_n ?_
        | with_reducible refine blockQ_r ?_
        | with_reducible refine blockQ_x ?_
        | ((with_reducible refine g_blkx ?_); refine blockQ_y rfl ?_)
        | with_reducible refine loopQ_x ?_
        | with_reducible refine loopQ_r ?_
        | with_reducible refine joinQ_r ?_
        | with_reducible refine joinQ_x ?_
        | ((with_reducible refine g_cond ?_); (first | refine T.cond_t rfl ?_ | refine T.cond_f rfl ?_ | (refine T.cond_s rfl ?_ ?_ <;> intro hc)))
        | with_reducible refine TL_nil ?_
        | with_reducible refine TS_nil ?_
        | ((with_reducible refine g_draw ?_); (first
        | (((refine' T.joinS (α := (Option Addr × Nat) × Asrt × Nat) (fun z => [(1, .slice B len cap), (5, .pointer (some ⟨b1, 0, none⟩)), (7, .int .i64 (i : Int)), (8, .pointer (some ⟨z.2.2, 0, none⟩))]) (fun z => [.blk z.2.2 (.cells (cV s.1 z.1 s.2.length) 26 (0, 0)), rM l (A1, c1), z.2.1, .blk b1 (.cells (cV e (A1, c1) l.length) 26 (0, 0))]) (fun z => z.2.1 = rM s.2 z.1 ∨ (s = (e, l) ∧ z.1 = (A1, c1))) (T.drawBM (id := 9) (.y 0 (.y 1 (.y 2 (.y 3 (.y 4 (.b 5 (.run [(6, false), (7, false)]) 6 (.run [(5, false), (7, false)]))))))) mixd ?q1 ?_) ?_); (case q1 => kernel_rfl)))
        | (((refine' T.joinS (α := Nat) (fun z => [(1, .slice B len cap), (5, .pointer (some ⟨b1, 0, none⟩)), (7, .int .i64 (i : Int)), (8, .pointer (some ⟨b2, 0, none⟩)), (9, .bool sh), (10, .int .i64 la), (11, .int .i64 (k : Int)), (12, .pointer (some ⟨z, 0, none⟩)), (13, .bool (Cf.mem s.2 xn).isSome)]) (fun z => [.blk z (.cells (mE ((Cf.mem s.2 xn).getD Mb.z)).toArray 36 (0, 0))]) (fun _ => True) (T.drawBM (id := 17) (.y 0 (.y 1 (.y 2 (.y 3 (.y 4 (.y 5 (.y 6 (.b 7 (.run [(8, true), (9, true), (10, true), (11, false), (12, false), (13, true)]) 11 (.run [(7, false), (8, true), (9, true), (10, true), (12, false), (13, true)]))))))))) mixd ?q1 ?_) ?_); (case q1 => kernel_rfl)))
        | (((with_reducible refine' T.drawM (id := 19) [(0, true), (1, true), (2, true), (3, true), (4, false), (5, false), (6, false), (7, false), (8, false), (9, false), (10, true), (11, true), (12, false), (13, false), (14, false), (15, false), (16, false), (17, false), (18, false), (19, false), (20, false), (21, false)] mixd ?q1 ?_); (case q1 => kernel_rfl)))
        | (((with_reducible refine' T.drawM (id := 22) [(0, true), (1, false), (2, false), (3, false), (4, false), (5, false), (6, true), (7, true), (8, true), (9, true), (10, true), (11, true), (12, false), (13, false), (14, false), (15, false)] mixd ?q1 ?_); (case q1 => kernel_rfl)))))
        | ((with_reducible refine TL_y' ?hy ?hd ?_); (case hy => rfl); (case hd => rfl))
        | with_reducible refine TL_e ?_
        | ((with_reducible refine g_TL ?_); (first | refine TL_gy' rfl rfl rfl rfl ?_ | refine TL_gn rfl rfl rfl ?_ | refine TL_gu rfl rfl rfl ?_ | refine TL_ge rfl rfl ?_ | refine TL_gn0 rfl rfl ?_))
        | ((with_reducible refine g_TS ?_); (first | refine TS_y rfl rfl ?_ | refine TS_e rfl ?_ | refine TS_gy rfl rfl rfl rfl ?_ | refine TS_gn rfl rfl rfl rfl ?_ | refine TS_gu rfl rfl rfl rfl ?_ | refine TS_ge rfl rfl rfl ?_ | refine TS_gne rfl rfl rfl rfl ?_ | refine TS_gue rfl rfl rfl rfl ?_ | refine TS_gne0 rfl rfl rfl ?_))
        | ((with_reducible refine TSand ?hd ?_); (case hd => (repeat (first | exact List.nil_sublist _ | refine List.Sublist.cons_cons _ ?_ | refine List.Sublist.cons _ ?_))))
        | ((with_reducible refine TBand ?hd ?_); (case hd => (repeat (first | exact List.nil_sublist _ | refine List.Sublist.cons_cons _ ?_ | refine List.Sublist.cons _ ?_))))
        | ((with_reducible refine g_TB ?_); (first | with_reducible refine TB_run ?_ | refine TB_y rfl rfl ?_ | refine TB_b rfl rfl ?_ ?_ | refine TB_e rfl ?_))
        | ((with_reducible refine is_move ?_); refine ⟨_, Yl_move rfl, ?_⟩)
        | ((with_reducible refine is_assign ?_); refine ⟨_, Yl_assign rfl, ?_⟩)
        | ((with_reducible refine is_pick ?_); (first | refine ⟨_, Yl_pick_t rfl rfl, ?_⟩ | refine ⟨_, Yl_pick_f rfl rfl, ?_⟩))
        | ((with_reducible refine is_fld ?_); (first | ((refine' ⟨_, Yl_fld_ad rfl ?q1, ?_⟩); (case q1 => exact fld_of rfl rfl)) | ((refine' ⟨_, Yl_fld_blk0 rfl ?q1, ?_⟩); (case q1 => exact fld_of rfl rfl)) | ((refine' ⟨_, Yl_fld_blk rfl ?q1, ?_⟩); (case q1 => exact fld_of rfl rfl))))
        | ((with_reducible refine is_load ?_); (first
        | ((refine' ⟨_, Yl_load_old rfl ?q1 ?q2 List.not_mem_nil ?q3, ?_⟩); (case q1 => exact one_of rfl); (case q2 => assumption); (case q3 => rfl))
        | ((refine' ⟨_, Yl_loadA_old rfl ?q1 List.not_mem_nil ?q2, ?_⟩); (case q1 => assumption); (case q2 => exact agg_of rfl))
        | ((refine' ⟨_, Yl_load_blk rfl ?q1 ?q2 ?q3, ?_⟩); (case q1 => exact one_of rfl); (case q2 => (repeat (first | exact .head _ | apply List.Mem.tail))); (case q3 => rfl))
        | ((refine' ⟨_, Yl_loadA_blk rfl ?q1 ?q2, ?_⟩); (case q1 => (repeat (first | exact .head _ | apply List.Mem.tail))); (case q2 => exact agg_of rfl))
        | ((refine' ⟨_, Yl_load_blk rfl ?q1 ?q2 ?q3, ?_⟩); (case q1 => exact one_of rfl); (case q2 => (repeat (first | exact .head _ | apply List.Mem.tail))); (case q3 => assumption))
        | ((refine' ⟨_, Yl_load_rd rfl ?q1 ?q2 List.not_mem_nil ?q3, ?_⟩); (case q1 => exact one_of rfl); (case q2 => assumption); (case q3 => assumption))
        | ((refine' ⟨_, Yl_load_row rfl ?q1 ?q2 ?q3, ?_⟩); (case q1 => exact one_of rfl); (case q2 => (repeat (first | exact .head _ | apply List.Mem.tail))); (case q3 => assumption))
        | ((refine' ⟨_, Yl_loadA_rd rfl ?qa ?qb List.not_mem_nil ?ql ?qc, ?_⟩); (case qa => exact agg_of rfl); (case qb => assumption); (case qc => assumption); (case ql => rfl))
        | ((refine' ⟨_, Yl_loadA_row rfl ?qa ?qb ?ql ?qc, ?_⟩); (case qa => exact agg_of rfl); (case qb => (repeat (first | exact .head _ | apply List.Mem.tail))); (case qc => assumption); (case ql => rfl))))
        | ((with_reducible refine is_idx ?_); (first
        | ((refine' ⟨_, Yl_index rfl rfl ?q1 ?q2 ?q3 (Rd.some_ ?q4 ?q5), ?_⟩); (case q1 => exact und_of rfl); (case q2 => exact siz_of rfl); (case q3 => omega); (case q4 => assumption); (case q5 => omega))
        | ((refine' ⟨_, Yl_index_row rfl rfl ?q1 ?q2 ?q3 ?q4, ?_⟩); (case q1 => exact und_of rfl); (case q2 => exact siz_of rfl); (case q3 => omega); (case q4 => (repeat (first | exact .head _ | apply List.Mem.tail))))
        | ((refine' ⟨_, Yl_index rfl rfl ?q1 ?q2 ?q3 rfl, ?_⟩); (case q1 => exact und_of rfl); (case q2 => exact siz_of rfl); (case q3 => omega))
        | ((refine' ⟨_, Yl_index (j := 0) rfl rfl ?q1 ?q2 ?q3 (Rd.some_ ?q4 ?q5), ?_⟩); (case q1 => exact und_of rfl); (case q2 => exact siz_of rfl); (case q3 => omega); (case q4 => assumption); (case q5 => omega))
        | ((refine' ⟨_, Yl_index_row (j := 0) rfl rfl ?q1 ?q2 ?q3 ?q4, ?_⟩); (case q1 => exact und_of rfl); (case q2 => exact siz_of rfl); (case q3 => omega); (case q4 => (repeat (first | exact .head _ | apply List.Mem.tail))))
        | ((refine' ⟨_, Yl_indexI rfl rfl ?q1 ?q2 ?q3 ?q4 (Rd.some_ ?q5 ?q6), ?_⟩); (case q1 => exact und_of rfl); (case q2 => exact siz_of rfl); (case q3 => omega); (case q4 => omega); (case q5 => assumption); (case q6 => omega))))
        | ((with_reducible refine is_ext ?_); refine ⟨_, Yl_extract rfl rfl, ?_⟩)
        | ((with_reducible refine is_un ?_); refine ⟨_, Yl_not rfl, ?_⟩)
        | ((with_reducible refine is_len ?_); (first | ((refine' ⟨_, Yl_len_slice rfl ?q1, ?_⟩); (case q1 => exact und_of rfl)) | ((refine' ⟨_, Yl_len_string rfl ?q1, ?_⟩); (case q1 => exact und_of rfl))))
        | ((with_reducible refine is_b_lss ?_); (first | ((refine' ⟨_, Yl_lss_t rfl rfl ?q1, ?_⟩); (case q1 => omega)) | ((refine' ⟨_, Yl_lss_f rfl rfl ?q1, ?_⟩); (case q1 => omega)) | (refine sp_lss rfl rfl ?_ ?_ <;> intro hc)))
        | ((with_reducible refine is_b_leq ?_); (first | ((refine' ⟨_, Yl_leq_t rfl rfl ?q1, ?_⟩); (case q1 => omega)) | ((refine' ⟨_, Yl_leq_f rfl rfl ?q1, ?_⟩); (case q1 => omega)) | (refine sp_leq rfl rfl ?_ ?_ <;> intro hc)))
        | ((with_reducible refine is_b_gtr ?_); (first | ((refine' ⟨_, Yl_gtr_t rfl rfl ?q1, ?_⟩); (case q1 => omega)) | ((refine' ⟨_, Yl_gtr_f rfl rfl ?q1, ?_⟩); (case q1 => omega)) | (refine sp_gtr rfl rfl ?_ ?_ <;> intro hc)))
        | ((with_reducible refine is_b_eql ?_); (first | ((refine' ⟨_, Yl_eql_t rfl rfl ?q1, ?_⟩); (case q1 => omega)) | ((refine' ⟨_, Yl_eql_f rfl rfl ?q1, ?_⟩); (case q1 => omega)) | (refine sp_eql rfl rfl ?_ ?_ <;> intro hc) | ((refine' ⟨_, Yl_convW (k := .i64) (k' := .u64) rfl ?q1 ?q2, ?_⟩); (case q1 => exact und_of rfl); (case q2 => exact und_of rfl)) | ((refine' ⟨_, Yl_convI (k := .u64) (k' := .i64) rfl ?q1 ?q2 (wrap_mod _ 5 ?q3 ?q4), ?_⟩); (case q1 => exact und_of rfl); (case q2 => exact und_of rfl); (case q3 => decide); (case q4 => decide)) | ((refine' ⟨_, Yl_remE rfl rfl ?q1 ?q2 rfl, ?_⟩); (case q1 => exact wrap_u64_lo _); (case q2 => decide)) | ((refine' ⟨_, Yl_eql_bool rfl rfl ?q1, ?_⟩); (case q1 => exact und_of rfl)) | ((refine' ⟨_, Yl_eql_strT rfl rfl ?q1, ?_⟩); (case q1 => first | assumption | rfl)) | ((refine' ⟨_, Yl_eql_strF rfl rfl ?q1, ?_⟩); (case q1 => first | assumption | decide)) | (refine sp_eqlS rfl rfl ?_ ?_ <;> intro hc)))
        | ((with_reducible refine is_b_neq ?_); (first | ((refine' ⟨_, Yl_neq_t rfl rfl ?q1, ?_⟩); (case q1 => omega)) | ((refine' ⟨_, Yl_neq_f rfl rfl ?q1, ?_⟩); (case q1 => omega)) | (refine sp_neq rfl rfl ?_ ?_ <;> intro hc) | ((refine' ⟨_, Yl_convW (k := .i64) (k' := .u64) rfl ?q1 ?q2, ?_⟩); (case q1 => exact und_of rfl); (case q2 => exact und_of rfl)) | ((refine' ⟨_, Yl_convI (k := .u64) (k' := .i64) rfl ?q1 ?q2 (wrap_mod _ 5 ?q3 ?q4), ?_⟩); (case q1 => exact und_of rfl); (case q2 => exact und_of rfl); (case q3 => decide); (case q4 => decide)) | ((refine' ⟨_, Yl_remE rfl rfl ?q1 ?q2 rfl, ?_⟩); (case q1 => exact wrap_u64_lo _); (case q2 => decide)) | ((refine' ⟨_, Yl_neq_bool rfl rfl ?q1, ?_⟩); (case q1 => exact und_of rfl)) | ((refine' ⟨_, Yl_neq_strT rfl rfl ?q1, ?_⟩); (case q1 => first | assumption | decide)) | ((refine' ⟨_, Yl_neq_strF rfl rfl ?q1, ?_⟩); (case q1 => first | assumption | rfl)) | (refine sp_neqS rfl rfl ?_ ?_ <;> intro hc)))
        | ((with_reducible refine is_b_add ?_); (first | ((refine' ⟨_, Yl_add rfl rfl ?q1 ?q2, ?_⟩); (case q1 => omega); (case q2 => omega)) | ((refine' ⟨_, Yl_add8 rfl rfl ?q1 ?q2, ?_⟩); (case q1 => omega); (case q2 => omega)) | ((refine' ⟨_, Yl_convW (k := .i64) (k' := .u64) rfl ?q1 ?q2, ?_⟩); (case q1 => exact und_of rfl); (case q2 => exact und_of rfl)) | ((refine' ⟨_, Yl_convI (k := .u64) (k' := .i64) rfl ?q1 ?q2 (wrap_mod _ 5 ?q3 ?q4), ?_⟩); (case q1 => exact und_of rfl); (case q2 => exact und_of rfl); (case q3 => decide); (case q4 => decide)) | ((refine' ⟨_, Yl_remE rfl rfl ?q1 ?q2 rfl, ?_⟩); (case q1 => exact wrap_u64_lo _); (case q2 => decide))))
        | (first | ((refine' ⟨_, Yl_convW (k := .i64) (k' := .u64) rfl ?q1 ?q2, ?_⟩); (case q1 => exact und_of rfl); (case q2 => exact und_of rfl)) | ((refine' ⟨_, Yl_convI (k := .u64) (k' := .i64) rfl ?q1 ?q2 (wrap_mod _ 5 ?q3 ?q4), ?_⟩); (case q1 => exact und_of rfl); (case q2 => exact und_of rfl); (case q3 => decide); (case q4 => decide)) | ((refine' ⟨_, Yl_remE rfl rfl ?q1 ?q2 rfl, ?_⟩); (case q1 => exact wrap_u64_lo _); (case q2 => decide)))
        | ((with_reducible refine ie_store ?_); (first
        | ((refine' Ef_store_row1 rfl rfl ?q1 ?q2 ?q3 ?q4 ?q5 ?_); (case q1 => rfl); (case q2 => exact siz_of rfl); (case q3 => (first | exact at0 | exact at1 | exact at2 | exact at3 | exact at4 | exact at5 | exact at6)); (case q4 => omega); (case q5 => assumption))
        | ((refine' Ef_store_rowA rfl rfl ?q1 ?q2 ?q3 ?q4 ?q5 ?q6 ?_); (case q1 => exact siz_of rfl); (case q2 => rfl); (case q3 => (first | assumption | (intro u hu; rcases hu with _ | ⟨_, _ | ⟨_, _ | ⟨_, _ | ⟨_, hu⟩⟩⟩⟩ <;> first | rfl | (cases hu; done)))); (case q4 => (first | exact at0 | exact at1 | exact at2 | exact at3 | exact at4 | exact at5 | exact at6)); (case q5 => omega); (case q6 => assumption))
        | ((refine' Ef_storeA' rfl rfl ?q1 ?q2 ?q3 ?q4 ?_); (case q1 => exact siz_of rfl); (case q2 => (first | assumption | (intro u hu; rcases hu with _ | ⟨_, _ | ⟨_, _ | ⟨_, _ | ⟨_, hu⟩⟩⟩⟩ <;> first | rfl | (cases hu; done)))); (case q3 => (first | exact at0 | exact at1 | exact at2 | exact at3 | exact at4 | exact at5 | exact at6)); (case q4 => rfl))
        | ((refine' Ef_storeC rfl rfl ?q1 ?q2 ?q3 ?q4 ?q5 ?_); (case q1 => rfl); (case q2 => exact siz_of rfl); (case q3 => (first | exact at0 | exact at1 | exact at2 | exact at3 | exact at4 | exact at5 | exact at6)); (case q4 => exact Nat.le_of_ble_eq_true rfl); (case q5 => rfl))))
        | ((with_reducible refine ie_callf ?_); (first
        | ((with_reducible refine g_call 6 ?_); (first | refine Ef_callP rfl rfl ent_6 (fun w _ => awake_c w) ?_))
        | ((with_reducible refine g_call 7 ?_); (first | (refine Ef_callN rfl rfl ent_7 (fun w _ => hfi w) ?_; rintro ⟨A1, c1⟩)))
        | ((with_reducible refine g_call 8 ?_); (first | (((refine' Ef_callNX rfl rfl ent_8 (fun w hp => hch w (hp.rowOf ?q1) (hp.capOf (A := A1) (m := l.length) (cap := c1) ?q2)) ?_); (case q1 => (repeat (first | exact .head _ | apply List.Mem.tail))); (case q2 => (repeat (first | exact .head _ | apply List.Mem.tail)))); rintro ⟨⟨A2, c2⟩, Rw⟩ hR)))
        | ((with_reducible refine g_call 9 ?_); (first | ((refine' Ef_callP rfl rfl ent_9 (fun w hp => hma w (hrow w (hp.own (rM l (A1, c1)) ?q1) (hp.own Rw ?q2))) ?_); (case q1 => (repeat (first | exact .head _ | apply List.Mem.tail))); (case q2 => (repeat (first | exact .head _ | apply List.Mem.tail))))))
        | ((with_reducible refine g_call 10 ?_); (first | refine Ef_callP rfl rfl ent_10 (fun w hp => hat w (hp.rd hrd fun _ => List.not_mem_nil)) ?_))))
        | ((first  | ((with_reducible refine ie_alloc ?_); (((refine' Ef_alloc rfl ?q1 ?_); (case q1 => exact zer_of rfl))))); (first | ((fail_if_success have := b1); intro b1) | ((fail_if_success have := b2); intro b2) | ((fail_if_success have := b3); intro b3) | ((fail_if_success have := b4); intro b4) | ((fail_if_success have := b5); intro b5) | ((fail_if_success have := b6); intro b6) | ((fail_if_success have := b7); intro b7) | ((fail_if_success have := b8); intro b8) | ((fail_if_success have := b9); intro b9) | ((fail_if_success have := b10); intro b10) | ((fail_if_success have := b11); intro b11) | ((fail_if_success have := b12); intro b12)))
        | (fail; (first | ((fail_if_success have := A1); intro A1 c1) | ((fail_if_success have := A2); intro A2 c2) | ((fail_if_success have := A3); intro A3 c3) | ((fail_if_success have := A4); intro A4 c4) | ((fail_if_success have := A5); intro A5 c5) | ((fail_if_success have := A6); intro A6 c6) | ((fail_if_success have := A7); intro A7 c7)))
        | refine Ef_y rfl rfl ?_
        | ((with_reducible refine ie_conv ?_); refine Ef_y' rfl ?_))
      all_goals exact ret_n [] (res1 rfl rfl) (List.nil_sublist _) ⟨rfl, rfl⟩
end
end Go.Proofs.Ytpocbgcbiojflaa
