/- The chapter's rows; a configuration behind a step: what a call of each comes to. -/
import Derived.Test.YtpocbgcbiojflaaT5
namespace Go.Proofs.Ytpocbgcbiojflaa
open Go.RowKit
set_option maxRecDepth 20000

theorem wrap_mod (i m : Int) (h0 : 0 < m) (h1 : m ≤ 100000) : IntKind.wrap .i64 (IntKind.wrap .u64 i % m) = IntKind.wrap .u64 i % m := by
  have h2 := Int.emod_nonneg (IntKind.wrap .u64 i) (Int.ne_of_gt h0)
  have h3 := Int.emod_lt_of_pos (IntKind.wrap .u64 i) h0
  generalize IntKind.wrap .u64 i % m = z at h2 h3 ⊢
  simp [IntKind.wrap, IntKind.signed, IntKind.bits]; omega

def w2 : List Mb := [(0, 1, true), (1, 1, true)]
def w1 : List Mb := [(0, 1, true)]
def wa : List Mb := [(0, 1, true), (3, 2, false)]
def wc : List Mb := [(0, 1, true), (3, 2, true)]
def wd : List Mb := [(3, 2, true)]
theorem w2_may : Cf.May 1 (Cf.ini 2) := (Cf.may_iff _ _).1 (by decide +kernel)
theorem w1_may : Cf.May 1 (Cf.ini 1) := (Cf.may_iff _ _).1 (by decide +kernel)
theorem wa_may : Cf.May 2 wa := (Cf.may_iff _ _).1 (by decide +kernel)
theorem wc_may : Cf.May 2 wc := (Cf.may_iff _ _).1 (by decide +kernel)
theorem wd_may : Cf.May 3 wd := (Cf.may_iff _ _).1 (by decide +kernel)
section
variable (A : Option Addr) (c : Nat) (w : World)
theorem hd1 (h : Rd w A 2 3 ((Cf.ini 2).flatMap mE)) (hc : 2 ≤ c) : Sp Try.prog 11 [.agg (cV 1 (A, c) 2)] w [] fun v N => v = .int .i64 0 ∧ N = [] := by
  have := head_c A 2 c (Cf.ini 2) w h rfl hc 1 w2_may
  rwa [show Cf.nodeV (Cf.ini 2) 0 = 0 by decide +kernel] at this
theorem hd2 (h : Rd w A 1 3 ((wd).flatMap mE)) (hc : 1 ≤ c) : Sp Try.prog 11 [.agg (cV 3 (A, c) 1)] w [] fun v N => v = .int .i64 3 ∧ N = [] := by
  have := head_c A 1 c (wd) w h rfl hc 3 wd_may
  rwa [show Cf.nodeV (wd) 0 = 3 by decide +kernel] at this
theorem tl1 (h : Rd w A 2 3 ((Cf.ini 2).flatMap mE)) (hc : 2 ≤ c) : Sp Try.prog 14 [.agg (cV 1 (A, c) 2)] w [] fun v N => v = .int .i64 1 ∧ N = [] := by
  have := tail_c A 2 c (Cf.ini 2) w h rfl hc 1 w2_may
  rwa [show Cf.nodeV (Cf.ini 2) (((2 : Nat) : Int) - 1) = 1 by decide +kernel] at this
theorem tl2 (h : Rd w A 1 3 ((wd).flatMap mE)) (hc : 1 ≤ c) : Sp Try.prog 14 [.agg (cV 3 (A, c) 1)] w [] fun v N => v = .int .i64 3 ∧ N = [] := by
  have := tail_c A 1 c (wd) w h rfl hc 3 wd_may
  rwa [show Cf.nodeV (wd) (((1 : Nat) : Int) - 1) = 3 by decide +kernel] at this
theorem nx1 (h : Rd w A 2 3 ((Cf.ini 2).flatMap mE)) (hc : 2 ≤ c) : Sp Try.prog 13 [.agg (cV 1 (A, c) 2), .int .i64 0] w [] fun v N => v = .int .i64 1 ∧ N = [] := by
  have := next_c A 2 c (Cf.ini 2) w h rfl hc 1 w2_may 0
  rwa [show Cf.besV (Cf.ini 2) 0 1 = 1 by decide +kernel] at this
theorem nx2 (h : Rd w A 2 3 ((Cf.ini 2).flatMap mE)) (hc : 2 ≤ c) : Sp Try.prog 13 [.agg (cV 1 (A, c) 2), .int .i64 7] w [] fun v N => v = .int .i64 (-1) ∧ N = [] := by
  have := next_c A 2 c (Cf.ini 2) w h rfl hc 1 w2_may 7
  rwa [show Cf.besV (Cf.ini 2) 7 1 = (-1) by decide +kernel] at this
theorem pv1 (h : Rd w A 2 3 ((Cf.ini 2).flatMap mE)) (hc : 2 ≤ c) : Sp Try.prog 12 [.agg (cV 1 (A, c) 2), .int .i64 0] w [] fun v N => v = .int .i64 (-1) ∧ N = [] := by
  have := prev_c A 2 c (Cf.ini 2) w h rfl hc 1 w2_may 0
  rwa [show Cf.besV (Cf.ini 2) 0 (-1) = (-1) by decide +kernel] at this
theorem atA (h : Rd w A 2 3 ((wa).flatMap mE)) (hc : 2 ≤ c) : Sp Try.prog 10 [.agg (cV 2 (A, c) 2), .int .i64 3] w [] fun v N => v = .tuple #[.agg (mE (3, 2, false)).toArray, .bool true] ∧ N = [] := by
  have := mem_c A 2 c wa w h rfl hc 2 wa_may 3
  rwa [show Cf.mem wa 3 = some (3, 2, false) by decide +kernel] at this
theorem ad1 (h : Rd w A 1 3 ((Cf.ini 1).flatMap mE)) (hc : 1 ≤ c) : Sp Try.prog 15 [.agg (cV 1 (A, c) 1), .int .i64 3] w [] fun v N => ∃ z : Option Addr × Nat, v = .tuple #[.agg (cV 2 z 2), .int .i64 0] ∧ N = [rM (wa) z] := by
  have := add_c A 1 c (Cf.ini 1) w h rfl hc (by decide) 1 3 w1_may (by decide) (by decide)
  rwa [show Cf.nxt 1 (Cf.ini 1 ++ [(3, 1 + 1, false)]) = (2, wa, 0) by decide +kernel] at this
theorem ad2 (h : Rd w A 2 3 ((wa).flatMap mE)) (hc : 2 ≤ c) : Sp Try.prog 15 [.agg (cV 2 (A, c) 2), .int .i64 4] w [] fun v N => ∃ z : Option Addr × Nat, v = .tuple #[.agg (cV 0 z 0), .int .i64 220] ∧ N = [rM ([]) z] := by
  have := add_c A 2 c wa w h rfl hc (by decide) 2 4 wa_may (by decide) (by decide)
  rwa [show Cf.nxt 2 (wa ++ [(4, 2 + 1, false)]) = (0, [], 220) by decide +kernel] at this
theorem re1 (h : Rd w A 2 3 ((wa).flatMap mE)) (hc : 2 ≤ c) : Sp Try.prog 16 [.agg (cV 2 (A, c) 2), .int .i64 0] w [] fun v N => ∃ z : Option Addr × Nat, v = .tuple #[.agg (cV 0 z 0), .int .i64 220] ∧ N = [rM ([]) z] := by
  have := remove_c A 2 c wa w h rfl hc (by decide) 2 0 wa_may (by decide) (by decide)
  rwa [show Cf.rem 2 wa 0 = (0, [], 220) by decide +kernel] at this
theorem re2 (h : Rd w A 2 3 ((wa).flatMap mE)) (hc : 2 ≤ c) : Sp Try.prog 16 [.agg (cV 2 (A, c) 2), .int .i64 3] w [] fun v N => ∃ z : Option Addr × Nat, v = .tuple #[.agg (cV 3 z 1), .int .i64 0] ∧ N = [rM (w1) z] := by
  have := remove_c A 2 c wa w h rfl hc (by decide) 2 3 wa_may (by decide) (by decide)
  rwa [show Cf.rem 2 wa 3 = (3, w1, 0) by decide +kernel] at this
theorem re3 (h : Rd w A 2 3 ((wc).flatMap mE)) (hc : 2 ≤ c) : Sp Try.prog 16 [.agg (cV 2 (A, c) 2), .int .i64 0] w [] fun v N => ∃ z : Option Addr × Nat, v = .tuple #[.agg (cV 3 z 1), .int .i64 0] ∧ N = [rM (wd) z] := by
  have := remove_c A 2 c wc w h rfl hc (by decide) 2 0 wc_may (by decide) (by decide)
  rwa [show Cf.rem 2 wc 0 = (3, wd, 0) by decide +kernel] at this
theorem wh1 (h : Rd w A 2 3 ((wa).flatMap mE)) (hc : 2 ≤ c) : Sp Try.prog 18 [.agg (cV 2 (A, c) 2), .int .i64 3, .int .i64 1] w [] fun v N => ∃ z : Option Addr × Nat, v = .tuple #[.agg (cV 2 z 2), .bool false] ∧ N = [rM (wa) z] := by
  have := whole_c A c wa w h hc 2 3 1 wa_may
  rwa [show Cf.who wa 3 1 = (wa, false) by decide +kernel] at this
theorem wh2 (h : Rd w A 2 3 ((wa).flatMap mE)) (hc : 2 ≤ c) : Sp Try.prog 18 [.agg (cV 2 (A, c) 2), .int .i64 3, .int .i64 2] w [] fun v N => ∃ z : Option Addr × Nat, v = .tuple #[.agg (cV 2 z 2), .bool true] ∧ N = [rM (wc) z] := by
  have := whole_c A c wa w h hc 2 3 2 wa_may
  rwa [show Cf.who wa 3 2 = (wc, true) by decide +kernel] at this
end

set_option maxHeartbeats 4000000 in
theorem awake_c (w : World) : Sp Try.prog 6 [] w [] fun v N => v = .bool true ∧ N = [] := by
  refine Sp.enter (n := 164) Try.func6 rfl rfl rfl (Hp.refl w) ?_
  repeat' (first
      | with_reducible refine T.seq ?_
      | with_reducible refine T.block ?_
      | with_reducible refine T.region ?_
      | with_reducible refine T.skip ?_
      | with_reducible refine T.scope ?_
      | with_reducible refine T.label ?_
      | with_reducible refine scopeQ_n ?_
      | with_reducible refine scopeQ_r ?_
      | with_reducible refine scopeQ_x ?_
      | with_reducible refine T.ret ?_
      | with_reducible refine T.exit ?_
      | with_reducible refine seqQ_n ?_
      | with_reducible refine seqQ_x ?_
      | with_reducible refine seqQ_r ?_
      | with_reducible refine blockQ_n ?_
      | with_reducible refine blockQ_r ?_
      | with_reducible refine blockQ_x ?_
      | ((with_reducible refine g_blkx ?_); refine blockQ_y rfl ?_)
      | with_reducible refine loopQ_x ?_
      | with_reducible refine loopQ_r ?_
      | with_reducible refine joinQ_r ?_
      | with_reducible refine joinQ_x ?_
      | ((with_reducible refine g_cond ?_); (first | refine T.cond_t rfl ?_ | refine T.cond_f rfl ?_ | (refine T.cond_s rfl ?_ ?_ <;> intro hc)))
      | with_reducible refine TL_nil ?_
      | with_reducible refine TS_nil ?_
      | ((with_reducible refine TL_y' ?hy ?hd ?_); (case hy => rfl); (case hd => rfl))
      | with_reducible refine TL_e ?_
      | ((with_reducible refine g_TL ?_); (first | refine TL_gy' rfl rfl rfl rfl ?_ | refine TL_gn rfl rfl rfl ?_ | refine TL_gu rfl rfl rfl ?_ | refine TL_ge rfl rfl ?_ | refine TL_gn0 rfl rfl ?_))
      | ((with_reducible refine g_TS ?_); (first | refine TS_y rfl rfl ?_ | refine TS_e rfl ?_ | refine TS_gy rfl rfl rfl rfl ?_ | refine TS_gn rfl rfl rfl rfl ?_ | refine TS_gu rfl rfl rfl rfl ?_ | refine TS_ge rfl rfl rfl ?_ | refine TS_gne rfl rfl rfl rfl ?_ | refine TS_gue rfl rfl rfl rfl ?_ | refine TS_gne0 rfl rfl rfl ?_))
      | ((with_reducible refine TSand ?hd ?_); (case hd => (repeat (first | exact List.nil_sublist _ | refine List.Sublist.cons_cons _ ?_ | refine List.Sublist.cons _ ?_))))
      | ((with_reducible refine TBand ?hd ?_); (case hd => (repeat (first | exact List.nil_sublist _ | refine List.Sublist.cons_cons _ ?_ | refine List.Sublist.cons _ ?_))))
      | ((with_reducible refine g_TB ?_); (first | with_reducible refine TB_run ?_ | refine TB_y rfl rfl ?_ | refine TB_b rfl rfl ?_ ?_ | refine TB_e rfl ?_))
      | ((with_reducible refine is_move ?_); refine ⟨_, Yl_move rfl, ?_⟩)
      | ((with_reducible refine is_assign ?_); refine ⟨_, Yl_assign rfl, ?_⟩)
      | ((with_reducible refine is_pick ?_); (first | refine ⟨_, Yl_pick_t rfl rfl, ?_⟩ | refine ⟨_, Yl_pick_f rfl rfl, ?_⟩))
      | ((with_reducible refine is_fld ?_); (first | ((refine' ⟨_, Yl_fld_ad rfl ?q1, ?_⟩); (case q1 => exact fld_of rfl rfl)) | ((refine' ⟨_, Yl_fld_blk0 rfl ?q1, ?_⟩); (case q1 => exact fld_of rfl rfl)) | ((refine' ⟨_, Yl_fld_blk rfl ?q1, ?_⟩); (case q1 => exact fld_of rfl rfl))))
      | ((with_reducible refine is_load ?_); (first
      | ((refine' ⟨_, Yl_load_blk rfl ?q1 ?q2 ?q3, ?_⟩); (case q1 => exact one_of rfl); (case q2 => (repeat (first | exact .head _ | apply List.Mem.tail))); (case q3 => rfl))
      | ((refine' ⟨_, Yl_loadA_blk rfl ?q1 ?q2, ?_⟩); (case q1 => (repeat (first | exact .head _ | apply List.Mem.tail))); (case q2 => exact agg_of rfl))
      | ((refine' ⟨_, Yl_load_blk rfl ?q1 ?q2 ?q3, ?_⟩); (case q1 => exact one_of rfl); (case q2 => (repeat (first | exact .head _ | apply List.Mem.tail))); (case q3 => assumption))
      | ((refine' ⟨_, Yl_load_rd rfl ?q1 ?q2 List.not_mem_nil ?q3, ?_⟩); (case q1 => exact one_of rfl); (case q2 => assumption); (case q3 => assumption))
      | ((refine' ⟨_, Yl_load_row rfl ?q1 ?q2 ?q3, ?_⟩); (case q1 => exact one_of rfl); (case q2 => (repeat (first | exact .head _ | apply List.Mem.tail))); (case q3 => assumption))
      | ((refine' ⟨_, Yl_loadA_rd rfl ?qa ?qb List.not_mem_nil ?ql ?qc, ?_⟩); (case qa => exact agg_of rfl); (case qb => assumption); (case qc => assumption); (case ql => rfl))
      | ((refine' ⟨_, Yl_loadA_row rfl ?qa ?qb ?ql ?qc, ?_⟩); (case qa => exact agg_of rfl); (case qb => (repeat (first | exact .head _ | apply List.Mem.tail))); (case qc => assumption); (case ql => rfl))))
      | ((with_reducible refine is_ext ?_); refine ⟨_, Yl_extract rfl rfl, ?_⟩)
      | ((with_reducible refine is_un ?_); refine ⟨_, Yl_not rfl, ?_⟩)
      | ((with_reducible refine is_len ?_); (first | ((refine' ⟨_, Yl_len_slice rfl ?q1, ?_⟩); (case q1 => exact und_of rfl)) | ((refine' ⟨_, Yl_len_string rfl ?q1, ?_⟩); (case q1 => exact und_of rfl))))
      | ((with_reducible refine is_b_eql ?_); (first
      | ((refine' ⟨_, Yl_eql_t rfl rfl ?q1, ?_⟩); (case q1 => omega))
      | ((refine' ⟨_, Yl_eql_f rfl rfl ?q1, ?_⟩); (case q1 => omega))
      | (refine sp_eql rfl rfl ?_ ?_ <;> intro hc)
      | refine ⟨_, Yl_eqlA rfl rfl (eqg_of rfl) (eqM_t _ _ rfl).run, ?_⟩
      | ((refine' ⟨_, Yl_convW (k := .i64) (k' := .u64) rfl ?q1 ?q2, ?_⟩); (case q1 => exact und_of rfl); (case q2 => exact und_of rfl))
      | ((refine' ⟨_, Yl_convI (k := .u64) (k' := .i64) rfl ?q1 ?q2 (wrap_mod _ 5 ?q3 ?q4), ?_⟩); (case q1 => exact und_of rfl); (case q2 => exact und_of rfl); (case q3 => decide); (case q4 => decide))
      | ((refine' ⟨_, Yl_remE rfl rfl ?q1 ?q2 rfl, ?_⟩); (case q1 => exact wrap_u64_lo _); (case q2 => decide))
      | ((refine' ⟨_, Yl_remE rfl rfl ?q1 ?q2 h3, ?_⟩); (case q1 => omega); (case q2 => decide))
      | ((refine' ⟨_, Yl_eql_bool rfl rfl ?q1, ?_⟩); (case q1 => exact und_of rfl))
      | ((refine' ⟨_, Yl_eql_strT rfl rfl ?q1, ?_⟩); (case q1 => first | assumption | rfl))
      | ((refine' ⟨_, Yl_eql_strF rfl rfl ?q1, ?_⟩); (case q1 => first | assumption | decide))
      | (refine sp_eqlS rfl rfl ?_ ?_ <;> intro hc)))
      | ((with_reducible refine is_b_neq ?_); (first
      | ((refine' ⟨_, Yl_neq_t rfl rfl ?q1, ?_⟩); (case q1 => omega))
      | ((refine' ⟨_, Yl_neq_f rfl rfl ?q1, ?_⟩); (case q1 => omega))
      | (refine sp_neq rfl rfl ?_ ?_ <;> intro hc)
      | refine ⟨_, Yl_eqlA rfl rfl (eqg_of rfl) (eqM_t _ _ rfl).run, ?_⟩
      | ((refine' ⟨_, Yl_convW (k := .i64) (k' := .u64) rfl ?q1 ?q2, ?_⟩); (case q1 => exact und_of rfl); (case q2 => exact und_of rfl))
      | ((refine' ⟨_, Yl_convI (k := .u64) (k' := .i64) rfl ?q1 ?q2 (wrap_mod _ 5 ?q3 ?q4), ?_⟩); (case q1 => exact und_of rfl); (case q2 => exact und_of rfl); (case q3 => decide); (case q4 => decide))
      | ((refine' ⟨_, Yl_remE rfl rfl ?q1 ?q2 rfl, ?_⟩); (case q1 => exact wrap_u64_lo _); (case q2 => decide))
      | ((refine' ⟨_, Yl_remE rfl rfl ?q1 ?q2 h3, ?_⟩); (case q1 => omega); (case q2 => decide))
      | ((refine' ⟨_, Yl_neq_bool rfl rfl ?q1, ?_⟩); (case q1 => exact und_of rfl))
      | ((refine' ⟨_, Yl_neq_strT rfl rfl ?q1, ?_⟩); (case q1 => first | assumption | decide))
      | ((refine' ⟨_, Yl_neq_strF rfl rfl ?q1, ?_⟩); (case q1 => first | assumption | rfl))
      | (refine sp_neqS rfl rfl ?_ ?_ <;> intro hc)))
      | ((with_reducible refine is_build ?_); (first | refine ⟨_, Yl_build rfl (m_build2 _ _), ?_⟩))
      | (first | refine ⟨_, Yl_eqlA rfl rfl (eqg_of rfl) (eqM_t _ _ rfl).run, ?_⟩ | ((refine' ⟨_, Yl_convW (k := .i64) (k' := .u64) rfl ?q1 ?q2, ?_⟩); (case q1 => exact und_of rfl); (case q2 => exact und_of rfl)) | ((refine' ⟨_, Yl_convI (k := .u64) (k' := .i64) rfl ?q1 ?q2 (wrap_mod _ 5 ?q3 ?q4), ?_⟩); (case q1 => exact und_of rfl); (case q2 => exact und_of rfl); (case q3 => decide); (case q4 => decide)) | ((refine' ⟨_, Yl_remE rfl rfl ?q1 ?q2 rfl, ?_⟩); (case q1 => exact wrap_u64_lo _); (case q2 => decide)) | ((refine' ⟨_, Yl_remE rfl rfl ?q1 ?q2 h3, ?_⟩); (case q1 => omega); (case q2 => decide)))
      | ((with_reducible refine ie_store ?_); (first
      | ((refine' Ef_store_row1 rfl rfl ?q1 ?q2 ?q3 ?q4 ?q5 ?_); (case q1 => rfl); (case q2 => exact siz_of rfl); (case q3 => (first | exact at0 | exact at1 | exact at2 | exact at3 | exact at4 | exact at5 | exact at6)); (case q4 => omega); (case q5 => assumption))
      | ((refine' Ef_store_rowA rfl rfl ?q1 ?q2 ?q3 ?q4 ?q5 ?q6 ?_); (case q1 => exact siz_of rfl); (case q2 => rfl); (case q3 => (first | assumption | (intro u hu; rcases hu with _ | ⟨_, _ | ⟨_, _ | ⟨_, _ | ⟨_, hu⟩⟩⟩⟩ <;> first | rfl | (cases hu; done)))); (case q4 => (first | exact at0 | exact at1 | exact at2 | exact at3 | exact at4 | exact at5 | exact at6)); (case q5 => omega); (case q6 => assumption))
      | ((refine' Ef_storeA' rfl rfl ?q1 ?q2 ?q3 ?q4 ?_); (case q1 => exact siz_of rfl); (case q2 => (first | assumption | (intro u hu; rcases hu with _ | ⟨_, _ | ⟨_, _ | ⟨_, _ | ⟨_, hu⟩⟩⟩⟩ <;> first | rfl | (cases hu; done)))); (case q3 => (first | exact at0 | exact at1 | exact at2 | exact at3 | exact at4 | exact at5 | exact at6)); (case q4 => rfl))
      | ((refine' Ef_storeC rfl rfl ?q1 ?q2 ?q3 ?q4 ?q5 ?_); (case q1 => rfl); (case q2 => exact siz_of rfl); (case q3 => (first | exact at0 | exact at1 | exact at2 | exact at3 | exact at4 | exact at5 | exact at6)); (case q4 => exact Nat.le_of_ble_eq_true rfl); (case q5 => rfl))))
      | ((with_reducible refine ie_callf ?_); (first
      | ((with_reducible refine g_call 7 ?_); (first
      | (((refine' Ef_callN rfl rfl ent_7 (fun w _ => first_c 2 ?q1 w) ?_); (case q1 => decide)); (first | ((fail_if_success have := A1); rintro ⟨A1, c1⟩) | ((fail_if_success have := A2); rintro ⟨A2, c2⟩) | ((fail_if_success have := A3); rintro ⟨A3, c3⟩) | ((fail_if_success have := A4); rintro ⟨A4, c4⟩) | ((fail_if_success have := A5); rintro ⟨A5, c5⟩) | ((fail_if_success have := A6); rintro ⟨A6, c6⟩) | ((fail_if_success have := A7); rintro ⟨A7, c7⟩) | ((fail_if_success have := A8); rintro ⟨A8, c8⟩) | ((fail_if_success have := A9); rintro ⟨A9, c9⟩)))
      | (((refine' Ef_callN rfl rfl ent_7 (fun w _ => first_c 1 ?q1 w) ?_); (case q1 => decide)); (first | ((fail_if_success have := A1); rintro ⟨A1, c1⟩) | ((fail_if_success have := A2); rintro ⟨A2, c2⟩) | ((fail_if_success have := A3); rintro ⟨A3, c3⟩) | ((fail_if_success have := A4); rintro ⟨A4, c4⟩) | ((fail_if_success have := A5); rintro ⟨A5, c5⟩) | ((fail_if_success have := A6); rintro ⟨A6, c6⟩) | ((fail_if_success have := A7); rintro ⟨A7, c7⟩) | ((fail_if_success have := A8); rintro ⟨A8, c8⟩) | ((fail_if_success have := A9); rintro ⟨A9, c9⟩)))))
      | ((with_reducible refine g_call 15 ?_); (first
      | (((refine' Ef_callN rfl rfl ent_15 (fun w hp => ad1 _ _ w (hp.rowOf ?q1) (hp.capOf ?q2)) ?_); (case q1 => (repeat (first | exact .head _ | apply List.Mem.tail))); (case q2 => (repeat (first | exact .head _ | apply List.Mem.tail)))); (first | ((fail_if_success have := A1); rintro ⟨A1, c1⟩) | ((fail_if_success have := A2); rintro ⟨A2, c2⟩) | ((fail_if_success have := A3); rintro ⟨A3, c3⟩) | ((fail_if_success have := A4); rintro ⟨A4, c4⟩) | ((fail_if_success have := A5); rintro ⟨A5, c5⟩) | ((fail_if_success have := A6); rintro ⟨A6, c6⟩) | ((fail_if_success have := A7); rintro ⟨A7, c7⟩) | ((fail_if_success have := A8); rintro ⟨A8, c8⟩) | ((fail_if_success have := A9); rintro ⟨A9, c9⟩)))
      | (((refine' Ef_callN rfl rfl ent_15 (fun w hp => ad2 _ _ w (hp.rowOf ?q1) (hp.capOf ?q2)) ?_); (case q1 => (repeat (first | exact .head _ | apply List.Mem.tail))); (case q2 => (repeat (first | exact .head _ | apply List.Mem.tail)))); (first | ((fail_if_success have := A1); rintro ⟨A1, c1⟩) | ((fail_if_success have := A2); rintro ⟨A2, c2⟩) | ((fail_if_success have := A3); rintro ⟨A3, c3⟩) | ((fail_if_success have := A4); rintro ⟨A4, c4⟩) | ((fail_if_success have := A5); rintro ⟨A5, c5⟩) | ((fail_if_success have := A6); rintro ⟨A6, c6⟩) | ((fail_if_success have := A7); rintro ⟨A7, c7⟩) | ((fail_if_success have := A8); rintro ⟨A8, c8⟩) | ((fail_if_success have := A9); rintro ⟨A9, c9⟩)))))
      | ((with_reducible refine g_call 16 ?_); (first
      | (((refine' Ef_callN rfl rfl ent_16 (fun w hp => re1 _ _ w (hp.rowOf ?q1) (hp.capOf ?q2)) ?_); (case q1 => (repeat (first | exact .head _ | apply List.Mem.tail))); (case q2 => (repeat (first | exact .head _ | apply List.Mem.tail)))); (first | ((fail_if_success have := A1); rintro ⟨A1, c1⟩) | ((fail_if_success have := A2); rintro ⟨A2, c2⟩) | ((fail_if_success have := A3); rintro ⟨A3, c3⟩) | ((fail_if_success have := A4); rintro ⟨A4, c4⟩) | ((fail_if_success have := A5); rintro ⟨A5, c5⟩) | ((fail_if_success have := A6); rintro ⟨A6, c6⟩) | ((fail_if_success have := A7); rintro ⟨A7, c7⟩) | ((fail_if_success have := A8); rintro ⟨A8, c8⟩) | ((fail_if_success have := A9); rintro ⟨A9, c9⟩)))
      | (((refine' Ef_callN rfl rfl ent_16 (fun w hp => re2 _ _ w (hp.rowOf ?q1) (hp.capOf ?q2)) ?_); (case q1 => (repeat (first | exact .head _ | apply List.Mem.tail))); (case q2 => (repeat (first | exact .head _ | apply List.Mem.tail)))); (first | ((fail_if_success have := A1); rintro ⟨A1, c1⟩) | ((fail_if_success have := A2); rintro ⟨A2, c2⟩) | ((fail_if_success have := A3); rintro ⟨A3, c3⟩) | ((fail_if_success have := A4); rintro ⟨A4, c4⟩) | ((fail_if_success have := A5); rintro ⟨A5, c5⟩) | ((fail_if_success have := A6); rintro ⟨A6, c6⟩) | ((fail_if_success have := A7); rintro ⟨A7, c7⟩) | ((fail_if_success have := A8); rintro ⟨A8, c8⟩) | ((fail_if_success have := A9); rintro ⟨A9, c9⟩)))
      | (((refine' Ef_callN rfl rfl ent_16 (fun w hp => re3 _ _ w (hp.rowOf ?q1) (hp.capOf ?q2)) ?_); (case q1 => (repeat (first | exact .head _ | apply List.Mem.tail))); (case q2 => (repeat (first | exact .head _ | apply List.Mem.tail)))); (first | ((fail_if_success have := A1); rintro ⟨A1, c1⟩) | ((fail_if_success have := A2); rintro ⟨A2, c2⟩) | ((fail_if_success have := A3); rintro ⟨A3, c3⟩) | ((fail_if_success have := A4); rintro ⟨A4, c4⟩) | ((fail_if_success have := A5); rintro ⟨A5, c5⟩) | ((fail_if_success have := A6); rintro ⟨A6, c6⟩) | ((fail_if_success have := A7); rintro ⟨A7, c7⟩) | ((fail_if_success have := A8); rintro ⟨A8, c8⟩) | ((fail_if_success have := A9); rintro ⟨A9, c9⟩)))))
      | ((with_reducible refine g_call 18 ?_); (first
      | (((refine' Ef_callN rfl rfl ent_18 (fun w hp => wh1 _ _ w (hp.rowOf ?q1) (hp.capOf ?q2)) ?_); (case q1 => (repeat (first | exact .head _ | apply List.Mem.tail))); (case q2 => (repeat (first | exact .head _ | apply List.Mem.tail)))); (first | ((fail_if_success have := A1); rintro ⟨A1, c1⟩) | ((fail_if_success have := A2); rintro ⟨A2, c2⟩) | ((fail_if_success have := A3); rintro ⟨A3, c3⟩) | ((fail_if_success have := A4); rintro ⟨A4, c4⟩) | ((fail_if_success have := A5); rintro ⟨A5, c5⟩) | ((fail_if_success have := A6); rintro ⟨A6, c6⟩) | ((fail_if_success have := A7); rintro ⟨A7, c7⟩) | ((fail_if_success have := A8); rintro ⟨A8, c8⟩) | ((fail_if_success have := A9); rintro ⟨A9, c9⟩)))
      | (((refine' Ef_callN rfl rfl ent_18 (fun w hp => wh2 _ _ w (hp.rowOf ?q1) (hp.capOf ?q2)) ?_); (case q1 => (repeat (first | exact .head _ | apply List.Mem.tail))); (case q2 => (repeat (first | exact .head _ | apply List.Mem.tail)))); (first | ((fail_if_success have := A1); rintro ⟨A1, c1⟩) | ((fail_if_success have := A2); rintro ⟨A2, c2⟩) | ((fail_if_success have := A3); rintro ⟨A3, c3⟩) | ((fail_if_success have := A4); rintro ⟨A4, c4⟩) | ((fail_if_success have := A5); rintro ⟨A5, c5⟩) | ((fail_if_success have := A6); rintro ⟨A6, c6⟩) | ((fail_if_success have := A7); rintro ⟨A7, c7⟩) | ((fail_if_success have := A8); rintro ⟨A8, c8⟩) | ((fail_if_success have := A9); rintro ⟨A9, c9⟩)))))
      | ((with_reducible refine g_call 11 ?_); (first | ((refine' Ef_callP rfl rfl ent_11 (fun w hp => hd1 _ _ w (hp.rowOf ?q1) (hp.capOf ?q2)) ?_); (case q1 => (repeat (first | exact .head _ | apply List.Mem.tail))); (case q2 => (repeat (first | exact .head _ | apply List.Mem.tail)))) | ((refine' Ef_callP rfl rfl ent_11 (fun w hp => hd2 _ _ w (hp.rowOf ?q1) (hp.capOf ?q2)) ?_); (case q1 => (repeat (first | exact .head _ | apply List.Mem.tail))); (case q2 => (repeat (first | exact .head _ | apply List.Mem.tail))))))
      | ((with_reducible refine g_call 14 ?_); (first | ((refine' Ef_callP rfl rfl ent_14 (fun w hp => tl1 _ _ w (hp.rowOf ?q1) (hp.capOf ?q2)) ?_); (case q1 => (repeat (first | exact .head _ | apply List.Mem.tail))); (case q2 => (repeat (first | exact .head _ | apply List.Mem.tail)))) | ((refine' Ef_callP rfl rfl ent_14 (fun w hp => tl2 _ _ w (hp.rowOf ?q1) (hp.capOf ?q2)) ?_); (case q1 => (repeat (first | exact .head _ | apply List.Mem.tail))); (case q2 => (repeat (first | exact .head _ | apply List.Mem.tail))))))
      | ((with_reducible refine g_call 13 ?_); (first | ((refine' Ef_callP rfl rfl ent_13 (fun w hp => nx1 _ _ w (hp.rowOf ?q1) (hp.capOf ?q2)) ?_); (case q1 => (repeat (first | exact .head _ | apply List.Mem.tail))); (case q2 => (repeat (first | exact .head _ | apply List.Mem.tail)))) | ((refine' Ef_callP rfl rfl ent_13 (fun w hp => nx2 _ _ w (hp.rowOf ?q1) (hp.capOf ?q2)) ?_); (case q1 => (repeat (first | exact .head _ | apply List.Mem.tail))); (case q2 => (repeat (first | exact .head _ | apply List.Mem.tail))))))
      | ((with_reducible refine g_call 12 ?_); (first | ((refine' Ef_callP rfl rfl ent_12 (fun w hp => pv1 _ _ w (hp.rowOf ?q1) (hp.capOf ?q2)) ?_); (case q1 => (repeat (first | exact .head _ | apply List.Mem.tail))); (case q2 => (repeat (first | exact .head _ | apply List.Mem.tail))))))
      | ((with_reducible refine g_call 10 ?_); (first | ((refine' Ef_callP rfl rfl ent_10 (fun w hp => atA _ _ w (hp.rowOf ?q1) (hp.capOf ?q2)) ?_); (case q1 => (repeat (first | exact .head _ | apply List.Mem.tail))); (case q2 => (repeat (first | exact .head _ | apply List.Mem.tail))))))))
      | ((first  | ((with_reducible refine ie_alloc ?_); (((refine' Ef_alloc rfl ?q1 ?_); (case q1 => exact zer_of rfl))))); (first | ((fail_if_success have := b1); intro b1) | ((fail_if_success have := b2); intro b2) | ((fail_if_success have := b3); intro b3) | ((fail_if_success have := b4); intro b4) | ((fail_if_success have := b5); intro b5) | ((fail_if_success have := b6); intro b6) | ((fail_if_success have := b7); intro b7) | ((fail_if_success have := b8); intro b8) | ((fail_if_success have := b9); intro b9) | ((fail_if_success have := b10); intro b10) | ((fail_if_success have := b11); intro b11) | ((fail_if_success have := b12); intro b12)))
      | (fail; (first | ((fail_if_success have := A1); intro A1 c1) | ((fail_if_success have := A2); intro A2 c2) | ((fail_if_success have := A3); intro A3 c3) | ((fail_if_success have := A4); intro A4 c4) | ((fail_if_success have := A5); intro A5 c5) | ((fail_if_success have := A6); intro A6 c6) | ((fail_if_success have := A7); intro A7 c7)))
      | refine Ef_y rfl rfl ?_)
  simp only [List.append_eq, List.cons_append, List.nil_append]
  repeat' (first
      | with_reducible refine T.seq ?_
      | with_reducible refine T.block ?_
      | with_reducible refine T.region ?_
      | with_reducible refine T.skip ?_
      | with_reducible refine T.scope ?_
      | with_reducible refine T.label ?_
      | with_reducible refine scopeQ_n ?_
      | with_reducible refine scopeQ_r ?_
      | with_reducible refine scopeQ_x ?_
      | with_reducible refine T.ret ?_
      | with_reducible refine T.exit ?_
      | with_reducible refine seqQ_n ?_
      | with_reducible refine seqQ_x ?_
      | with_reducible refine seqQ_r ?_
      | with_reducible refine blockQ_n ?_
      | with_reducible refine blockQ_r ?_
      | with_reducible refine blockQ_x ?_
      | ((with_reducible refine g_blkx ?_); refine blockQ_y rfl ?_)
      | with_reducible refine loopQ_x ?_
      | with_reducible refine loopQ_r ?_
      | with_reducible refine joinQ_r ?_
      | with_reducible refine joinQ_x ?_
      | ((with_reducible refine g_cond ?_); (first | refine T.cond_t rfl ?_ | refine T.cond_f rfl ?_ | (refine T.cond_s rfl ?_ ?_ <;> intro hc)))
      | with_reducible refine TL_nil ?_
      | with_reducible refine TS_nil ?_
      | ((with_reducible refine TL_y' ?hy ?hd ?_); (case hy => rfl); (case hd => rfl))
      | with_reducible refine TL_e ?_
      | ((with_reducible refine g_TL ?_); (first | refine TL_gy' rfl rfl rfl rfl ?_ | refine TL_gn rfl rfl rfl ?_ | refine TL_gu rfl rfl rfl ?_ | refine TL_ge rfl rfl ?_ | refine TL_gn0 rfl rfl ?_))
      | ((with_reducible refine g_TS ?_); (first | refine TS_y rfl rfl ?_ | refine TS_e rfl ?_ | refine TS_gy rfl rfl rfl rfl ?_ | refine TS_gn rfl rfl rfl rfl ?_ | refine TS_gu rfl rfl rfl rfl ?_ | refine TS_ge rfl rfl rfl ?_ | refine TS_gne rfl rfl rfl rfl ?_ | refine TS_gue rfl rfl rfl rfl ?_ | refine TS_gne0 rfl rfl rfl ?_))
      | ((with_reducible refine TSand ?hd ?_); (case hd => (repeat (first | exact List.nil_sublist _ | refine List.Sublist.cons_cons _ ?_ | refine List.Sublist.cons _ ?_))))
      | ((with_reducible refine TBand ?hd ?_); (case hd => (repeat (first | exact List.nil_sublist _ | refine List.Sublist.cons_cons _ ?_ | refine List.Sublist.cons _ ?_))))
      | ((with_reducible refine g_TB ?_); (first | with_reducible refine TB_run ?_ | refine TB_y rfl rfl ?_ | refine TB_b rfl rfl ?_ ?_ | refine TB_e rfl ?_))
      | ((with_reducible refine is_move ?_); refine ⟨_, Yl_move rfl, ?_⟩)
      | ((with_reducible refine is_assign ?_); refine ⟨_, Yl_assign rfl, ?_⟩)
      | ((with_reducible refine is_pick ?_); (first | refine ⟨_, Yl_pick_t rfl rfl, ?_⟩ | refine ⟨_, Yl_pick_f rfl rfl, ?_⟩))
      | ((with_reducible refine is_fld ?_); (first | ((refine' ⟨_, Yl_fld_ad rfl ?q1, ?_⟩); (case q1 => exact fld_of rfl rfl)) | ((refine' ⟨_, Yl_fld_blk0 rfl ?q1, ?_⟩); (case q1 => exact fld_of rfl rfl)) | ((refine' ⟨_, Yl_fld_blk rfl ?q1, ?_⟩); (case q1 => exact fld_of rfl rfl))))
      | ((with_reducible refine is_load ?_); (first
      | ((refine' ⟨_, Yl_load_blk rfl ?q1 ?q2 ?q3, ?_⟩); (case q1 => exact one_of rfl); (case q2 => (repeat (first | exact .head _ | apply List.Mem.tail))); (case q3 => rfl))
      | ((refine' ⟨_, Yl_loadA_blk rfl ?q1 ?q2, ?_⟩); (case q1 => (repeat (first | exact .head _ | apply List.Mem.tail))); (case q2 => exact agg_of rfl))
      | ((refine' ⟨_, Yl_load_blk rfl ?q1 ?q2 ?q3, ?_⟩); (case q1 => exact one_of rfl); (case q2 => (repeat (first | exact .head _ | apply List.Mem.tail))); (case q3 => assumption))
      | ((refine' ⟨_, Yl_load_rd rfl ?q1 ?q2 List.not_mem_nil ?q3, ?_⟩); (case q1 => exact one_of rfl); (case q2 => assumption); (case q3 => assumption))
      | ((refine' ⟨_, Yl_load_row rfl ?q1 ?q2 ?q3, ?_⟩); (case q1 => exact one_of rfl); (case q2 => (repeat (first | exact .head _ | apply List.Mem.tail))); (case q3 => assumption))
      | ((refine' ⟨_, Yl_loadA_rd rfl ?qa ?qb List.not_mem_nil ?ql ?qc, ?_⟩); (case qa => exact agg_of rfl); (case qb => assumption); (case qc => assumption); (case ql => rfl))
      | ((refine' ⟨_, Yl_loadA_row rfl ?qa ?qb ?ql ?qc, ?_⟩); (case qa => exact agg_of rfl); (case qb => (repeat (first | exact .head _ | apply List.Mem.tail))); (case qc => assumption); (case ql => rfl))))
      | ((with_reducible refine is_ext ?_); refine ⟨_, Yl_extract rfl rfl, ?_⟩)
      | ((with_reducible refine is_un ?_); refine ⟨_, Yl_not rfl, ?_⟩)
      | ((with_reducible refine is_len ?_); (first | ((refine' ⟨_, Yl_len_slice rfl ?q1, ?_⟩); (case q1 => exact und_of rfl)) | ((refine' ⟨_, Yl_len_string rfl ?q1, ?_⟩); (case q1 => exact und_of rfl))))
      | ((with_reducible refine is_b_eql ?_); (first
      | ((refine' ⟨_, Yl_eql_t rfl rfl ?q1, ?_⟩); (case q1 => omega))
      | ((refine' ⟨_, Yl_eql_f rfl rfl ?q1, ?_⟩); (case q1 => omega))
      | (refine sp_eql rfl rfl ?_ ?_ <;> intro hc)
      | refine ⟨_, Yl_eqlA rfl rfl (eqg_of rfl) (eqM_t _ _ rfl).run, ?_⟩
      | ((refine' ⟨_, Yl_convW (k := .i64) (k' := .u64) rfl ?q1 ?q2, ?_⟩); (case q1 => exact und_of rfl); (case q2 => exact und_of rfl))
      | ((refine' ⟨_, Yl_convI (k := .u64) (k' := .i64) rfl ?q1 ?q2 (wrap_mod _ 5 ?q3 ?q4), ?_⟩); (case q1 => exact und_of rfl); (case q2 => exact und_of rfl); (case q3 => decide); (case q4 => decide))
      | ((refine' ⟨_, Yl_remE rfl rfl ?q1 ?q2 rfl, ?_⟩); (case q1 => exact wrap_u64_lo _); (case q2 => decide))
      | ((refine' ⟨_, Yl_remE rfl rfl ?q1 ?q2 h3, ?_⟩); (case q1 => omega); (case q2 => decide))
      | ((refine' ⟨_, Yl_eql_bool rfl rfl ?q1, ?_⟩); (case q1 => exact und_of rfl))
      | ((refine' ⟨_, Yl_eql_strT rfl rfl ?q1, ?_⟩); (case q1 => first | assumption | rfl))
      | ((refine' ⟨_, Yl_eql_strF rfl rfl ?q1, ?_⟩); (case q1 => first | assumption | decide))
      | (refine sp_eqlS rfl rfl ?_ ?_ <;> intro hc)))
      | ((with_reducible refine is_b_neq ?_); (first
      | ((refine' ⟨_, Yl_neq_t rfl rfl ?q1, ?_⟩); (case q1 => omega))
      | ((refine' ⟨_, Yl_neq_f rfl rfl ?q1, ?_⟩); (case q1 => omega))
      | (refine sp_neq rfl rfl ?_ ?_ <;> intro hc)
      | refine ⟨_, Yl_eqlA rfl rfl (eqg_of rfl) (eqM_t _ _ rfl).run, ?_⟩
      | ((refine' ⟨_, Yl_convW (k := .i64) (k' := .u64) rfl ?q1 ?q2, ?_⟩); (case q1 => exact und_of rfl); (case q2 => exact und_of rfl))
      | ((refine' ⟨_, Yl_convI (k := .u64) (k' := .i64) rfl ?q1 ?q2 (wrap_mod _ 5 ?q3 ?q4), ?_⟩); (case q1 => exact und_of rfl); (case q2 => exact und_of rfl); (case q3 => decide); (case q4 => decide))
      | ((refine' ⟨_, Yl_remE rfl rfl ?q1 ?q2 rfl, ?_⟩); (case q1 => exact wrap_u64_lo _); (case q2 => decide))
      | ((refine' ⟨_, Yl_remE rfl rfl ?q1 ?q2 h3, ?_⟩); (case q1 => omega); (case q2 => decide))
      | ((refine' ⟨_, Yl_neq_bool rfl rfl ?q1, ?_⟩); (case q1 => exact und_of rfl))
      | ((refine' ⟨_, Yl_neq_strT rfl rfl ?q1, ?_⟩); (case q1 => first | assumption | decide))
      | ((refine' ⟨_, Yl_neq_strF rfl rfl ?q1, ?_⟩); (case q1 => first | assumption | rfl))
      | (refine sp_neqS rfl rfl ?_ ?_ <;> intro hc)))
      | ((with_reducible refine is_build ?_); (first | refine ⟨_, Yl_build rfl (m_build2 _ _), ?_⟩))
      | (first | refine ⟨_, Yl_eqlA rfl rfl (eqg_of rfl) (eqM_t _ _ rfl).run, ?_⟩ | ((refine' ⟨_, Yl_convW (k := .i64) (k' := .u64) rfl ?q1 ?q2, ?_⟩); (case q1 => exact und_of rfl); (case q2 => exact und_of rfl)) | ((refine' ⟨_, Yl_convI (k := .u64) (k' := .i64) rfl ?q1 ?q2 (wrap_mod _ 5 ?q3 ?q4), ?_⟩); (case q1 => exact und_of rfl); (case q2 => exact und_of rfl); (case q3 => decide); (case q4 => decide)) | ((refine' ⟨_, Yl_remE rfl rfl ?q1 ?q2 rfl, ?_⟩); (case q1 => exact wrap_u64_lo _); (case q2 => decide)) | ((refine' ⟨_, Yl_remE rfl rfl ?q1 ?q2 h3, ?_⟩); (case q1 => omega); (case q2 => decide)))
      | ((with_reducible refine ie_store ?_); (first
      | ((refine' Ef_store_row1 rfl rfl ?q1 ?q2 ?q3 ?q4 ?q5 ?_); (case q1 => rfl); (case q2 => exact siz_of rfl); (case q3 => (first | exact at0 | exact at1 | exact at2 | exact at3 | exact at4 | exact at5 | exact at6)); (case q4 => omega); (case q5 => assumption))
      | ((refine' Ef_store_rowA rfl rfl ?q1 ?q2 ?q3 ?q4 ?q5 ?q6 ?_); (case q1 => exact siz_of rfl); (case q2 => rfl); (case q3 => (first | assumption | (intro u hu; rcases hu with _ | ⟨_, _ | ⟨_, _ | ⟨_, _ | ⟨_, hu⟩⟩⟩⟩ <;> first | rfl | (cases hu; done)))); (case q4 => (first | exact at0 | exact at1 | exact at2 | exact at3 | exact at4 | exact at5 | exact at6)); (case q5 => omega); (case q6 => assumption))
      | ((refine' Ef_storeA' rfl rfl ?q1 ?q2 ?q3 ?q4 ?_); (case q1 => exact siz_of rfl); (case q2 => (first | assumption | (intro u hu; rcases hu with _ | ⟨_, _ | ⟨_, _ | ⟨_, _ | ⟨_, hu⟩⟩⟩⟩ <;> first | rfl | (cases hu; done)))); (case q3 => (first | exact at0 | exact at1 | exact at2 | exact at3 | exact at4 | exact at5 | exact at6)); (case q4 => rfl))
      | ((refine' Ef_storeC rfl rfl ?q1 ?q2 ?q3 ?q4 ?q5 ?_); (case q1 => rfl); (case q2 => exact siz_of rfl); (case q3 => (first | exact at0 | exact at1 | exact at2 | exact at3 | exact at4 | exact at5 | exact at6)); (case q4 => exact Nat.le_of_ble_eq_true rfl); (case q5 => rfl))))
      | ((with_reducible refine ie_callf ?_); (first
      | ((with_reducible refine g_call 7 ?_); (first
      | (((refine' Ef_callN rfl rfl ent_7 (fun w _ => first_c 2 ?q1 w) ?_); (case q1 => decide)); (first | ((fail_if_success have := A1); rintro ⟨A1, c1⟩) | ((fail_if_success have := A2); rintro ⟨A2, c2⟩) | ((fail_if_success have := A3); rintro ⟨A3, c3⟩) | ((fail_if_success have := A4); rintro ⟨A4, c4⟩) | ((fail_if_success have := A5); rintro ⟨A5, c5⟩) | ((fail_if_success have := A6); rintro ⟨A6, c6⟩) | ((fail_if_success have := A7); rintro ⟨A7, c7⟩) | ((fail_if_success have := A8); rintro ⟨A8, c8⟩) | ((fail_if_success have := A9); rintro ⟨A9, c9⟩)))
      | (((refine' Ef_callN rfl rfl ent_7 (fun w _ => first_c 1 ?q1 w) ?_); (case q1 => decide)); (first | ((fail_if_success have := A1); rintro ⟨A1, c1⟩) | ((fail_if_success have := A2); rintro ⟨A2, c2⟩) | ((fail_if_success have := A3); rintro ⟨A3, c3⟩) | ((fail_if_success have := A4); rintro ⟨A4, c4⟩) | ((fail_if_success have := A5); rintro ⟨A5, c5⟩) | ((fail_if_success have := A6); rintro ⟨A6, c6⟩) | ((fail_if_success have := A7); rintro ⟨A7, c7⟩) | ((fail_if_success have := A8); rintro ⟨A8, c8⟩) | ((fail_if_success have := A9); rintro ⟨A9, c9⟩)))))
      | ((with_reducible refine g_call 15 ?_); (first
      | (((refine' Ef_callN rfl rfl ent_15 (fun w hp => ad1 _ _ w (hp.rowOf ?q1) (hp.capOf ?q2)) ?_); (case q1 => (repeat (first | exact .head _ | apply List.Mem.tail))); (case q2 => (repeat (first | exact .head _ | apply List.Mem.tail)))); (first | ((fail_if_success have := A1); rintro ⟨A1, c1⟩) | ((fail_if_success have := A2); rintro ⟨A2, c2⟩) | ((fail_if_success have := A3); rintro ⟨A3, c3⟩) | ((fail_if_success have := A4); rintro ⟨A4, c4⟩) | ((fail_if_success have := A5); rintro ⟨A5, c5⟩) | ((fail_if_success have := A6); rintro ⟨A6, c6⟩) | ((fail_if_success have := A7); rintro ⟨A7, c7⟩) | ((fail_if_success have := A8); rintro ⟨A8, c8⟩) | ((fail_if_success have := A9); rintro ⟨A9, c9⟩)))
      | (((refine' Ef_callN rfl rfl ent_15 (fun w hp => ad2 _ _ w (hp.rowOf ?q1) (hp.capOf ?q2)) ?_); (case q1 => (repeat (first | exact .head _ | apply List.Mem.tail))); (case q2 => (repeat (first | exact .head _ | apply List.Mem.tail)))); (first | ((fail_if_success have := A1); rintro ⟨A1, c1⟩) | ((fail_if_success have := A2); rintro ⟨A2, c2⟩) | ((fail_if_success have := A3); rintro ⟨A3, c3⟩) | ((fail_if_success have := A4); rintro ⟨A4, c4⟩) | ((fail_if_success have := A5); rintro ⟨A5, c5⟩) | ((fail_if_success have := A6); rintro ⟨A6, c6⟩) | ((fail_if_success have := A7); rintro ⟨A7, c7⟩) | ((fail_if_success have := A8); rintro ⟨A8, c8⟩) | ((fail_if_success have := A9); rintro ⟨A9, c9⟩)))))
      | ((with_reducible refine g_call 16 ?_); (first
      | (((refine' Ef_callN rfl rfl ent_16 (fun w hp => re1 _ _ w (hp.rowOf ?q1) (hp.capOf ?q2)) ?_); (case q1 => (repeat (first | exact .head _ | apply List.Mem.tail))); (case q2 => (repeat (first | exact .head _ | apply List.Mem.tail)))); (first | ((fail_if_success have := A1); rintro ⟨A1, c1⟩) | ((fail_if_success have := A2); rintro ⟨A2, c2⟩) | ((fail_if_success have := A3); rintro ⟨A3, c3⟩) | ((fail_if_success have := A4); rintro ⟨A4, c4⟩) | ((fail_if_success have := A5); rintro ⟨A5, c5⟩) | ((fail_if_success have := A6); rintro ⟨A6, c6⟩) | ((fail_if_success have := A7); rintro ⟨A7, c7⟩) | ((fail_if_success have := A8); rintro ⟨A8, c8⟩) | ((fail_if_success have := A9); rintro ⟨A9, c9⟩)))
      | (((refine' Ef_callN rfl rfl ent_16 (fun w hp => re2 _ _ w (hp.rowOf ?q1) (hp.capOf ?q2)) ?_); (case q1 => (repeat (first | exact .head _ | apply List.Mem.tail))); (case q2 => (repeat (first | exact .head _ | apply List.Mem.tail)))); (first | ((fail_if_success have := A1); rintro ⟨A1, c1⟩) | ((fail_if_success have := A2); rintro ⟨A2, c2⟩) | ((fail_if_success have := A3); rintro ⟨A3, c3⟩) | ((fail_if_success have := A4); rintro ⟨A4, c4⟩) | ((fail_if_success have := A5); rintro ⟨A5, c5⟩) | ((fail_if_success have := A6); rintro ⟨A6, c6⟩) | ((fail_if_success have := A7); rintro ⟨A7, c7⟩) | ((fail_if_success have := A8); rintro ⟨A8, c8⟩) | ((fail_if_success have := A9); rintro ⟨A9, c9⟩)))
      | (((refine' Ef_callN rfl rfl ent_16 (fun w hp => re3 _ _ w (hp.rowOf ?q1) (hp.capOf ?q2)) ?_); (case q1 => (repeat (first | exact .head _ | apply List.Mem.tail))); (case q2 => (repeat (first | exact .head _ | apply List.Mem.tail)))); (first | ((fail_if_success have := A1); rintro ⟨A1, c1⟩) | ((fail_if_success have := A2); rintro ⟨A2, c2⟩) | ((fail_if_success have := A3); rintro ⟨A3, c3⟩) | ((fail_if_success have := A4); rintro ⟨A4, c4⟩) | ((fail_if_success have := A5); rintro ⟨A5, c5⟩) | ((fail_if_success have := A6); rintro ⟨A6, c6⟩) | ((fail_if_success have := A7); rintro ⟨A7, c7⟩) | ((fail_if_success have := A8); rintro ⟨A8, c8⟩) | ((fail_if_success have := A9); rintro ⟨A9, c9⟩)))))
      | ((with_reducible refine g_call 18 ?_); (first
      | (((refine' Ef_callN rfl rfl ent_18 (fun w hp => wh1 _ _ w (hp.rowOf ?q1) (hp.capOf ?q2)) ?_); (case q1 => (repeat (first | exact .head _ | apply List.Mem.tail))); (case q2 => (repeat (first | exact .head _ | apply List.Mem.tail)))); (first | ((fail_if_success have := A1); rintro ⟨A1, c1⟩) | ((fail_if_success have := A2); rintro ⟨A2, c2⟩) | ((fail_if_success have := A3); rintro ⟨A3, c3⟩) | ((fail_if_success have := A4); rintro ⟨A4, c4⟩) | ((fail_if_success have := A5); rintro ⟨A5, c5⟩) | ((fail_if_success have := A6); rintro ⟨A6, c6⟩) | ((fail_if_success have := A7); rintro ⟨A7, c7⟩) | ((fail_if_success have := A8); rintro ⟨A8, c8⟩) | ((fail_if_success have := A9); rintro ⟨A9, c9⟩)))
      | (((refine' Ef_callN rfl rfl ent_18 (fun w hp => wh2 _ _ w (hp.rowOf ?q1) (hp.capOf ?q2)) ?_); (case q1 => (repeat (first | exact .head _ | apply List.Mem.tail))); (case q2 => (repeat (first | exact .head _ | apply List.Mem.tail)))); (first | ((fail_if_success have := A1); rintro ⟨A1, c1⟩) | ((fail_if_success have := A2); rintro ⟨A2, c2⟩) | ((fail_if_success have := A3); rintro ⟨A3, c3⟩) | ((fail_if_success have := A4); rintro ⟨A4, c4⟩) | ((fail_if_success have := A5); rintro ⟨A5, c5⟩) | ((fail_if_success have := A6); rintro ⟨A6, c6⟩) | ((fail_if_success have := A7); rintro ⟨A7, c7⟩) | ((fail_if_success have := A8); rintro ⟨A8, c8⟩) | ((fail_if_success have := A9); rintro ⟨A9, c9⟩)))))
      | ((with_reducible refine g_call 11 ?_); (first | ((refine' Ef_callP rfl rfl ent_11 (fun w hp => hd1 _ _ w (hp.rowOf ?q1) (hp.capOf ?q2)) ?_); (case q1 => (repeat (first | exact .head _ | apply List.Mem.tail))); (case q2 => (repeat (first | exact .head _ | apply List.Mem.tail)))) | ((refine' Ef_callP rfl rfl ent_11 (fun w hp => hd2 _ _ w (hp.rowOf ?q1) (hp.capOf ?q2)) ?_); (case q1 => (repeat (first | exact .head _ | apply List.Mem.tail))); (case q2 => (repeat (first | exact .head _ | apply List.Mem.tail))))))
      | ((with_reducible refine g_call 14 ?_); (first | ((refine' Ef_callP rfl rfl ent_14 (fun w hp => tl1 _ _ w (hp.rowOf ?q1) (hp.capOf ?q2)) ?_); (case q1 => (repeat (first | exact .head _ | apply List.Mem.tail))); (case q2 => (repeat (first | exact .head _ | apply List.Mem.tail)))) | ((refine' Ef_callP rfl rfl ent_14 (fun w hp => tl2 _ _ w (hp.rowOf ?q1) (hp.capOf ?q2)) ?_); (case q1 => (repeat (first | exact .head _ | apply List.Mem.tail))); (case q2 => (repeat (first | exact .head _ | apply List.Mem.tail))))))
      | ((with_reducible refine g_call 13 ?_); (first | ((refine' Ef_callP rfl rfl ent_13 (fun w hp => nx1 _ _ w (hp.rowOf ?q1) (hp.capOf ?q2)) ?_); (case q1 => (repeat (first | exact .head _ | apply List.Mem.tail))); (case q2 => (repeat (first | exact .head _ | apply List.Mem.tail)))) | ((refine' Ef_callP rfl rfl ent_13 (fun w hp => nx2 _ _ w (hp.rowOf ?q1) (hp.capOf ?q2)) ?_); (case q1 => (repeat (first | exact .head _ | apply List.Mem.tail))); (case q2 => (repeat (first | exact .head _ | apply List.Mem.tail))))))
      | ((with_reducible refine g_call 12 ?_); (first | ((refine' Ef_callP rfl rfl ent_12 (fun w hp => pv1 _ _ w (hp.rowOf ?q1) (hp.capOf ?q2)) ?_); (case q1 => (repeat (first | exact .head _ | apply List.Mem.tail))); (case q2 => (repeat (first | exact .head _ | apply List.Mem.tail))))))
      | ((with_reducible refine g_call 10 ?_); (first | ((refine' Ef_callP rfl rfl ent_10 (fun w hp => atA _ _ w (hp.rowOf ?q1) (hp.capOf ?q2)) ?_); (case q1 => (repeat (first | exact .head _ | apply List.Mem.tail))); (case q2 => (repeat (first | exact .head _ | apply List.Mem.tail))))))))
      | ((first  | ((with_reducible refine ie_alloc ?_); (((refine' Ef_alloc rfl ?q1 ?_); (case q1 => exact zer_of rfl))))); (first | ((fail_if_success have := b1); intro b1) | ((fail_if_success have := b2); intro b2) | ((fail_if_success have := b3); intro b3) | ((fail_if_success have := b4); intro b4) | ((fail_if_success have := b5); intro b5) | ((fail_if_success have := b6); intro b6) | ((fail_if_success have := b7); intro b7) | ((fail_if_success have := b8); intro b8) | ((fail_if_success have := b9); intro b9) | ((fail_if_success have := b10); intro b10) | ((fail_if_success have := b11); intro b11) | ((fail_if_success have := b12); intro b12)))
      | (fail; (first | ((fail_if_success have := A1); intro A1 c1) | ((fail_if_success have := A2); intro A2 c2) | ((fail_if_success have := A3); intro A3 c3) | ((fail_if_success have := A4); intro A4 c4) | ((fail_if_success have := A5); intro A5 c5) | ((fail_if_success have := A6); intro A6 c6) | ((fail_if_success have := A7); intro A7 c7)))
      | refine Ef_y rfl rfl ?_)
  exact ret_n [] (res1 rfl rfl) (List.nil_sublist _) ⟨rfl, rfl⟩
end Go.Proofs.Ytpocbgcbiojflaa
