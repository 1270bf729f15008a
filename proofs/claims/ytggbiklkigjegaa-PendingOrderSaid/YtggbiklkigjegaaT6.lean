/- The chapter's examples: what a call comes to. -/
import Derived.Test.YtggbiklkigjegaaT5
namespace Go.Proofs.Ytggbiklkigjegaa
open Go.RowKit
set_option maxRecDepth 20000

abbrev sA : ByteArray := ⟨#[97]⟩
abbrev sB : ByteArray := ⟨#[98]⟩
abbrev sC : ByteArray := ⟨#[99]⟩
abbrev sD : ByteArray := ⟨#[100]⟩
section
variable (b r : Nat) (z : Option Addr × Nat) (w : World) (R : List Nat)
theorem ap1 (hp : Hp w R (oL b 2 z [] r) w) : Sp Try.prog 11 [.pointer (some ⟨b, 0, none⟩), .int .i64 5, .string sA] w R fun V N => ∃ z' : Option Addr × Nat, V = .bool true ∧ N = oL b 2 z' [(5, sA)] r := by
  have := put_c b 2 z [] r 5 w R (by decide) hp sA
  rwa [show Pl.put 2 [] 5 sA = ([(5, sA)], true) by decide +kernel] at this
theorem ap2 (hp : Hp w R (oL b 2 z [(5, sA)] r) w) : Sp Try.prog 11 [.pointer (some ⟨b, 0, none⟩), .int .i64 3, .string sB] w R fun V N => ∃ z' : Option Addr × Nat, V = .bool true ∧ N = oL b 2 z' [(5, sA), (3, sB)] r := by
  have := put_c b 2 z [(5, sA)] r 3 w R (by decide) hp sB
  rwa [show Pl.put 2 [(5, sA)] 3 sB = ([(5, sA), (3, sB)], true) by decide +kernel] at this
theorem ap3 (hp : Hp w R (oL b 2 z [(5, sA), (3, sB)] r) w) : Sp Try.prog 11 [.pointer (some ⟨b, 0, none⟩), .int .i64 9, .string sC] w R fun V N => ∃ z' : Option Addr × Nat, V = .bool false ∧ N = oL b 2 z' [(5, sA), (3, sB)] r := by
  have := put_c b 2 z [(5, sA), (3, sB)] r 9 w R (by decide) hp sC
  rwa [show Pl.put 2 [(5, sA), (3, sB)] 9 sC = ([(5, sA), (3, sB)], false) by decide +kernel] at this
theorem ap4 (hp : Hp w R (oL b 2 z [(5, sA), (3, sB)] r) w) : Sp Try.prog 11 [.pointer (some ⟨b, 0, none⟩), .int .i64 5, .string sD] w R fun V N => ∃ z' : Option Addr × Nat, V = .bool true ∧ N = oL b 2 z' [(5, sD), (3, sB)] r := by
  have := put_c b 2 z [(5, sA), (3, sB)] r 5 w R (by decide) hp sD
  rwa [show Pl.put 2 [(5, sA), (3, sB)] 5 sD = ([(5, sD), (3, sB)], true) by decide +kernel] at this
theorem ap5 (hp : Hp w R (oL b 2 z [(3, sB)] r) w) : Sp Try.prog 11 [.pointer (some ⟨b, 0, none⟩), .int .i64 9, .string sC] w R fun V N => ∃ z' : Option Addr × Nat, V = .bool true ∧ N = oL b 2 z' [(3, sB), (9, sC)] r := by
  have := put_c b 2 z [(3, sB)] r 9 w R (by decide) hp sC
  rwa [show Pl.put 2 [(3, sB)] 9 sC = ([(3, sB), (9, sC)], true) by decide +kernel] at this
theorem awt1 (hp : Hp w R (oL b 2 z [(5, sD), (3, sB)] r) w) : Sp Try.prog 10 [.pointer (some ⟨b, 0, none⟩), .int .i64 5] w R fun V N => ∃ z' : Option Addr × Nat, V = .tuple #[.string sD, .bool true] ∧ N = oL b 2 z' [(3, sB)] r :=
  take_c b 2 z [(5, sD), (3, sB)] r 5 w R (by decide) hp (by decide)
theorem awt2 (hp : Hp w R (oL b 2 z [(3, sB)] r) w) : Sp Try.prog 10 [.pointer (some ⟨b, 0, none⟩), .int .i64 5] w R fun V N => ∃ z' : Option Addr × Nat, V = .tuple #[.string ByteArray.empty, .bool false] ∧ N = oL b 2 z' [(3, sB)] r :=
  take_c b 2 z [(3, sB)] r 5 w R (by decide) hp (by decide)
theorem af1 (hb : w.heap[b]? = some (.cells (lC 2 z 2 r) 47 (0, 0))) (hrow : Rd w z.1 2 1 (([5, 3] : List Int).flatMap (eI .i64))) (hcap : 2 ≤ z.2) : Sp Try.prog 12 [.pointer (some ⟨b, 0, none⟩), .int .i64 9] w [] fun V N => ∃ z' : Option Addr × Nat, V = .slice z'.1 2 z'.2 ∧ N = [rI [5, 3] z'] :=
  first_c b 2 r z [(5, sD), (3, sB)] 9 w hb hrow hcap (by decide)
theorem af2 (hb : w.heap[b]? = some (.cells (lC 2 z 2 r) 47 (0, 0))) (hrow : Rd w z.1 2 1 (([3, 9] : List Int).flatMap (eI .i64))) (hcap : 2 ≤ z.2) : Sp Try.prog 12 [.pointer (some ⟨b, 0, none⟩), .int .i64 1] w [] fun V N => ∃ z' : Option Addr × Nat, V = .slice z'.1 1 z'.2 ∧ N = [rI [3] z'] :=
  first_c b 2 r z [(3, sB), (9, sC)] 1 w hb hrow hcap (by decide)
theorem ag1 (hb : w.heap[b]? = some (.cells (lC 2 z 2 r) 47 (0, 0))) (hm : MapAt w r [(5, sD), (3, sB)]) : Sp Try.prog 9 [.pointer (some ⟨b, 0, none⟩), .int .i64 5] w [] fun V N => V = .tuple #[.string sD, .bool true] ∧ N = [] :=
  get_c b 2 r z 2 w hb [(5, sD), (3, sB)] hm 5
end

set_option maxHeartbeats 8000000 in
theorem awake_c (w : World) : Sp Try.prog 21 [] w [] fun v N => v = .bool true ∧ N = [] := by
  have x0 : (([5, 3] : List Int).flatMap (eI .i64))[0 * 1]? = some (.int .i64 5) := rfl
  have x1 : (([5, 3] : List Int).flatMap (eI .i64))[1 * 1]? = some (.int .i64 3) := rfl
  have x2 : (([3] : List Int).flatMap (eI .i64))[0 * 1]? = some (.int .i64 3) := rfl
  refine Sp.enter (n := 115) Try.func21 rfl rfl rfl (Hp.refl w) ?_
  repeat' (first
      | with_reducible refine T.seq ?_
      | with_reducible refine T.block ?_
      | with_reducible refine T.region ?_
      | with_reducible refine T.skip ?_
      | with_reducible refine T.scope ?_
      | with_reducible refine T.label ?_
      | with_reducible refine scopeQ_n ?_
      | with_reducible refine scopeQ_r ?_
      | with_reducible refine scopeQ_x ?_
      | with_reducible refine T.ret ?_
      | with_reducible refine T.exit ?_
      | with_reducible refine seqQ_n ?_
      | with_reducible refine seqQ_x ?_
      | with_reducible refine seqQ_r ?_
      | with_reducible refine blockQ_n ?_
      | with_reducible refine blockQ_r ?_
      | with_reducible refine blockQ_x ?_
      | ((with_reducible refine g_blkx ?_); refine blockQ_y rfl ?_)
      | with_reducible refine loopQ_x ?_
      | with_reducible refine loopQ_r ?_
      | with_reducible refine joinQ_r ?_
      | with_reducible refine joinQ_x ?_
      | ((with_reducible refine g_cond ?_); (first | refine T.cond_t rfl ?_ | refine T.cond_f rfl ?_ | (refine T.cond_s rfl ?_ ?_ <;> intro hc)))
      | with_reducible refine TL_nil ?_
      | with_reducible refine TS_nil ?_
      | ((with_reducible refine TL_y' ?hy ?hd ?_); (case hy => rfl); (case hd => rfl))
      | with_reducible refine TL_e ?_
      | ((with_reducible refine g_TL ?_); (first | refine TL_gy' rfl rfl rfl rfl ?_ | refine TL_gn rfl rfl rfl ?_ | refine TL_gu rfl rfl rfl ?_ | refine TL_ge rfl rfl ?_ | refine TL_gn0 rfl rfl ?_))
      | ((with_reducible refine g_TS ?_); (first | refine TS_y rfl rfl ?_ | refine TS_e rfl ?_ | refine TS_gy rfl rfl rfl rfl ?_ | refine TS_gn rfl rfl rfl rfl ?_ | refine TS_gu rfl rfl rfl rfl ?_ | refine TS_ge rfl rfl rfl ?_ | refine TS_gne rfl rfl rfl rfl ?_ | refine TS_gue rfl rfl rfl rfl ?_ | refine TS_gne0 rfl rfl rfl ?_))
      | ((with_reducible refine TSand ?hd ?_); (case hd => (repeat (first | exact List.nil_sublist _ | refine List.Sublist.cons_cons _ ?_ | refine List.Sublist.cons _ ?_))))
      | ((with_reducible refine TBand ?hd ?_); (case hd => (repeat (first | exact List.nil_sublist _ | refine List.Sublist.cons_cons _ ?_ | refine List.Sublist.cons _ ?_))))
      | ((with_reducible refine g_TB ?_); (first | with_reducible refine TB_run ?_ | refine TB_y rfl rfl ?_ | refine TB_b rfl rfl ?_ ?_ | refine TB_e rfl ?_))
      | ((with_reducible refine is_move ?_); refine ⟨_, Yl_move rfl, ?_⟩)
      | ((with_reducible refine is_assign ?_); refine ⟨_, Yl_assign rfl, ?_⟩)
      | ((with_reducible refine is_pick ?_); (first | refine ⟨_, Yl_pick_t rfl rfl, ?_⟩ | refine ⟨_, Yl_pick_f rfl rfl, ?_⟩))
      | ((with_reducible refine is_load ?_); (first
      | ((refine' ⟨_, Yl_load_blk rfl ?q1 ?q2 ?q3, ?_⟩); (case q1 => exact one_of rfl); (case q2 => (repeat (first | exact .head _ | apply List.Mem.tail))); (case q3 => rfl))
      | ((refine' ⟨_, Yl_loadA_blk rfl ?q1 ?q2, ?_⟩); (case q1 => (repeat (first | exact .head _ | apply List.Mem.tail))); (case q2 => exact agg_of rfl))
      | ((refine' ⟨_, Yl_load_blk rfl ?q1 ?q2 ?q3, ?_⟩); (case q1 => exact one_of rfl); (case q2 => (repeat (first | exact .head _ | apply List.Mem.tail))); (case q3 => assumption))
      | ((refine' ⟨_, Yl_load_rd rfl ?q1 ?q2 List.not_mem_nil ?q3, ?_⟩); (case q1 => exact one_of rfl); (case q2 => assumption); (case q3 => assumption))
      | ((refine' ⟨_, Yl_load_row rfl ?q1 ?q2 ?q3, ?_⟩); (case q1 => exact one_of rfl); (case q2 => (repeat (first | exact .head _ | apply List.Mem.tail))); (case q3 => assumption))
      | ((refine' ⟨_, Yl_loadA_rd rfl ?qa ?qb List.not_mem_nil ?ql ?qc, ?_⟩); (case qa => exact agg_of rfl); (case qb => assumption); (case qc => assumption); (case ql => rfl))
      | ((refine' ⟨_, Yl_loadA_row rfl ?qa ?qb ?ql ?qc, ?_⟩); (case qa => exact agg_of rfl); (case qb => (repeat (first | exact .head _ | apply List.Mem.tail))); (case qc => assumption); (case ql => rfl))))
      | ((with_reducible refine is_idx ?_); (first
      | ((refine' ⟨_, Yl_index_row (j := 1) rfl rfl ?q1 ?q2 ?q3 ?q4, ?_⟩); (case q1 => exact und_of rfl); (case q2 => exact siz_of rfl); (case q3 => decide); (case q4 => (repeat (first | exact .head _ | apply List.Mem.tail))))
      | ((refine' ⟨_, Yl_index rfl rfl ?q1 ?q2 ?q3 (Rd.some_ ?q4 ?q5), ?_⟩); (case q1 => exact und_of rfl); (case q2 => exact siz_of rfl); (case q3 => omega); (case q4 => assumption); (case q5 => omega))
      | ((refine' ⟨_, Yl_index_row rfl rfl ?q1 ?q2 ?q3 ?q4, ?_⟩); (case q1 => exact und_of rfl); (case q2 => exact siz_of rfl); (case q3 => omega); (case q4 => (repeat (first | exact .head _ | apply List.Mem.tail))))
      | ((refine' ⟨_, Yl_index rfl rfl ?q1 ?q2 ?q3 rfl, ?_⟩); (case q1 => exact und_of rfl); (case q2 => exact siz_of rfl); (case q3 => omega))
      | ((refine' ⟨_, Yl_index (j := 0) rfl rfl ?q1 ?q2 ?q3 (Rd.some_ ?q4 ?q5), ?_⟩); (case q1 => exact und_of rfl); (case q2 => exact siz_of rfl); (case q3 => omega); (case q4 => assumption); (case q5 => omega))
      | ((refine' ⟨_, Yl_index_row (j := 0) rfl rfl ?q1 ?q2 ?q3 ?q4, ?_⟩); (case q1 => exact und_of rfl); (case q2 => exact siz_of rfl); (case q3 => omega); (case q4 => (repeat (first | exact .head _ | apply List.Mem.tail))))
      | ((refine' ⟨_, Yl_indexI rfl rfl ?q1 ?q2 ?q3 ?q4 (Rd.some_ ?q5 ?q6), ?_⟩); (case q1 => exact und_of rfl); (case q2 => exact siz_of rfl); (case q3 => omega); (case q4 => omega); (case q5 => assumption); (case q6 => omega))))
      | ((with_reducible refine is_ext ?_); refine ⟨_, Yl_extract rfl rfl, ?_⟩)
      | ((with_reducible refine is_un ?_); refine ⟨_, Yl_not rfl, ?_⟩)
      | ((with_reducible refine is_len ?_); (first | ((refine' ⟨_, Yl_len_slice rfl ?q1, ?_⟩); (case q1 => exact und_of rfl)) | ((refine' ⟨_, Yl_len_string rfl ?q1, ?_⟩); (case q1 => exact und_of rfl))))
      | ((with_reducible refine is_b_eql ?_); (first | ((refine' ⟨_, Yl_eql_t rfl rfl ?q1, ?_⟩); (case q1 => omega)) | ((refine' ⟨_, Yl_eql_f rfl rfl ?q1, ?_⟩); (case q1 => omega)) | (refine sp_eql rfl rfl ?_ ?_ <;> intro hc)  | ((refine' ⟨_, Yl_eql_bool rfl rfl ?q1, ?_⟩); (case q1 => exact und_of rfl)) | ((refine' ⟨_, Yl_eql_strT rfl rfl ?q1, ?_⟩); (case q1 => first | assumption | rfl)) | ((refine' ⟨_, Yl_eql_strF rfl rfl ?q1, ?_⟩); (case q1 => first | assumption | decide)) | (refine sp_eqlS rfl rfl ?_ ?_ <;> intro hc)))
      | ((with_reducible refine is_b_neq ?_); (first | ((refine' ⟨_, Yl_neq_t rfl rfl ?q1, ?_⟩); (case q1 => omega)) | ((refine' ⟨_, Yl_neq_f rfl rfl ?q1, ?_⟩); (case q1 => omega)) | (refine sp_neq rfl rfl ?_ ?_ <;> intro hc)  | ((refine' ⟨_, Yl_neq_bool rfl rfl ?q1, ?_⟩); (case q1 => exact und_of rfl)) | ((refine' ⟨_, Yl_neq_strT rfl rfl ?q1, ?_⟩); (case q1 => first | assumption | decide)) | ((refine' ⟨_, Yl_neq_strF rfl rfl ?q1, ?_⟩); (case q1 => first | assumption | rfl)) | (refine sp_neqS rfl rfl ?_ ?_ <;> intro hc)))
      | ((with_reducible refine ie_callf ?_); (first
      | ((with_reducible refine g_call 15 ?_); (first | (refine Ef_callN rfl rfl ent_15 (fun w _ => texts_c 2 w) ?_; rintro ⟨b, r⟩)))
      | ((with_reducible refine g_call 11 ?_); (first
      | (refine Ef_callM [true, true, true] rfl rfl ent_11 rfl rfl rfl (fun w hp => ap1 b r _ w _ hp) ?_; (first | ((fail_if_success have := A9); rintro ⟨A9, c9⟩) | ((fail_if_success have := A8); rintro ⟨A8, c8⟩) | ((fail_if_success have := A7); rintro ⟨A7, c7⟩) | ((fail_if_success have := A6); rintro ⟨A6, c6⟩) | ((fail_if_success have := A5); rintro ⟨A5, c5⟩) | ((fail_if_success have := A4); rintro ⟨A4, c4⟩) | ((fail_if_success have := A3); rintro ⟨A3, c3⟩) | ((fail_if_success have := A2); rintro ⟨A2, c2⟩) | ((fail_if_success have := A1); rintro ⟨A1, c1⟩) | ((fail_if_success have := A0); rintro ⟨A0, c0⟩)))
      | (refine Ef_callM [true, true, true] rfl rfl ent_11 rfl rfl rfl (fun w hp => ap2 b r _ w _ hp) ?_; (first | ((fail_if_success have := A9); rintro ⟨A9, c9⟩) | ((fail_if_success have := A8); rintro ⟨A8, c8⟩) | ((fail_if_success have := A7); rintro ⟨A7, c7⟩) | ((fail_if_success have := A6); rintro ⟨A6, c6⟩) | ((fail_if_success have := A5); rintro ⟨A5, c5⟩) | ((fail_if_success have := A4); rintro ⟨A4, c4⟩) | ((fail_if_success have := A3); rintro ⟨A3, c3⟩) | ((fail_if_success have := A2); rintro ⟨A2, c2⟩) | ((fail_if_success have := A1); rintro ⟨A1, c1⟩) | ((fail_if_success have := A0); rintro ⟨A0, c0⟩)))
      | (refine Ef_callM [true, true, true] rfl rfl ent_11 rfl rfl rfl (fun w hp => ap3 b r _ w _ hp) ?_; (first | ((fail_if_success have := A9); rintro ⟨A9, c9⟩) | ((fail_if_success have := A8); rintro ⟨A8, c8⟩) | ((fail_if_success have := A7); rintro ⟨A7, c7⟩) | ((fail_if_success have := A6); rintro ⟨A6, c6⟩) | ((fail_if_success have := A5); rintro ⟨A5, c5⟩) | ((fail_if_success have := A4); rintro ⟨A4, c4⟩) | ((fail_if_success have := A3); rintro ⟨A3, c3⟩) | ((fail_if_success have := A2); rintro ⟨A2, c2⟩) | ((fail_if_success have := A1); rintro ⟨A1, c1⟩) | ((fail_if_success have := A0); rintro ⟨A0, c0⟩)))
      | (refine Ef_callM [true, true, true] rfl rfl ent_11 rfl rfl rfl (fun w hp => ap4 b r _ w _ hp) ?_; (first | ((fail_if_success have := A9); rintro ⟨A9, c9⟩) | ((fail_if_success have := A8); rintro ⟨A8, c8⟩) | ((fail_if_success have := A7); rintro ⟨A7, c7⟩) | ((fail_if_success have := A6); rintro ⟨A6, c6⟩) | ((fail_if_success have := A5); rintro ⟨A5, c5⟩) | ((fail_if_success have := A4); rintro ⟨A4, c4⟩) | ((fail_if_success have := A3); rintro ⟨A3, c3⟩) | ((fail_if_success have := A2); rintro ⟨A2, c2⟩) | ((fail_if_success have := A1); rintro ⟨A1, c1⟩) | ((fail_if_success have := A0); rintro ⟨A0, c0⟩)))
      | (refine Ef_callM [true, true, true] rfl rfl ent_11 rfl rfl rfl (fun w hp => ap5 b r _ w _ hp) ?_; (first | ((fail_if_success have := A9); rintro ⟨A9, c9⟩) | ((fail_if_success have := A8); rintro ⟨A8, c8⟩) | ((fail_if_success have := A7); rintro ⟨A7, c7⟩) | ((fail_if_success have := A6); rintro ⟨A6, c6⟩) | ((fail_if_success have := A5); rintro ⟨A5, c5⟩) | ((fail_if_success have := A4); rintro ⟨A4, c4⟩) | ((fail_if_success have := A3); rintro ⟨A3, c3⟩) | ((fail_if_success have := A2); rintro ⟨A2, c2⟩) | ((fail_if_success have := A1); rintro ⟨A1, c1⟩) | ((fail_if_success have := A0); rintro ⟨A0, c0⟩)))))
      | ((with_reducible refine g_call 10 ?_); (first
      | (refine Ef_callM [false, true, true, true] rfl rfl ent_10 rfl rfl rfl (fun w hp => awt1 b r _ w _ hp) ?_; (first | ((fail_if_success have := A9); rintro ⟨A9, c9⟩) | ((fail_if_success have := A8); rintro ⟨A8, c8⟩) | ((fail_if_success have := A7); rintro ⟨A7, c7⟩) | ((fail_if_success have := A6); rintro ⟨A6, c6⟩) | ((fail_if_success have := A5); rintro ⟨A5, c5⟩) | ((fail_if_success have := A4); rintro ⟨A4, c4⟩) | ((fail_if_success have := A3); rintro ⟨A3, c3⟩) | ((fail_if_success have := A2); rintro ⟨A2, c2⟩) | ((fail_if_success have := A1); rintro ⟨A1, c1⟩) | ((fail_if_success have := A0); rintro ⟨A0, c0⟩)))
      | (refine Ef_callM [true, true, true] rfl rfl ent_10 rfl rfl rfl (fun w hp => awt2 b r _ w _ hp) ?_; (first | ((fail_if_success have := A9); rintro ⟨A9, c9⟩) | ((fail_if_success have := A8); rintro ⟨A8, c8⟩) | ((fail_if_success have := A7); rintro ⟨A7, c7⟩) | ((fail_if_success have := A6); rintro ⟨A6, c6⟩) | ((fail_if_success have := A5); rintro ⟨A5, c5⟩) | ((fail_if_success have := A4); rintro ⟨A4, c4⟩) | ((fail_if_success have := A3); rintro ⟨A3, c3⟩) | ((fail_if_success have := A2); rintro ⟨A2, c2⟩) | ((fail_if_success have := A1); rintro ⟨A1, c1⟩) | ((fail_if_success have := A0); rintro ⟨A0, c0⟩)))))
      | ((with_reducible refine g_call 12 ?_); (first
      | (((refine' Ef_callN rfl rfl ent_12 (fun w hp => af1 b r _ w (hp.blkOf ?q1) (hp.rowOf ?q2) (hp.capOf ?q3)) ?_); (case q1 => (repeat (first | exact .head _ | apply List.Mem.tail))); (case q2 => (repeat (first | exact .head _ | apply List.Mem.tail))); (case q3 => (repeat (first | exact .head _ | apply List.Mem.tail)))); (first | ((fail_if_success have := A9); rintro ⟨A9, c9⟩) | ((fail_if_success have := A8); rintro ⟨A8, c8⟩) | ((fail_if_success have := A7); rintro ⟨A7, c7⟩) | ((fail_if_success have := A6); rintro ⟨A6, c6⟩) | ((fail_if_success have := A5); rintro ⟨A5, c5⟩) | ((fail_if_success have := A4); rintro ⟨A4, c4⟩) | ((fail_if_success have := A3); rintro ⟨A3, c3⟩) | ((fail_if_success have := A2); rintro ⟨A2, c2⟩) | ((fail_if_success have := A1); rintro ⟨A1, c1⟩) | ((fail_if_success have := A0); rintro ⟨A0, c0⟩)))
      | (((refine' Ef_callN rfl rfl ent_12 (fun w hp => af2 b r _ w (hp.blkOf ?q1) (hp.rowOf ?q2) (hp.capOf ?q3)) ?_); (case q1 => (repeat (first | exact .head _ | apply List.Mem.tail))); (case q2 => (repeat (first | exact .head _ | apply List.Mem.tail))); (case q3 => (repeat (first | exact .head _ | apply List.Mem.tail)))); (first | ((fail_if_success have := A9); rintro ⟨A9, c9⟩) | ((fail_if_success have := A8); rintro ⟨A8, c8⟩) | ((fail_if_success have := A7); rintro ⟨A7, c7⟩) | ((fail_if_success have := A6); rintro ⟨A6, c6⟩) | ((fail_if_success have := A5); rintro ⟨A5, c5⟩) | ((fail_if_success have := A4); rintro ⟨A4, c4⟩) | ((fail_if_success have := A3); rintro ⟨A3, c3⟩) | ((fail_if_success have := A2); rintro ⟨A2, c2⟩) | ((fail_if_success have := A1); rintro ⟨A1, c1⟩) | ((fail_if_success have := A0); rintro ⟨A0, c0⟩)))))
      | ((with_reducible refine g_call 9 ?_); (first | ((refine' Ef_callP rfl rfl ent_9 (fun w hp => ag1 b r _ w (hp.blkOf ?q1) (hp.mapOf ?q2)) ?_); (case q1 => (repeat (first | exact .head _ | apply List.Mem.tail))); (case q2 => (repeat (first | exact .head _ | apply List.Mem.tail))))))
      | ((with_reducible refine g_call 13 ?_); (first | ((refine' Ef_callP rfl rfl ent_13 (fun w hp => len_c b 2 r _ 2 w (hp.blkOf ?q1)) ?_); (case q1 => (repeat (first | exact .head _ | apply List.Mem.tail))))))
      | ((with_reducible refine g_call 14 ?_); (first | ((refine' Ef_callP rfl rfl ent_14 (fun w hp => full_c b 2 r _ 2 w (hp.blkOf ?q1) true ?q2) ?_); (case q1 => (repeat (first | exact .head _ | apply List.Mem.tail))); (case q2 => decide))))))
      | (fail; (first | ((fail_if_success have := b1); intro b1) | ((fail_if_success have := b2); intro b2) | ((fail_if_success have := b3); intro b3) | ((fail_if_success have := b4); intro b4) | ((fail_if_success have := b5); intro b5) | ((fail_if_success have := b6); intro b6) | ((fail_if_success have := b7); intro b7) | ((fail_if_success have := b8); intro b8) | ((fail_if_success have := b9); intro b9) | ((fail_if_success have := b10); intro b10) | ((fail_if_success have := b11); intro b11) | ((fail_if_success have := b12); intro b12)))
      | (fail; (first | ((fail_if_success have := A1); intro A1 c1) | ((fail_if_success have := A2); intro A2 c2) | ((fail_if_success have := A3); intro A3 c3) | ((fail_if_success have := A4); intro A4 c4) | ((fail_if_success have := A5); intro A5 c5) | ((fail_if_success have := A6); intro A6 c6) | ((fail_if_success have := A7); intro A7 c7)))
      | refine Ef_y rfl rfl ?_)
  exact ret_n [] (res1 rfl rfl) (List.nil_sublist _) ⟨rfl, rfl⟩
end Go.Proofs.Ytggbiklkigjegaa
