/- The chapter's rows: what a call comes to. -/
import Derived.Test.YtmiimnlboighmaaT6
namespace Go.Proofs.Ytmiimnlboighmaa
open Go.RowKit
set_option maxRecDepth 20000

theorem g_build (s : Int) (w : World) : (Instr.build 41 #[(2, .int .i64 s)]).run Try.prog w = .ok (.agg (gE (0, 0, s)).toArray) w := by kernel_rfl

section
variable (b : Nat) (w : World)
theorem aw1 (hr : Rd w (some ⟨b, 0, none⟩) 2 1 ([3, 7].flatMap (eI .i64))) : Sp Try.prog 9 [.slice (some ⟨b, 0, none⟩) 2 2, .int .i64 5] w [] fun v N => ∃ z : Option Addr × Nat, v = .tuple #[.slice z.1 3 z.2, .int .i64 0] ∧ N = [rO [3, 5, 7] z] := by
  have := add_c _ 2 2 [3, 7] 5 w hr rfl (by decide)
  rwa [show Rv.add [3, 7] 5 = ([3, 5, 7], 0) by decide +kernel] at this
theorem aw2 (hr : Rd w (some ⟨b, 0, none⟩) 2 1 ([3, 7].flatMap (eI .i64))) : Sp Try.prog 9 [.slice (some ⟨b, 0, none⟩) 2 2, .int .i64 7] w [] fun v N => ∃ z : Option Addr × Nat, v = .tuple #[.slice z.1 2 z.2, .int .i64 0] ∧ N = [rO [3, 7] z] := by
  have := add_c _ 2 2 [3, 7] 7 w hr rfl (by decide)
  rwa [show Rv.add [3, 7] 7 = ([3, 7], 0) by decide +kernel] at this
theorem aw3 (hr : Rd w (some ⟨b, 0, none⟩) 2 1 ([3, 7].flatMap (eI .i64))) : Sp Try.prog 9 [.slice (some ⟨b, 0, none⟩) 2 2, .int .i64 0] w [] fun v N => ∃ z : Option Addr × Nat, v = .tuple #[.slice z.1 0 z.2, .int .i64 2] ∧ N = [rO [] z] := by
  have := add_c _ 2 2 [3, 7] 0 w hr rfl (by decide)
  rwa [show Rv.add [3, 7] 0 = ([], 2) by decide +kernel] at this
theorem aw4 (hr : Rd w (some ⟨b, 0, none⟩) 2 1 ([7, 3].flatMap (eI .i64))) : Sp Try.prog 9 [.slice (some ⟨b, 0, none⟩) 2 2, .int .i64 5] w [] fun v N => ∃ z : Option Addr × Nat, v = .tuple #[.slice z.1 0 z.2, .int .i64 2] ∧ N = [rO [] z] := by
  have := add_c _ 2 2 [7, 3] 5 w hr rfl (by decide)
  rwa [show Rv.add [7, 3] 5 = ([], 2) by decide +kernel] at this
theorem aw5 (d : Nat) (hr : Rd w (some ⟨b, 0, none⟩) 2 1 ([3, 7].flatMap (eI .i64))) (hg : Rd w (some ⟨d, 0, none⟩) 2 3 ([(0, 0, 1), (0, 0, 7)].flatMap gE)) :
    Sp Try.prog 17 [.slice (some ⟨b, 0, none⟩) 2 2, .slice (some ⟨d, 0, none⟩) 2 2] w [] fun v N => v = .bool true ∧ N = [] := by
  have := any_c _ 2 2 [3, 7] _ 2 2 [(0, 0, 1), (0, 0, 7)] w hr rfl (by decide) hg rfl (by decide)
  rwa [show (List.any [((0 : Int), (0 : Int), (1 : Int)), (0, 0, 7)] fun g => decide (g.2.2 ∈ [(3 : Int), 7])) = true by decide] at this
theorem aw6 (d : Nat) (hr : Rd w (some ⟨b, 0, none⟩) 2 1 ([3, 7].flatMap (eI .i64))) (hg : Rd w (some ⟨d, 0, none⟩) 2 3 ([(0, 0, 1), (0, 0, 2)].flatMap gE)) :
    Sp Try.prog 17 [.slice (some ⟨b, 0, none⟩) 2 2, .slice (some ⟨d, 0, none⟩) 2 2] w [] fun v N => v = .bool false ∧ N = [] := by
  have := any_c _ 2 2 [3, 7] _ 2 2 [(0, 0, 1), (0, 0, 2)] w hr rfl (by decide) hg rfl (by decide)
  rwa [show (List.any [((0 : Int), (0 : Int), (1 : Int)), (0, 0, 2)] fun g => decide (g.2.2 ∈ [(3 : Int), 7])) = false by decide] at this
end

set_option maxHeartbeats 4000000 in
theorem awake_c (w : World) : Sp Try.prog 14 [] w [] fun v N => v = .bool true ∧ N = [] := by
  refine Sp.enter (n := 62) Try.func14 rfl rfl rfl (Hp.refl w) ?_
  repeat' (first
      | with_reducible refine T.seq ?_
      | with_reducible refine T.block ?_
      | with_reducible refine T.region ?_
      | with_reducible refine T.skip ?_
      | with_reducible refine T.scope ?_
      | with_reducible refine T.label ?_
      | with_reducible refine scopeQ_n ?_
      | with_reducible refine scopeQ_r ?_
      | with_reducible refine scopeQ_x ?_
      | with_reducible refine T.ret ?_
      | with_reducible refine T.exit ?_
      | with_reducible refine seqQ_n ?_
      | with_reducible refine seqQ_x ?_
      | with_reducible refine seqQ_r ?_
      | with_reducible refine blockQ_n ?_
      | with_reducible refine blockQ_r ?_
      | with_reducible refine blockQ_x ?_
      | ((with_reducible refine g_blkx ?_); refine blockQ_y rfl ?_)
      | with_reducible refine loopQ_x ?_
      | with_reducible refine loopQ_r ?_
      | with_reducible refine joinQ_r ?_
      | with_reducible refine joinQ_x ?_
      | ((with_reducible refine g_cond ?_); (first | refine T.cond_t rfl ?_ | refine T.cond_f rfl ?_ | (refine T.cond_s rfl ?_ ?_ <;> intro hc)))
      | with_reducible refine TL_nil ?_
      | with_reducible refine TS_nil ?_
      | ((with_reducible refine TL_y' ?hy ?hd ?_); (case hy => rfl); (case hd => rfl))
      | with_reducible refine TL_e ?_
      | ((with_reducible refine g_TL ?_); (first | refine TL_gy' rfl rfl rfl rfl ?_ | refine TL_gn rfl rfl rfl ?_ | refine TL_gu rfl rfl rfl ?_ | refine TL_ge rfl rfl ?_ | refine TL_gn0 rfl rfl ?_))
      | ((with_reducible refine g_TS ?_); (first | refine TS_y rfl rfl ?_ | refine TS_e rfl ?_ | refine TS_gy rfl rfl rfl rfl ?_ | refine TS_gn rfl rfl rfl rfl ?_ | refine TS_gu rfl rfl rfl rfl ?_ | refine TS_ge rfl rfl rfl ?_ | refine TS_gne rfl rfl rfl rfl ?_ | refine TS_gue rfl rfl rfl rfl ?_ | refine TS_gne0 rfl rfl rfl ?_))
      | ((with_reducible refine TSand ?hd ?_); (case hd => (repeat (first | exact List.nil_sublist _ | refine List.Sublist.cons_cons _ ?_ | refine List.Sublist.cons _ ?_))))
      | ((with_reducible refine TBand ?hd ?_); (case hd => (repeat (first | exact List.nil_sublist _ | refine List.Sublist.cons_cons _ ?_ | refine List.Sublist.cons _ ?_))))
      | ((with_reducible refine g_TB ?_); (first | with_reducible refine TB_run ?_ | refine TB_y rfl rfl ?_ | refine TB_b rfl rfl ?_ ?_ | refine TB_e rfl ?_))
      | ((with_reducible refine is_move ?_); refine ⟨_, Yl_move rfl, ?_⟩)
      | ((with_reducible refine is_assign ?_); refine ⟨_, Yl_assign rfl, ?_⟩)
      | ((with_reducible refine is_pick ?_); (first | refine ⟨_, Yl_pick_t rfl rfl, ?_⟩ | refine ⟨_, Yl_pick_f rfl rfl, ?_⟩))
      | ((with_reducible refine is_ext ?_); refine ⟨_, Yl_extract rfl rfl, ?_⟩)
      | ((with_reducible refine is_un ?_); refine ⟨_, Yl_not rfl, ?_⟩)
      | ((with_reducible refine is_b_eql ?_); (first | ((refine' ⟨_, Yl_eql_t rfl rfl ?q1, ?_⟩); (case q1 => omega)) | ((refine' ⟨_, Yl_eql_f rfl rfl ?q1, ?_⟩); (case q1 => omega)) | (refine sp_eql rfl rfl ?_ ?_ <;> intro hc)  | ((refine' ⟨_, Yl_eql_bool rfl rfl ?q1, ?_⟩); (case q1 => exact und_of rfl)) | ((refine' ⟨_, Yl_eql_strT rfl rfl ?q1, ?_⟩); (case q1 => first | assumption | rfl)) | ((refine' ⟨_, Yl_eql_strF rfl rfl ?q1, ?_⟩); (case q1 => first | assumption | decide)) | (refine sp_eqlS rfl rfl ?_ ?_ <;> intro hc)))
      | ((with_reducible refine is_build ?_); (first | refine ⟨_, Yl_build rfl (g_build _), ?_⟩))
      | ((with_reducible refine ie_callf ?_); (first
      | ((with_reducible refine g_call 9 ?_); (first
      | (((refine' Ef_callN rfl rfl ent_9 (fun w hp => aw1 _ w (hp.rowOf ?q1)) ?_); (case q1 => (repeat (first | exact .head _ | apply List.Mem.tail)))); (first | ((fail_if_success have := A9); rintro ⟨A9, c9⟩) | ((fail_if_success have := A8); rintro ⟨A8, c8⟩) | ((fail_if_success have := A7); rintro ⟨A7, c7⟩) | ((fail_if_success have := A6); rintro ⟨A6, c6⟩)))
      | (((refine' Ef_callN rfl rfl ent_9 (fun w hp => aw2 _ w (hp.rowOf ?q1)) ?_); (case q1 => (repeat (first | exact .head _ | apply List.Mem.tail)))); (first | ((fail_if_success have := A9); rintro ⟨A9, c9⟩) | ((fail_if_success have := A8); rintro ⟨A8, c8⟩) | ((fail_if_success have := A7); rintro ⟨A7, c7⟩) | ((fail_if_success have := A6); rintro ⟨A6, c6⟩)))
      | (((refine' Ef_callN rfl rfl ent_9 (fun w hp => aw3 _ w (hp.rowOf ?q1)) ?_); (case q1 => (repeat (first | exact .head _ | apply List.Mem.tail)))); (first | ((fail_if_success have := A9); rintro ⟨A9, c9⟩) | ((fail_if_success have := A8); rintro ⟨A8, c8⟩) | ((fail_if_success have := A7); rintro ⟨A7, c7⟩) | ((fail_if_success have := A6); rintro ⟨A6, c6⟩)))
      | (((refine' Ef_callN rfl rfl ent_9 (fun w hp => aw4 _ w (hp.rowOf ?q1)) ?_); (case q1 => (repeat (first | exact .head _ | apply List.Mem.tail)))); (first | ((fail_if_success have := A9); rintro ⟨A9, c9⟩) | ((fail_if_success have := A8); rintro ⟨A8, c8⟩) | ((fail_if_success have := A7); rintro ⟨A7, c7⟩) | ((fail_if_success have := A6); rintro ⟨A6, c6⟩)))))
      | ((with_reducible refine g_call 21 ?_); (first | ((refine' Ef_callP rfl rfl ent_21 (fun w hp => is_v _ 3 _ [3, 5, 7] _ 3 3 [3, 5, 7] 0 true w (hp.rowOf ?q1) (hp.rowOf ?q2) rfl rfl ?q3 ?q4) ?_); (case q1 => (repeat (first | exact .head _ | apply List.Mem.tail))); (case q2 => (repeat (first | exact .head _ | apply List.Mem.tail))); (case q3 => decide); (case q4 => decide)) | ((refine' Ef_callP rfl rfl ent_21 (fun w hp => is_v _ 2 _ [3, 7] _ 2 2 [3, 7] 0 true w (hp.rowOf ?q1) (hp.rowOf ?q2) rfl rfl ?q3 ?q4) ?_); (case q1 => (repeat (first | exact .head _ | apply List.Mem.tail))); (case q2 => (repeat (first | exact .head _ | apply List.Mem.tail))); (case q3 => decide); (case q4 => decide))))
      | ((with_reducible refine g_call 17 ?_); (first | ((refine' Ef_callP rfl rfl ent_17 (fun w hp => aw5 _ w _ (hp.rowOf ?q1) (hp.rowOf ?q2)) ?_); (case q1 => (repeat (first | exact .head _ | apply List.Mem.tail))); (case q2 => (repeat (first | exact .head _ | apply List.Mem.tail)))) | ((refine' Ef_callP rfl rfl ent_17 (fun w hp => aw6 _ w _ (hp.rowOf ?q1) (hp.rowOf ?q2)) ?_); (case q1 => (repeat (first | exact .head _ | apply List.Mem.tail))); (case q2 => (repeat (first | exact .head _ | apply List.Mem.tail))))))))
      | (first
      | (((refine' Ef_bsl (vs := [.int .i64 3, .int .i64 7]) (xs := [3, 7].flatMap (eI .i64)) rfl ?q1 rfl rfl ?q2 ?q3 ?q4 rfl ?_); (case q1 => exact app_of rfl); (case q2 => (intro u hu; rcases hu with _ | ⟨_, _ | ⟨_, _ | ⟨_, _ | ⟨_, hu⟩⟩⟩⟩ <;> first | rfl | (cases hu; done))); (case q3 => decide); (case q4 => decide)); (first | ((fail_if_success have := b1); intro b1) | ((fail_if_success have := b2); intro b2) | ((fail_if_success have := b3); intro b3) | ((fail_if_success have := b4); intro b4) | ((fail_if_success have := b5); intro b5) | ((fail_if_success have := b6); intro b6) | ((fail_if_success have := b7); intro b7) | ((fail_if_success have := b8); intro b8) | ((fail_if_success have := b9); intro b9) | ((fail_if_success have := b10); intro b10) | ((fail_if_success have := b11); intro b11) | ((fail_if_success have := b12); intro b12)))
      | (((refine' Ef_bsl (vs := [.int .i64 7, .int .i64 3]) (xs := [7, 3].flatMap (eI .i64)) rfl ?q1 rfl rfl ?q2 ?q3 ?q4 rfl ?_); (case q1 => exact app_of rfl); (case q2 => (intro u hu; rcases hu with _ | ⟨_, _ | ⟨_, _ | ⟨_, _ | ⟨_, hu⟩⟩⟩⟩ <;> first | rfl | (cases hu; done))); (case q3 => decide); (case q4 => decide)); (first | ((fail_if_success have := b1); intro b1) | ((fail_if_success have := b2); intro b2) | ((fail_if_success have := b3); intro b3) | ((fail_if_success have := b4); intro b4) | ((fail_if_success have := b5); intro b5) | ((fail_if_success have := b6); intro b6) | ((fail_if_success have := b7); intro b7) | ((fail_if_success have := b8); intro b8) | ((fail_if_success have := b9); intro b9) | ((fail_if_success have := b10); intro b10) | ((fail_if_success have := b11); intro b11) | ((fail_if_success have := b12); intro b12)))
      | (((refine' Ef_bsl (vs := [.int .i64 3, .int .i64 5, .int .i64 7]) (xs := [3, 5, 7].flatMap (eI .i64)) rfl ?q1 rfl rfl ?q2 ?q3 ?q4 rfl ?_); (case q1 => exact app_of rfl); (case q2 => (intro u hu; rcases hu with _ | ⟨_, _ | ⟨_, _ | ⟨_, _ | ⟨_, hu⟩⟩⟩⟩ <;> first | rfl | (cases hu; done))); (case q3 => decide); (case q4 => decide)); (first | ((fail_if_success have := b1); intro b1) | ((fail_if_success have := b2); intro b2) | ((fail_if_success have := b3); intro b3) | ((fail_if_success have := b4); intro b4) | ((fail_if_success have := b5); intro b5) | ((fail_if_success have := b6); intro b6) | ((fail_if_success have := b7); intro b7) | ((fail_if_success have := b8); intro b8) | ((fail_if_success have := b9); intro b9) | ((fail_if_success have := b10); intro b10) | ((fail_if_success have := b11); intro b11) | ((fail_if_success have := b12); intro b12)))
      | (((refine' Ef_bsl (vs := [.agg (gE (0, 0, 1)).toArray, .agg (gE (0, 0, 7)).toArray]) (xs := [(0, 0, 1), (0, 0, 7)].flatMap gE) rfl ?q1 rfl rfl ?q2 ?q3 ?q4 rfl ?_); (case q1 => exact app_of rfl); (case q2 => (intro u hu; rcases hu with _ | ⟨_, _ | ⟨_, _ | ⟨_, _ | ⟨_, hu⟩⟩⟩⟩ <;> first | rfl | (cases hu; done))); (case q3 => decide); (case q4 => decide)); (first | ((fail_if_success have := b1); intro b1) | ((fail_if_success have := b2); intro b2) | ((fail_if_success have := b3); intro b3) | ((fail_if_success have := b4); intro b4) | ((fail_if_success have := b5); intro b5) | ((fail_if_success have := b6); intro b6) | ((fail_if_success have := b7); intro b7) | ((fail_if_success have := b8); intro b8) | ((fail_if_success have := b9); intro b9) | ((fail_if_success have := b10); intro b10) | ((fail_if_success have := b11); intro b11) | ((fail_if_success have := b12); intro b12)))
      | (((refine' Ef_bsl (vs := [.agg (gE (0, 0, 1)).toArray, .agg (gE (0, 0, 2)).toArray]) (xs := [(0, 0, 1), (0, 0, 2)].flatMap gE) rfl ?q1 rfl rfl ?q2 ?q3 ?q4 rfl ?_); (case q1 => exact app_of rfl); (case q2 => (intro u hu; rcases hu with _ | ⟨_, _ | ⟨_, _ | ⟨_, _ | ⟨_, hu⟩⟩⟩⟩ <;> first | rfl | (cases hu; done))); (case q3 => decide); (case q4 => decide)); (first | ((fail_if_success have := b1); intro b1) | ((fail_if_success have := b2); intro b2) | ((fail_if_success have := b3); intro b3) | ((fail_if_success have := b4); intro b4) | ((fail_if_success have := b5); intro b5) | ((fail_if_success have := b6); intro b6) | ((fail_if_success have := b7); intro b7) | ((fail_if_success have := b8); intro b8) | ((fail_if_success have := b9); intro b9) | ((fail_if_success have := b10); intro b10) | ((fail_if_success have := b11); intro b11) | ((fail_if_success have := b12); intro b12))))
      | ((first   | ((with_reducible refine ie_bsl ?_); (first | ((refine' Ef_bsl0 rfl ?q1 ?_); (case q1 => exact app_of rfl)) | ((refine' Ef_bslA rfl rfl ?q1 ?q2 ?q3 ?_); (case q1 => exact app_of rfl); (case q2 => rfl); (case q3 => decide)) | ((refine' Ef_bsl1 rfl rfl rfl ?q1 ?_); (case q1 => exact app_of rfl))))); (first | ((fail_if_success have := b1); intro b1) | ((fail_if_success have := b2); intro b2) | ((fail_if_success have := b3); intro b3) | ((fail_if_success have := b4); intro b4) | ((fail_if_success have := b5); intro b5) | ((fail_if_success have := b6); intro b6) | ((fail_if_success have := b7); intro b7) | ((fail_if_success have := b8); intro b8) | ((fail_if_success have := b9); intro b9) | ((fail_if_success have := b10); intro b10) | ((fail_if_success have := b11); intro b11) | ((fail_if_success have := b12); intro b12)))
      | (fail; (first | ((fail_if_success have := A1); intro A1 c1) | ((fail_if_success have := A2); intro A2 c2) | ((fail_if_success have := A3); intro A3 c3) | ((fail_if_success have := A4); intro A4 c4) | ((fail_if_success have := A5); intro A5 c5) | ((fail_if_success have := A6); intro A6 c6) | ((fail_if_success have := A7); intro A7 c7)))
      | refine Ef_y rfl rfl ?_)
  exact ret_n [] (res1 rfl rfl) (List.nil_sublist _) ⟨rfl, rfl⟩
end Go.Proofs.Ytmiimnlboighmaa
