/- The chapter's rows: what a call comes to. -/
import Derived.Test.YtjcgahlpfnclkaaT7
namespace Go.Proofs.Ytjcgahlpfnclkaa
open Go.RowKit
set_option maxRecDepth 20000

theorem s_build2 (a b : Int) (w : World) : (Instr.build 27 #[(0, .int .i64 a), (1, .int .i64 b)]).run Try.prog w = .ok (.agg (sE (a, b, 0)).toArray) w := by kernel_rfl
theorem s_build1 (a : Int) (w : World) : (Instr.build 27 #[(0, .int .i64 a)]).run Try.prog w = .ok (.agg (sE (a, 0, 0)).toArray) w := by kernel_rfl

theorem aw1 (w : World) : Sp Try.prog 13 [.slice none 0 0, .agg (sE (1, 40, 100)).toArray] w [] fun v N => ∃ z : Option Addr × Nat, v = .tuple #[.slice z.1 1 z.2, .int .i64 0] ∧ N = [rS [(1, 40, 100)] z] := by
  have := reserve_c none 0 0 [] (1, 40, 100) w Rd.nil rfl
  rwa [show Qt.reserve [] (1, 40, 100) = ([(1, 40, 100)], 0) by decide +kernel] at this
section
variable (A : Option Addr) (c : Nat) (w : World) (hr : Rd w A 1 3 (([(1, 40, 100)] : List S).flatMap sE))
include hr
theorem aw2 : Sp Try.prog 13 [.slice A 1 c, .agg (sE (2, 30, 0)).toArray] w [] fun v N => ∃ z : Option Addr × Nat, v = .tuple #[.slice z.1 0 z.2, .int .i64 120] ∧ N = [rS [] z] := by
  have := reserve_c A 1 c [(1, 40, 100)] (2, 30, 0) w hr rfl
  rwa [show Qt.reserve [(1, 40, 100)] (2, 30, 0) = ([], 120) by decide +kernel] at this
theorem aw3 : Sp Try.prog 13 [.slice A 1 c, .agg (sE (2, 24, 0)).toArray] w [] fun v N => ∃ z : Option Addr × Nat, v = .tuple #[.slice z.1 2 z.2, .int .i64 0] ∧ N = [rS [(1, 40, 100), (2, 24, 0)] z] := by
  have := reserve_c A 1 c [(1, 40, 100)] (2, 24, 0) w hr rfl
  rwa [show Qt.reserve [(1, 40, 100)] (2, 24, 0) = ([(1, 40, 100), (2, 24, 0)], 0) by decide +kernel] at this
theorem aw4 : Sp Try.prog 13 [.slice A 1 c, .agg (sE (1, 1, 1)).toArray] w [] fun v N => ∃ z : Option Addr × Nat, v = .tuple #[.slice z.1 0 z.2, .int .i64 161] ∧ N = [rS [] z] := by
  have := reserve_c A 1 c [(1, 40, 100)] (1, 1, 1) w hr rfl
  rwa [show Qt.reserve [(1, 40, 100)] (1, 1, 1) = ([], 161) by decide +kernel] at this
theorem aw5 : Sp Try.prog 13 [.slice A 1 c, .agg (sE (9, 0, 0)).toArray] w [] fun v N => ∃ z : Option Addr × Nat, v = .tuple #[.slice z.1 0 z.2, .int .i64 2] ∧ N = [rS [] z] := by
  have := reserve_c A 1 c [(1, 40, 100)] (9, 0, 0) w hr rfl
  rwa [show Qt.reserve [(1, 40, 100)] (9, 0, 0) = ([], 2) by decide +kernel] at this
theorem aw6 : Sp Try.prog 14 [.slice A 1 c, .agg (sE (1, 10, 4096)).toArray] w [] fun v N => ∃ z : Option Addr × Nat, v = .tuple #[.slice z.1 1 z.2, .int .i64 0] ∧ N = [rS [(1, 10, 4096)] z] := by
  have := resize_c A 1 c [(1, 40, 100)] (1, 10, 4096) w hr rfl
  rwa [show Qt.resize [(1, 40, 100)] (1, 10, 4096) = ([(1, 10, 4096)], 0) by decide +kernel] at this
theorem aw7 : Sp Try.prog 14 [.slice A 1 c, .agg (sE (3, 1, 1)).toArray] w [] fun v N => ∃ z : Option Addr × Nat, v = .tuple #[.slice z.1 0 z.2, .int .i64 160] ∧ N = [rS [] z] := by
  have := resize_c A 1 c [(1, 40, 100)] (3, 1, 1) w hr rfl
  rwa [show Qt.resize [(1, 40, 100)] (3, 1, 1) = ([], 160) by decide +kernel] at this
end
theorem aw8 (A : Option Addr) (c : Nat) (w : World) (hr : Rd w A 2 3 (([(1, 40, 100), (2, 24, 0)] : List S).flatMap sE)) : Sp Try.prog 12 [.slice A 2 c] w [] fun v N => v = .tuple #[.int .i64 0, .int .i64 3996] ∧ N = [] := by
  have := left_c A 2 c [(1, 40, 100), (2, 24, 0)] w hr rfl
  rwa [show Qt.left [(1, 40, 100), (2, 24, 0)] = (0, 3996) by decide +kernel] at this

set_option maxHeartbeats 4000000 in
theorem awake_c (w : World) : Sp Try.prog 11 [] w [] fun v N => v = .bool true ∧ N = [] := by
  refine Sp.enter (n := 97) Try.func11 rfl rfl rfl (Hp.refl w) ?_
  repeat' (first
      | with_reducible refine T.seq ?_
      | with_reducible refine T.block ?_
      | with_reducible refine T.region ?_
      | with_reducible refine T.skip ?_
      | with_reducible refine T.scope ?_
      | with_reducible refine T.label ?_
      | with_reducible refine scopeQ_n ?_
      | with_reducible refine scopeQ_r ?_
      | with_reducible refine scopeQ_x ?_
      | with_reducible refine T.ret ?_
      | with_reducible refine T.exit ?_
      | with_reducible refine seqQ_n ?_
      | with_reducible refine seqQ_x ?_
      | with_reducible refine seqQ_r ?_
      | with_reducible refine blockQ_n ?_
      | with_reducible refine blockQ_r ?_
      | with_reducible refine blockQ_x ?_
      | ((with_reducible refine g_blkx ?_); refine blockQ_y rfl ?_)
      | with_reducible refine loopQ_x ?_
      | with_reducible refine loopQ_r ?_
      | with_reducible refine joinQ_r ?_
      | with_reducible refine joinQ_x ?_
      | ((with_reducible refine g_cond ?_); (first | refine T.cond_t rfl ?_ | refine T.cond_f rfl ?_ | (refine T.cond_s rfl ?_ ?_ <;> intro hc)))
      | with_reducible refine TL_nil ?_
      | with_reducible refine TS_nil ?_
      | ((with_reducible refine TL_y' ?hy ?hd ?_); (case hy => rfl); (case hd => rfl))
      | with_reducible refine TL_e ?_
      | ((with_reducible refine g_TL ?_); (first | refine TL_gy' rfl rfl rfl rfl ?_ | refine TL_gn rfl rfl rfl ?_ | refine TL_gu rfl rfl rfl ?_ | refine TL_ge rfl rfl ?_ | refine TL_gn0 rfl rfl ?_))
      | ((with_reducible refine g_TS ?_); (first | refine TS_y rfl rfl ?_ | refine TS_e rfl ?_ | refine TS_gy rfl rfl rfl rfl ?_ | refine TS_gn rfl rfl rfl rfl ?_ | refine TS_gu rfl rfl rfl rfl ?_ | refine TS_ge rfl rfl rfl ?_ | refine TS_gne rfl rfl rfl rfl ?_ | refine TS_gue rfl rfl rfl rfl ?_ | refine TS_gne0 rfl rfl rfl ?_))
      | ((with_reducible refine TSand ?hd ?_); (case hd => (repeat (first | exact List.nil_sublist _ | refine List.Sublist.cons_cons _ ?_ | refine List.Sublist.cons _ ?_))))
      | ((with_reducible refine TBand ?hd ?_); (case hd => (repeat (first | exact List.nil_sublist _ | refine List.Sublist.cons_cons _ ?_ | refine List.Sublist.cons _ ?_))))
      | ((with_reducible refine g_TB ?_); (first | with_reducible refine TB_run ?_ | refine TB_y rfl rfl ?_ | refine TB_b rfl rfl ?_ ?_ | refine TB_e rfl ?_))
      | ((with_reducible refine is_move ?_); refine ⟨_, Yl_move rfl, ?_⟩)
      | ((with_reducible refine is_assign ?_); refine ⟨_, Yl_assign rfl, ?_⟩)
      | ((with_reducible refine is_pick ?_); (first | refine ⟨_, Yl_pick_t rfl rfl, ?_⟩ | refine ⟨_, Yl_pick_f rfl rfl, ?_⟩))
      | ((with_reducible refine is_ext ?_); refine ⟨_, Yl_extract rfl rfl, ?_⟩)
      | ((with_reducible refine is_b_eql ?_); (first | ((refine' ⟨_, Yl_eql_t rfl rfl ?q1, ?_⟩); (case q1 => omega)) | ((refine' ⟨_, Yl_eql_f rfl rfl ?q1, ?_⟩); (case q1 => omega)) | (refine sp_eql rfl rfl ?_ ?_ <;> intro hc)  | ((refine' ⟨_, Yl_eql_bool rfl rfl ?q1, ?_⟩); (case q1 => exact und_of rfl)) | ((refine' ⟨_, Yl_eql_strT rfl rfl ?q1, ?_⟩); (case q1 => first | assumption | rfl)) | ((refine' ⟨_, Yl_eql_strF rfl rfl ?q1, ?_⟩); (case q1 => first | assumption | decide)) | (refine sp_eqlS rfl rfl ?_ ?_ <;> intro hc)))
      | ((with_reducible refine is_slice ?_); (first | ((refine' ⟨_, Yl_sl_l rfl rfl ?q1 ?q2 ?q3, ?_⟩); (case q1 => exact und_of rfl); (case q2 => exact siz_of rfl); (case q3 => omega)) | ((refine' ⟨_, Yl_sl_h rfl rfl ?q1 ?q2 ?q3, ?_⟩); (case q1 => exact und_of rfl); (case q2 => exact siz_of rfl); (case q3 => omega)) | ((refine' ⟨_, Yl_sl_lh rfl rfl rfl ?q1 ?q2 ?q3 ?q4, ?_⟩); (case q1 => exact und_of rfl); (case q2 => exact siz_of rfl); (case q3 => omega); (case q4 => omega)) | ((refine' ⟨_, Yl_sl_hm rfl rfl rfl ?q1 ?q2 ?q3 ?q4, ?_⟩); (case q1 => exact und_of rfl); (case q2 => exact siz_of rfl); (case q3 => omega); (case q4 => omega))))
      | ((with_reducible refine is_build ?_); (first | refine ⟨_, Yl_build rfl (s_build _ _ _), ?_⟩ | refine ⟨_, Yl_build rfl (s_build2 _ _), ?_⟩ | refine ⟨_, Yl_build rfl (s_build1 _), ?_⟩))
      | ((with_reducible refine ie_callf ?_); (first
      | ((with_reducible refine g_call 13 ?_); (first
      | (refine Ef_callN rfl rfl ent_13 (fun w hp => aw1 w) ?_; (first | ((fail_if_success have := A9); rintro ⟨A9, c9⟩) | ((fail_if_success have := A8); rintro ⟨A8, c8⟩) | ((fail_if_success have := A7); rintro ⟨A7, c7⟩) | ((fail_if_success have := A6); rintro ⟨A6, c6⟩) | ((fail_if_success have := A5); rintro ⟨A5, c5⟩) | ((fail_if_success have := A4); rintro ⟨A4, c4⟩) | ((fail_if_success have := A3); rintro ⟨A3, c3⟩)))
      | (((refine' Ef_callN rfl rfl ent_13 (fun w hp => aw2 _ _ w (hp.rowOf ?q1)) ?_); (case q1 => (repeat (first | exact .head _ | apply List.Mem.tail)))); (first | ((fail_if_success have := A9); rintro ⟨A9, c9⟩) | ((fail_if_success have := A8); rintro ⟨A8, c8⟩) | ((fail_if_success have := A7); rintro ⟨A7, c7⟩) | ((fail_if_success have := A6); rintro ⟨A6, c6⟩) | ((fail_if_success have := A5); rintro ⟨A5, c5⟩) | ((fail_if_success have := A4); rintro ⟨A4, c4⟩) | ((fail_if_success have := A3); rintro ⟨A3, c3⟩)))
      | (((refine' Ef_callN rfl rfl ent_13 (fun w hp => aw3 _ _ w (hp.rowOf ?q1)) ?_); (case q1 => (repeat (first | exact .head _ | apply List.Mem.tail)))); (first | ((fail_if_success have := A9); rintro ⟨A9, c9⟩) | ((fail_if_success have := A8); rintro ⟨A8, c8⟩) | ((fail_if_success have := A7); rintro ⟨A7, c7⟩) | ((fail_if_success have := A6); rintro ⟨A6, c6⟩) | ((fail_if_success have := A5); rintro ⟨A5, c5⟩) | ((fail_if_success have := A4); rintro ⟨A4, c4⟩) | ((fail_if_success have := A3); rintro ⟨A3, c3⟩)))
      | (((refine' Ef_callN rfl rfl ent_13 (fun w hp => aw4 _ _ w (hp.rowOf ?q1)) ?_); (case q1 => (repeat (first | exact .head _ | apply List.Mem.tail)))); (first | ((fail_if_success have := A9); rintro ⟨A9, c9⟩) | ((fail_if_success have := A8); rintro ⟨A8, c8⟩) | ((fail_if_success have := A7); rintro ⟨A7, c7⟩) | ((fail_if_success have := A6); rintro ⟨A6, c6⟩) | ((fail_if_success have := A5); rintro ⟨A5, c5⟩) | ((fail_if_success have := A4); rintro ⟨A4, c4⟩) | ((fail_if_success have := A3); rintro ⟨A3, c3⟩)))
      | (((refine' Ef_callN rfl rfl ent_13 (fun w hp => aw5 _ _ w (hp.rowOf ?q1)) ?_); (case q1 => (repeat (first | exact .head _ | apply List.Mem.tail)))); (first | ((fail_if_success have := A9); rintro ⟨A9, c9⟩) | ((fail_if_success have := A8); rintro ⟨A8, c8⟩) | ((fail_if_success have := A7); rintro ⟨A7, c7⟩) | ((fail_if_success have := A6); rintro ⟨A6, c6⟩) | ((fail_if_success have := A5); rintro ⟨A5, c5⟩) | ((fail_if_success have := A4); rintro ⟨A4, c4⟩) | ((fail_if_success have := A3); rintro ⟨A3, c3⟩)))))
      | ((with_reducible refine g_call 14 ?_); (first
      | (((refine' Ef_callN rfl rfl ent_14 (fun w hp => aw6 _ _ w (hp.rowOf ?q1)) ?_); (case q1 => (repeat (first | exact .head _ | apply List.Mem.tail)))); (first | ((fail_if_success have := A9); rintro ⟨A9, c9⟩) | ((fail_if_success have := A8); rintro ⟨A8, c8⟩) | ((fail_if_success have := A7); rintro ⟨A7, c7⟩) | ((fail_if_success have := A6); rintro ⟨A6, c6⟩) | ((fail_if_success have := A5); rintro ⟨A5, c5⟩) | ((fail_if_success have := A4); rintro ⟨A4, c4⟩) | ((fail_if_success have := A3); rintro ⟨A3, c3⟩)))
      | (((refine' Ef_callN rfl rfl ent_14 (fun w hp => aw7 _ _ w (hp.rowOf ?q1)) ?_); (case q1 => (repeat (first | exact .head _ | apply List.Mem.tail)))); (first | ((fail_if_success have := A9); rintro ⟨A9, c9⟩) | ((fail_if_success have := A8); rintro ⟨A8, c8⟩) | ((fail_if_success have := A7); rintro ⟨A7, c7⟩) | ((fail_if_success have := A6); rintro ⟨A6, c6⟩) | ((fail_if_success have := A5); rintro ⟨A5, c5⟩) | ((fail_if_success have := A4); rintro ⟨A4, c4⟩) | ((fail_if_success have := A3); rintro ⟨A3, c3⟩)))))
      | ((with_reducible refine g_call 12 ?_); (first | ((refine' Ef_callP rfl rfl ent_12 (fun w hp => aw8 _ _ w (hp.rowOf ?q1)) ?_); (case q1 => (repeat (first | exact .head _ | apply List.Mem.tail))))))))
      | (fail; (first | ((fail_if_success have := b1); intro b1) | ((fail_if_success have := b2); intro b2) | ((fail_if_success have := b3); intro b3) | ((fail_if_success have := b4); intro b4) | ((fail_if_success have := b5); intro b5) | ((fail_if_success have := b6); intro b6) | ((fail_if_success have := b7); intro b7) | ((fail_if_success have := b8); intro b8) | ((fail_if_success have := b9); intro b9) | ((fail_if_success have := b10); intro b10) | ((fail_if_success have := b11); intro b11) | ((fail_if_success have := b12); intro b12)))
      | (fail; (first | ((fail_if_success have := A1); intro A1 c1) | ((fail_if_success have := A2); intro A2 c2) | ((fail_if_success have := A3); intro A3 c3) | ((fail_if_success have := A4); intro A4 c4) | ((fail_if_success have := A5); intro A5 c5) | ((fail_if_success have := A6); intro A6 c6) | ((fail_if_success have := A7); intro A7 c7)))
      | refine Ef_y rfl rfl ?_)
  exact ret_n [] (res1 rfl rfl) (List.nil_sublist _) ⟨rfl, rfl⟩
end Go.Proofs.Ytjcgahlpfnclkaa
