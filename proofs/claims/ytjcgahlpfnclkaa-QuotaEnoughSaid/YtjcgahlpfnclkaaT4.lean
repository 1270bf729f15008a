/- slices.Insert of one share: what a call of it comes to: for every slice of shares that is owned, every place. -/
import Derived.Test.YtjcgahlpfnclkaaT3
namespace Go.Proofs.Ytjcgahlpfnclkaa
open Go.RowKit
set_option maxRecDepth 20000

theorem ov_name : (Try.f36.name == "runtime.NumGoroutine") = false := by kernel_rfl
theorem ov_body : Try.f36.body.isNone = true := by kernel_rfl
theorem ov_next : Extern.findNext Try.f36 = none := by kernel_rfl
theorem ov_find : Extern.find Try.f36 = some (Extern.SlicesOverlaps.overlaps #[23, 23] #[4]) := by kernel_rfl

def insS (l : List S) (i : Nat) (x : S) : List S := l.take i ++ x :: l.drop i
theorem insS_len (l : List S) (i : Nat) (x : S) (h : i ≤ l.length) : (insS l i x).length = l.length + 1 := by
  unfold insS
  rw [List.length_append, List.length_cons, List.length_take, List.length_drop]; omega

section
variable (A : Option Addr) (cap : Nat) (l : List S) (B : Option Addr) (capv : Nat) (x : S) (i : Nat) (w : World) (R : List Nat) (hi : i ≤ l.length) (h64 : l.length ≤ 64) (hp : Hp w R [.row 27 3 (.slice B 1 capv) 1 (sE x), rS l (A, cap)] w)
include hi h64 hp
set_option maxHeartbeats 4000000 in
theorem ins_c : Sp Try.prog 35 [.slice A l.length cap, .int .i64 (i : Int), .slice B 1 capv] w R fun v N => ∃ z : Option Addr × Nat, v = .slice z.1 (insS l i x).length z.2 ∧ N = [rS (insS l i x) z] := by
  have hcap : l.length ≤ cap := hp.capOf (e := 27) (k := 3) (xs := l.flatMap sE) (.tail _ (.head _))
  have hlen := insS_len l i x hi
  have oL := one_flat sE_one l
  have oX := sE_one x
  by_cases hin : i = l.length
  · have e1 : insS l i x = l ++ [x] := by unfold insS; rw [hin, List.take_length, List.drop_length]
    refine Sp.enter (n := 95) Try.func35 rfl rfl rfl hp ?_
    repeat' (first
        | with_reducible refine T.seq ?_
        | with_reducible refine T.block ?_
        | with_reducible refine T.region ?_
        | with_reducible refine T.skip ?_
        | with_reducible refine T.scope ?_
        | with_reducible refine T.label ?_
        | with_reducible refine scopeQ_n ?_
        | with_reducible refine scopeQ_r ?_
        | with_reducible refine scopeQ_x ?_
        | with_reducible refine T.ret ?_
        | with_reducible refine T.exit ?_
        | with_reducible refine seqQ_n ?_
        | with_reducible refine seqQ_x ?_
        | with_reducible refine seqQ_r ?_
        | with_reducible refine blockQ_n ?_
        | with_reducible refine blockQ_r ?_
        | with_reducible refine blockQ_x ?_
        | ((with_reducible refine g_blkx ?_); refine blockQ_y rfl ?_)
        | with_reducible refine loopQ_x ?_
        | with_reducible refine loopQ_r ?_
        | with_reducible refine joinQ_r ?_
        | with_reducible refine joinQ_x ?_
        | ((with_reducible refine g_cond ?_); (first | refine T.cond_t rfl ?_ | refine T.cond_f rfl ?_ | (refine T.cond_s rfl ?_ ?_ <;> intro hc)))
        | with_reducible refine TL_nil ?_
        | with_reducible refine TS_nil ?_
        | ((with_reducible refine g_draw ?_); (first | (((with_reducible refine' T.draw0 (id := 11) [(0, true), (1, true), (2, true), (3, true), (4, true), (5, true), (6, false), (7, false), (8, false)] mixd ?q1 ?_); (case q1 => kernel_rfl))) | (((with_reducible refine' T.draw0 (id := 15) [(0, true), (1, true), (2, true), (3, true), (4, true), (5, true), (6, false), (7, false), (8, false)] mixd ?q1 ?_); (case q1 => kernel_rfl)))))
        | ((with_reducible refine TL_y' ?hy ?hd ?_); (case hy => rfl); (case hd => rfl))
        | with_reducible refine TL_e ?_
        | ((with_reducible refine g_TL ?_); (first | refine TL_gy' rfl rfl rfl rfl ?_ | refine TL_gn rfl rfl rfl ?_ | refine TL_gu rfl rfl rfl ?_ | refine TL_ge rfl rfl ?_ | refine TL_gn0 rfl rfl ?_))
        | ((with_reducible refine g_TS ?_); (first | refine TS_y rfl rfl ?_ | refine TS_e rfl ?_ | refine TS_gy rfl rfl rfl rfl ?_ | refine TS_gn rfl rfl rfl rfl ?_ | refine TS_gu rfl rfl rfl rfl ?_ | refine TS_ge rfl rfl rfl ?_ | refine TS_gne rfl rfl rfl rfl ?_ | refine TS_gue rfl rfl rfl rfl ?_ | refine TS_gne0 rfl rfl rfl ?_))
        | ((with_reducible refine TSand ?hd ?_); (case hd => (repeat (first | exact List.nil_sublist _ | refine List.Sublist.cons_cons _ ?_ | refine List.Sublist.cons _ ?_))))
        | ((with_reducible refine TBand ?hd ?_); (case hd => (repeat (first | exact List.nil_sublist _ | refine List.Sublist.cons_cons _ ?_ | refine List.Sublist.cons _ ?_))))
        | ((with_reducible refine g_TB ?_); (first | with_reducible refine TB_run ?_ | refine TB_y rfl rfl ?_ | refine TB_b rfl rfl ?_ ?_ | refine TB_e rfl ?_))
        | ((with_reducible refine is_move ?_); refine ⟨_, Yl_move rfl, ?_⟩)
        | ((with_reducible refine is_assign ?_); refine ⟨_, Yl_assign rfl, ?_⟩)
        | ((with_reducible refine is_un ?_); refine ⟨_, Yl_not rfl, ?_⟩)
        | ((with_reducible refine is_len ?_); (first | ((refine' ⟨_, Yl_len_slice rfl ?q1, ?_⟩); (case q1 => exact und_of rfl)) | ((refine' ⟨_, Yl_len_string rfl ?q1, ?_⟩); (case q1 => exact und_of rfl))))
        | ((with_reducible refine is_b_gtr ?_); (first | ((refine' ⟨_, Yl_gtr_t rfl rfl ?q1, ?_⟩); (case q1 => omega)) | ((refine' ⟨_, Yl_gtr_f rfl rfl ?q1, ?_⟩); (case q1 => omega)) | (refine sp_gtr rfl rfl ?_ ?_ <;> intro hc)))
        | ((with_reducible refine is_b_eql ?_); (first | ((refine' ⟨_, Yl_eql_t rfl rfl ?q1, ?_⟩); (case q1 => omega)) | ((refine' ⟨_, Yl_eql_f rfl rfl ?q1, ?_⟩); (case q1 => omega)) | (refine sp_eql rfl rfl ?_ ?_ <;> intro hc) | ((refine' ⟨_, Yl_sl_l (l := i + 1) rfl rfl ?q1 ?q2 ?q3, ?_⟩); (case q1 => exact und_of rfl); (case q2 => exact siz_of rfl); (case q3 => omega)) | ((refine' ⟨_, Yl_eql_bool rfl rfl ?q1, ?_⟩); (case q1 => exact und_of rfl)) | ((refine' ⟨_, Yl_eql_strT rfl rfl ?q1, ?_⟩); (case q1 => first | assumption | rfl)) | ((refine' ⟨_, Yl_eql_strF rfl rfl ?q1, ?_⟩); (case q1 => first | assumption | decide)) | (refine sp_eqlS rfl rfl ?_ ?_ <;> intro hc)))
        | ((with_reducible refine is_b_add ?_); (first | ((refine' ⟨_, Yl_add rfl rfl ?q1 ?q2, ?_⟩); (case q1 => omega); (case q2 => omega)) | ((refine' ⟨_, Yl_add8 rfl rfl ?q1 ?q2, ?_⟩); (case q1 => omega); (case q2 => omega)) | ((refine' ⟨_, Yl_sl_l (l := i + 1) rfl rfl ?q1 ?q2 ?q3, ?_⟩); (case q1 => exact und_of rfl); (case q2 => exact siz_of rfl); (case q3 => omega))))
        | ((with_reducible refine is_slice ?_); (first | ((refine' ⟨_, Yl_sl_l rfl rfl ?q1 ?q2 ?q3, ?_⟩); (case q1 => exact und_of rfl); (case q2 => exact siz_of rfl); (case q3 => omega)) | ((refine' ⟨_, Yl_sl_h rfl rfl ?q1 ?q2 ?q3, ?_⟩); (case q1 => exact und_of rfl); (case q2 => exact siz_of rfl); (case q3 => omega)) | ((refine' ⟨_, Yl_sl_lh rfl rfl rfl ?q1 ?q2 ?q3 ?q4, ?_⟩); (case q1 => exact und_of rfl); (case q2 => exact siz_of rfl); (case q3 => omega); (case q4 => omega)) | ((refine' ⟨_, Yl_sl_hm rfl rfl rfl ?q1 ?q2 ?q3 ?q4, ?_⟩); (case q1 => exact und_of rfl); (case q2 => exact siz_of rfl); (case q3 => omega); (case q4 => omega))))
        | ((with_reducible refine is_b_sub ?_); (first | ((refine' ⟨_, Yl_sub rfl rfl ?q1 ?q2, ?_⟩); (case q1 => omega); (case q2 => omega)) | ((refine' ⟨_, Yl_sl_l (l := i + 1) rfl rfl ?q1 ?q2 ?q3, ?_⟩); (case q1 => exact und_of rfl); (case q2 => exact siz_of rfl); (case q3 => omega))))
        | (first | ((refine' ⟨_, Yl_sl_l (l := i + 1) rfl rfl ?q1 ?q2 ?q3, ?_⟩); (case q1 => exact und_of rfl); (case q2 => exact siz_of rfl); (case q3 => omega)))
        | ((with_reducible refine ie_callf ?_); (first | ((with_reducible refine g_call 36 ?_); (first | ((refine' Ef_overlaps (i := 0) (j := 1) (d2 := i + 1) (k2 := 3) (el := 27) (A := B) (B := A) (m1 := 1) (m2 := l.length + 1) rfl rfl Try.func36 ov_name ov_body ov_next ov_find (und_of rfl) (siz_of rfl) rfl rfl ?q1 ?q2 (Nat.succ_pos _) ?q3 ?_); (case q1 => decide); (case q2 => decide); (case q3 => decide))))))
        | (first
        | ((refine' Ef_cap rfl rfl ?q1 ?_); (case q1 => exact und_of rfl))
        | ((((refine' Ef_appZ (q := l.length + 1 - i) rfl rfl rfl ?q1 ?q2 ?q3 (fun w hp => (hp.rowOf ?q4).upto sE_len ?q5) ?q6 ?q7 ?q8 ?q9 ?q10 ?_); (case q1 => omega); (case q2 => exact app_of rfl); (case q3 => exact und_of rfl); (case q4 => (repeat (first | exact .head _ | apply List.Mem.tail))); (case q5 => omega); (case q6 => omega); (case q7 => omega); (case q8 => omega); (case q9 => omega); (case q10 => omega))); intro bz cz zz hzl hzc; rw [hiq] at hzc ⊢)
        | ((refine' Ef_copy (i := 0) (d0 := i) (q := 1) (A := some ⟨bz, 0, none⟩) (A2 := B) (m := l.length + 1) (k := 3) (news := sE x) rfl rfl rfl ?q1 ?q2 rfl (fun w hp => hp.rowOf ?q3) (sE_one x) ?q4 ?q5 (c1 zz hzl) ?_); (case q1 => exact und_of rfl); (case q2 => exact siz_of rfl); (case q3 => (repeat (first | exact .head _ | apply List.Mem.tail))); (case q4 => omega); (case q5 => omega))
        | ((refine' Ef_copy (i := 0) (d0 := i + 1) (q := l.length - i) (A := some ⟨bz, 0, none⟩) (A2 := subA A cap i 3) (m := l.length + 1) (k := 3) (news := (l.drop i).flatMap sE) rfl rfl rfl ?q1 ?q2 rfl (fun w hp => (hp.rowOf (A := A) (m := l.length) ?q3).from_ sE_len rfl hi hcap) o2 ?q4 ?q5 (c2 zz hzl) ?_); (case q1 => exact und_of rfl); (case q2 => exact siz_of rfl); (case q3 => (repeat (first | exact .head _ | apply List.Mem.tail))); (case q4 => omega); (case q5 => omega))
        | ((refine' Ef_copy (i := 1) (d0 := i + 1) (q := l.length - i) (A := A) (A2 := subA A cap i 3) (m := l.length + 1) (k := 3) (news := ((l.flatMap sE ++ ys).drop (i * 3)).take ((l.length + 1 - i) * 3)) rfl rfl rfl ?q1 ?q2 rfl (fun w hp => (hp.rowOf (A := A) (m := l.length + 1) ?q3).part (l := i) (m := l.length + 1 - i) hi3 (.inl hroom)) o3 ?q4 ?q5 c3 ?_); (case q1 => exact und_of rfl); (case q2 => exact siz_of rfl); (case q3 => (repeat (first | exact .head _ | apply List.Mem.tail))); (case q4 => omega); (case q5 => omega))
        | ((refine' Ef_copy (i := 1) (d0 := i) (q := 1) (A := A) (A2 := B) (m := l.length + 1) (k := 3) (news := sE x) rfl rfl rfl ?q1 ?q2 rfl (fun w hp => hp.rowOf ?q3) (sE_one x) ?q4 ?q5 c4 ?_); (case q1 => exact und_of rfl); (case q2 => exact siz_of rfl); (case q3 => (repeat (first | exact .head _ | apply List.Mem.tail))); (case q4 => omega); (case q5 => omega)))
        | (fail; (first | ((fail_if_success have := b1); intro b1) | ((fail_if_success have := b2); intro b2) | ((fail_if_success have := b3); intro b3) | ((fail_if_success have := b4); intro b4) | ((fail_if_success have := b5); intro b5) | ((fail_if_success have := b6); intro b6) | ((fail_if_success have := b7); intro b7) | ((fail_if_success have := b8); intro b8) | ((fail_if_success have := b9); intro b9) | ((fail_if_success have := b10); intro b10) | ((fail_if_success have := b11); intro b11) | ((fail_if_success have := b12); intro b12)))
        | (((with_reducible refine ie_app ?_); (first
        | ((refine' Ef_app0_rd rfl rfl rfl ?q1 ?q2 ?q3 ?q4 ?q5 ?q6 ?q7 ?_); (case q1 => exact app_of rfl); (case q2 => (first | exact at0 | exact at1 | exact at2 | exact at3 | exact at4 | exact at5 | exact at6)); (case q3 => assumption); (case q4 => (first | assumption | (intro u hu; rcases hu with _ | ⟨_, _ | ⟨_, _ | ⟨_, _ | ⟨_, hu⟩⟩⟩⟩ <;> first | rfl | (cases hu; done)))); (case q5 => omega); (case q6 => omega); (case q7 => exact List.not_mem_nil))
        | ((refine' Ef_appG_row rfl rfl rfl ?q1 ?q2 ?q3 ?q4 ?q5 ?q6 ?_); (case q1 => exact app_of rfl); (case q2 => (first | exact at0 | exact at1 | exact at2 | exact at3 | exact at4 | exact at5 | exact at6)); (case q3 => (repeat (first | exact .head _ | apply List.Mem.tail))); (case q4 => (first | assumption | (intro u hu; rcases hu with _ | ⟨_, _ | ⟨_, _ | ⟨_, _ | ⟨_, hu⟩⟩⟩⟩ <;> first | rfl | (cases hu; done)))); (case q5 => omega); (case q6 => omega))
        | ((refine' Ef_appG_rd rfl rfl rfl ?q1 ?q2 ?q3 ?q4 ?q5 ?q6 ?q7 ?_); (case q1 => exact app_of rfl); (case q2 => (first | exact at0 | exact at1 | exact at2 | exact at3 | exact at4 | exact at5 | exact at6)); (case q3 => assumption); (case q4 => (first | assumption | (intro u hu; rcases hu with _ | ⟨_, _ | ⟨_, _ | ⟨_, _ | ⟨_, hu⟩⟩⟩⟩ <;> first | rfl | (cases hu; done)))); (case q5 => omega); (case q6 => omega); (case q7 => exact List.not_mem_nil)))); (first | ((fail_if_success have := A1); intro A1 c1) | ((fail_if_success have := A2); intro A2 c2) | ((fail_if_success have := A3); intro A3 c3) | ((fail_if_success have := A4); intro A4 c4) | ((fail_if_success have := A5); intro A5 c5) | ((fail_if_success have := A6); intro A6 c6) | ((fail_if_success have := A7); intro A7 c7)))
        | refine Ef_y rfl rfl ?_)
    refine ret_n [rS (insS l i x) (A1, c1)] (res1 rfl rfl) ?_ ⟨(A1, c1), by rw [hlen], rfl⟩
    unfold rS
    rw [hlen, e1, List.flatMap_append]
    refine List.Sublist.cons _ ?_
    simp
  have hti : (l.take i).length = i := by rw [List.length_take]; omega
  by_cases hroom : l.length + 1 ≤ cap
  · refine Sp.enter (n := 95) Try.func35 rfl rfl rfl hp ?_
    refine T.rowExt (m' := l.length + 1) 1 rfl (by omega) hroom ?_
    intro ys hys
    have hi3 : i + (l.length + 1 - i) ≤ l.length + 1 := by omega
    have hys3 : ys.length = 1 * 3 := by rw [hys]; congr 1; omega
    have n3 : (((l.flatMap sE ++ ys).drop (i * 3)).take ((l.length + 1 - i) * 3)).take ((l.length - i) * 3) = (l.drop i).flatMap sE := by
      have hll := flat_length sE_len l
      have h3 : i * 3 ≤ l.length * 3 := Nat.mul_le_mul_right _ hi
      rw [List.take_take, Nat.min_eq_left (Nat.mul_le_mul_right _ (by omega)), List.drop_append_of_le_length (by rw [hll]; exact h3), flat_drop sE_len,
        List.take_append_of_le_length (by rw [flat_length sE_len, List.length_drop]; exact Nat.le_refl _), List.take_of_length_le (by rw [flat_length sE_len, List.length_drop]; exact Nat.le_refl _)]
    have o3 : ∀ u ∈ (((l.flatMap sE ++ ys).drop (i * 3)).take ((l.length + 1 - i) * 3)).take ((l.length - i) * 3), u.oneCell' = true := by rw [n3]; exact one_flat sE_one _
    have c3 : setAll (l.flatMap sE ++ ys) ((i + 1) * 3) ((((l.flatMap sE ++ ys).drop (i * 3)).take ((l.length + 1 - i) * 3)).take ((l.length - i) * 3)) = (l.take (i + 1) ++ l.drop i).flatMap sE := by
      rw [n3]
      exact setAll_data sE_len l (l.drop i) ys (i + 1) 1 hys3 (by omega) (by rw [List.length_drop]; omega)
    have c4 : setAll ((l.take (i + 1) ++ l.drop i).flatMap sE) (i * 3) ((sE x).take (1 * 3)) = (insS l i x).flatMap sE := by
      have h1 := setAll_in sE_len (l.take (i + 1) ++ l.drop i) [x] i (by simp; omega)
      rw [show ([x] : List S).flatMap sE = (sE x).take (1 * 3) by simp [sE]] at h1
      rw [h1]
      congr 1
      have ht1 : (l.take (i + 1)).length = i + 1 := by rw [List.length_take]; omega
      unfold insS
      rw [List.take_append_of_le_length (by omega), List.take_take, Nat.min_eq_left (by omega), List.length_singleton, List.drop_append_of_le_length (by omega), List.drop_of_length_le (by omega)]
      simp
    repeat' (first
        | with_reducible refine T.seq ?_
        | with_reducible refine T.block ?_
        | with_reducible refine T.region ?_
        | with_reducible refine T.skip ?_
        | with_reducible refine T.scope ?_
        | with_reducible refine T.label ?_
        | with_reducible refine scopeQ_n ?_
        | with_reducible refine scopeQ_r ?_
        | with_reducible refine scopeQ_x ?_
        | with_reducible refine T.ret ?_
        | with_reducible refine T.exit ?_
        | with_reducible refine seqQ_n ?_
        | with_reducible refine seqQ_x ?_
        | with_reducible refine seqQ_r ?_
        | with_reducible refine blockQ_n ?_
        | with_reducible refine blockQ_r ?_
        | with_reducible refine blockQ_x ?_
        | ((with_reducible refine g_blkx ?_); refine blockQ_y rfl ?_)
        | with_reducible refine loopQ_x ?_
        | with_reducible refine loopQ_r ?_
        | with_reducible refine joinQ_r ?_
        | with_reducible refine joinQ_x ?_
        | ((with_reducible refine g_cond ?_); (first | refine T.cond_t rfl ?_ | refine T.cond_f rfl ?_ | (refine T.cond_s rfl ?_ ?_ <;> intro hc)))
        | with_reducible refine TL_nil ?_
        | with_reducible refine TS_nil ?_
        | ((with_reducible refine g_draw ?_); (first | (((with_reducible refine' T.draw0 (id := 11) [(0, true), (1, true), (2, true), (3, true), (4, true), (5, true), (6, false), (7, false), (8, false)] mixd ?q1 ?_); (case q1 => kernel_rfl))) | (((with_reducible refine' T.draw0 (id := 15) [(0, true), (1, true), (2, true), (3, true), (4, true), (5, true), (6, false), (7, false), (8, false)] mixd ?q1 ?_); (case q1 => kernel_rfl)))))
        | ((with_reducible refine TL_y' ?hy ?hd ?_); (case hy => rfl); (case hd => rfl))
        | with_reducible refine TL_e ?_
        | ((with_reducible refine g_TL ?_); (first | refine TL_gy' rfl rfl rfl rfl ?_ | refine TL_gn rfl rfl rfl ?_ | refine TL_gu rfl rfl rfl ?_ | refine TL_ge rfl rfl ?_ | refine TL_gn0 rfl rfl ?_))
        | ((with_reducible refine g_TS ?_); (first | refine TS_y rfl rfl ?_ | refine TS_e rfl ?_ | refine TS_gy rfl rfl rfl rfl ?_ | refine TS_gn rfl rfl rfl rfl ?_ | refine TS_gu rfl rfl rfl rfl ?_ | refine TS_ge rfl rfl rfl ?_ | refine TS_gne rfl rfl rfl rfl ?_ | refine TS_gue rfl rfl rfl rfl ?_ | refine TS_gne0 rfl rfl rfl ?_))
        | ((with_reducible refine TSand ?hd ?_); (case hd => (repeat (first | exact List.nil_sublist _ | refine List.Sublist.cons_cons _ ?_ | refine List.Sublist.cons _ ?_))))
        | ((with_reducible refine TBand ?hd ?_); (case hd => (repeat (first | exact List.nil_sublist _ | refine List.Sublist.cons_cons _ ?_ | refine List.Sublist.cons _ ?_))))
        | ((with_reducible refine g_TB ?_); (first | with_reducible refine TB_run ?_ | refine TB_y rfl rfl ?_ | refine TB_b rfl rfl ?_ ?_ | refine TB_e rfl ?_))
        | ((with_reducible refine is_move ?_); refine ⟨_, Yl_move rfl, ?_⟩)
        | ((with_reducible refine is_assign ?_); refine ⟨_, Yl_assign rfl, ?_⟩)
        | ((with_reducible refine is_un ?_); refine ⟨_, Yl_not rfl, ?_⟩)
        | ((with_reducible refine is_len ?_); (first | ((refine' ⟨_, Yl_len_slice rfl ?q1, ?_⟩); (case q1 => exact und_of rfl)) | ((refine' ⟨_, Yl_len_string rfl ?q1, ?_⟩); (case q1 => exact und_of rfl))))
        | ((with_reducible refine is_b_gtr ?_); (first | ((refine' ⟨_, Yl_gtr_t rfl rfl ?q1, ?_⟩); (case q1 => omega)) | ((refine' ⟨_, Yl_gtr_f rfl rfl ?q1, ?_⟩); (case q1 => omega)) | (refine sp_gtr rfl rfl ?_ ?_ <;> intro hc)))
        | ((with_reducible refine is_b_eql ?_); (first | ((refine' ⟨_, Yl_eql_t rfl rfl ?q1, ?_⟩); (case q1 => omega)) | ((refine' ⟨_, Yl_eql_f rfl rfl ?q1, ?_⟩); (case q1 => omega)) | (refine sp_eql rfl rfl ?_ ?_ <;> intro hc) | ((refine' ⟨_, Yl_sl_l (l := i + 1) rfl rfl ?q1 ?q2 ?q3, ?_⟩); (case q1 => exact und_of rfl); (case q2 => exact siz_of rfl); (case q3 => omega)) | ((refine' ⟨_, Yl_eql_bool rfl rfl ?q1, ?_⟩); (case q1 => exact und_of rfl)) | ((refine' ⟨_, Yl_eql_strT rfl rfl ?q1, ?_⟩); (case q1 => first | assumption | rfl)) | ((refine' ⟨_, Yl_eql_strF rfl rfl ?q1, ?_⟩); (case q1 => first | assumption | decide)) | (refine sp_eqlS rfl rfl ?_ ?_ <;> intro hc)))
        | ((with_reducible refine is_b_add ?_); (first | ((refine' ⟨_, Yl_add rfl rfl ?q1 ?q2, ?_⟩); (case q1 => omega); (case q2 => omega)) | ((refine' ⟨_, Yl_add8 rfl rfl ?q1 ?q2, ?_⟩); (case q1 => omega); (case q2 => omega)) | ((refine' ⟨_, Yl_sl_l (l := i + 1) rfl rfl ?q1 ?q2 ?q3, ?_⟩); (case q1 => exact und_of rfl); (case q2 => exact siz_of rfl); (case q3 => omega))))
        | ((with_reducible refine is_slice ?_); (first | ((refine' ⟨_, Yl_sl_l rfl rfl ?q1 ?q2 ?q3, ?_⟩); (case q1 => exact und_of rfl); (case q2 => exact siz_of rfl); (case q3 => omega)) | ((refine' ⟨_, Yl_sl_h rfl rfl ?q1 ?q2 ?q3, ?_⟩); (case q1 => exact und_of rfl); (case q2 => exact siz_of rfl); (case q3 => omega)) | ((refine' ⟨_, Yl_sl_lh rfl rfl rfl ?q1 ?q2 ?q3 ?q4, ?_⟩); (case q1 => exact und_of rfl); (case q2 => exact siz_of rfl); (case q3 => omega); (case q4 => omega)) | ((refine' ⟨_, Yl_sl_hm rfl rfl rfl ?q1 ?q2 ?q3 ?q4, ?_⟩); (case q1 => exact und_of rfl); (case q2 => exact siz_of rfl); (case q3 => omega); (case q4 => omega))))
        | ((with_reducible refine is_b_sub ?_); (first | ((refine' ⟨_, Yl_sub rfl rfl ?q1 ?q2, ?_⟩); (case q1 => omega); (case q2 => omega)) | ((refine' ⟨_, Yl_sl_l (l := i + 1) rfl rfl ?q1 ?q2 ?q3, ?_⟩); (case q1 => exact und_of rfl); (case q2 => exact siz_of rfl); (case q3 => omega))))
        | (first | ((refine' ⟨_, Yl_sl_l (l := i + 1) rfl rfl ?q1 ?q2 ?q3, ?_⟩); (case q1 => exact und_of rfl); (case q2 => exact siz_of rfl); (case q3 => omega)))
        | ((with_reducible refine ie_callf ?_); (first | ((with_reducible refine g_call 36 ?_); (first | ((refine' Ef_overlaps (i := 0) (j := 1) (d2 := i + 1) (k2 := 3) (el := 27) (A := B) (B := A) (m1 := 1) (m2 := l.length + 1) rfl rfl Try.func36 ov_name ov_body ov_next ov_find (und_of rfl) (siz_of rfl) rfl rfl ?q1 ?q2 (Nat.succ_pos _) ?q3 ?_); (case q1 => decide); (case q2 => decide); (case q3 => decide))))))
        | (first
        | ((refine' Ef_cap rfl rfl ?q1 ?_); (case q1 => exact und_of rfl))
        | ((((refine' Ef_appZ (q := l.length + 1 - i) rfl rfl rfl ?q1 ?q2 ?q3 (fun w hp => (hp.rowOf ?q4).upto sE_len ?q5) ?q6 ?q7 ?q8 ?q9 ?q10 ?_); (case q1 => omega); (case q2 => exact app_of rfl); (case q3 => exact und_of rfl); (case q4 => (repeat (first | exact .head _ | apply List.Mem.tail))); (case q5 => omega); (case q6 => omega); (case q7 => omega); (case q8 => omega); (case q9 => omega); (case q10 => omega))); intro bz cz zz hzl hzc; rw [hiq] at hzc ⊢)
        | ((refine' Ef_copy (i := 0) (d0 := i) (q := 1) (A := some ⟨bz, 0, none⟩) (A2 := B) (m := l.length + 1) (k := 3) (news := sE x) rfl rfl rfl ?q1 ?q2 rfl (fun w hp => hp.rowOf ?q3) (sE_one x) ?q4 ?q5 (c1 zz hzl) ?_); (case q1 => exact und_of rfl); (case q2 => exact siz_of rfl); (case q3 => (repeat (first | exact .head _ | apply List.Mem.tail))); (case q4 => omega); (case q5 => omega))
        | ((refine' Ef_copy (i := 0) (d0 := i + 1) (q := l.length - i) (A := some ⟨bz, 0, none⟩) (A2 := subA A cap i 3) (m := l.length + 1) (k := 3) (news := (l.drop i).flatMap sE) rfl rfl rfl ?q1 ?q2 rfl (fun w hp => (hp.rowOf (A := A) (m := l.length) ?q3).from_ sE_len rfl hi hcap) o2 ?q4 ?q5 (c2 zz hzl) ?_); (case q1 => exact und_of rfl); (case q2 => exact siz_of rfl); (case q3 => (repeat (first | exact .head _ | apply List.Mem.tail))); (case q4 => omega); (case q5 => omega))
        | ((refine' Ef_copy (i := 1) (d0 := i + 1) (q := l.length - i) (A := A) (A2 := subA A cap i 3) (m := l.length + 1) (k := 3) (news := ((l.flatMap sE ++ ys).drop (i * 3)).take ((l.length + 1 - i) * 3)) rfl rfl rfl ?q1 ?q2 rfl (fun w hp => (hp.rowOf (A := A) (m := l.length + 1) ?q3).part (l := i) (m := l.length + 1 - i) hi3 (.inl hroom)) o3 ?q4 ?q5 c3 ?_); (case q1 => exact und_of rfl); (case q2 => exact siz_of rfl); (case q3 => (repeat (first | exact .head _ | apply List.Mem.tail))); (case q4 => omega); (case q5 => omega))
        | ((refine' Ef_copy (i := 1) (d0 := i) (q := 1) (A := A) (A2 := B) (m := l.length + 1) (k := 3) (news := sE x) rfl rfl rfl ?q1 ?q2 rfl (fun w hp => hp.rowOf ?q3) (sE_one x) ?q4 ?q5 c4 ?_); (case q1 => exact und_of rfl); (case q2 => exact siz_of rfl); (case q3 => (repeat (first | exact .head _ | apply List.Mem.tail))); (case q4 => omega); (case q5 => omega)))
        | (fail; (first | ((fail_if_success have := b1); intro b1) | ((fail_if_success have := b2); intro b2) | ((fail_if_success have := b3); intro b3) | ((fail_if_success have := b4); intro b4) | ((fail_if_success have := b5); intro b5) | ((fail_if_success have := b6); intro b6) | ((fail_if_success have := b7); intro b7) | ((fail_if_success have := b8); intro b8) | ((fail_if_success have := b9); intro b9) | ((fail_if_success have := b10); intro b10) | ((fail_if_success have := b11); intro b11) | ((fail_if_success have := b12); intro b12)))
        | (((with_reducible refine ie_app ?_); (first
        | ((refine' Ef_app0_rd rfl rfl rfl ?q1 ?q2 ?q3 ?q4 ?q5 ?q6 ?q7 ?_); (case q1 => exact app_of rfl); (case q2 => (first | exact at0 | exact at1 | exact at2 | exact at3 | exact at4 | exact at5 | exact at6)); (case q3 => assumption); (case q4 => (first | assumption | (intro u hu; rcases hu with _ | ⟨_, _ | ⟨_, _ | ⟨_, _ | ⟨_, hu⟩⟩⟩⟩ <;> first | rfl | (cases hu; done)))); (case q5 => omega); (case q6 => omega); (case q7 => exact List.not_mem_nil))
        | ((refine' Ef_appG_row rfl rfl rfl ?q1 ?q2 ?q3 ?q4 ?q5 ?q6 ?_); (case q1 => exact app_of rfl); (case q2 => (first | exact at0 | exact at1 | exact at2 | exact at3 | exact at4 | exact at5 | exact at6)); (case q3 => (repeat (first | exact .head _ | apply List.Mem.tail))); (case q4 => (first | assumption | (intro u hu; rcases hu with _ | ⟨_, _ | ⟨_, _ | ⟨_, _ | ⟨_, hu⟩⟩⟩⟩ <;> first | rfl | (cases hu; done)))); (case q5 => omega); (case q6 => omega))
        | ((refine' Ef_appG_rd rfl rfl rfl ?q1 ?q2 ?q3 ?q4 ?q5 ?q6 ?q7 ?_); (case q1 => exact app_of rfl); (case q2 => (first | exact at0 | exact at1 | exact at2 | exact at3 | exact at4 | exact at5 | exact at6)); (case q3 => assumption); (case q4 => (first | assumption | (intro u hu; rcases hu with _ | ⟨_, _ | ⟨_, _ | ⟨_, _ | ⟨_, hu⟩⟩⟩⟩ <;> first | rfl | (cases hu; done)))); (case q5 => omega); (case q6 => omega); (case q7 => exact List.not_mem_nil)))); (first | ((fail_if_success have := A1); intro A1 c1) | ((fail_if_success have := A2); intro A2 c2) | ((fail_if_success have := A3); intro A3 c3) | ((fail_if_success have := A4); intro A4 c4) | ((fail_if_success have := A5); intro A5 c5) | ((fail_if_success have := A6); intro A6 c6) | ((fail_if_success have := A7); intro A7 c7)))
        | refine Ef_y rfl rfl ?_)
    refine ret_n [rS (insS l i x) (A, cap)] (res1 rfl rfl) ?_ ⟨(A, cap), by rw [hlen], rfl⟩
    unfold rS
    rw [hlen]
    refine List.Sublist.cons _ ?_
    exact List.Sublist.refl _
  · have hiq : i + (l.length + 1 - i) = l.length + 1 := by omega
    have c1 : ∀ zz : List Value, zz.length = (l.length + 1 - i) * 3 → setAll ((l.take i).flatMap sE ++ zz) (i * 3) ((sE x).take (1 * 3)) = (l.take i ++ [x]).flatMap sE ++ zz.drop (1 * 3) := fun zz hz => by
      have h1 := setAll_end sE_len (l.take i) [x] zz (l.length + 1 - i) hz (by simp; omega)
      rw [hti, show ([x] : List S).flatMap sE = (sE x).take (1 * 3) by simp [sE]] at h1
      exact h1
    have n2 : ((l.drop i).flatMap sE).take ((l.length - i) * 3) = (l.drop i).flatMap sE := List.take_of_length_le (by rw [flat_length sE_len, List.length_drop]; exact Nat.le_refl _)
    have o2 : ∀ u ∈ ((l.drop i).flatMap sE).take ((l.length - i) * 3), u.oneCell' = true := by rw [n2]; exact one_flat sE_one _
    have c2 : ∀ zz : List Value, zz.length = (l.length + 1 - i) * 3 → setAll ((l.take i ++ [x]).flatMap sE ++ zz.drop (1 * 3)) ((i + 1) * 3) (((l.drop i).flatMap sE).take ((l.length - i) * 3)) = (insS l i x).flatMap sE := fun zz hz => by
      have h1 := setAll_data sE_len (l.take i ++ [x]) (l.drop i) (zz.drop (1 * 3)) (i + 1) (l.length - i) (by rw [List.length_drop, hz]; omega) (by simp; omega) (by simp; omega)
      rw [n2, h1]
      congr 1
      unfold insS
      rw [List.take_of_length_le (by simp; omega)]
      simp
    refine Sp.enter (n := 95) Try.func35 rfl rfl rfl hp ?_
    repeat' (first
        | with_reducible refine T.seq ?_
        | with_reducible refine T.block ?_
        | with_reducible refine T.region ?_
        | with_reducible refine T.skip ?_
        | with_reducible refine T.scope ?_
        | with_reducible refine T.label ?_
        | with_reducible refine scopeQ_n ?_
        | with_reducible refine scopeQ_r ?_
        | with_reducible refine scopeQ_x ?_
        | with_reducible refine T.ret ?_
        | with_reducible refine T.exit ?_
        | with_reducible refine seqQ_n ?_
        | with_reducible refine seqQ_x ?_
        | with_reducible refine seqQ_r ?_
        | with_reducible refine blockQ_n ?_
        | with_reducible refine blockQ_r ?_
        | with_reducible refine blockQ_x ?_
        | ((with_reducible refine g_blkx ?_); refine blockQ_y rfl ?_)
        | with_reducible refine loopQ_x ?_
        | with_reducible refine loopQ_r ?_
        | with_reducible refine joinQ_r ?_
        | with_reducible refine joinQ_x ?_
        | ((with_reducible refine g_cond ?_); (first | refine T.cond_t rfl ?_ | refine T.cond_f rfl ?_ | (refine T.cond_s rfl ?_ ?_ <;> intro hc)))
        | with_reducible refine TL_nil ?_
        | with_reducible refine TS_nil ?_
        | ((with_reducible refine g_draw ?_); (first | (((with_reducible refine' T.draw0 (id := 11) [(0, true), (1, true), (2, true), (3, true), (4, true), (5, true), (6, false), (7, false), (8, false)] mixd ?q1 ?_); (case q1 => kernel_rfl))) | (((with_reducible refine' T.draw0 (id := 15) [(0, true), (1, true), (2, true), (3, true), (4, true), (5, true), (6, false), (7, false), (8, false)] mixd ?q1 ?_); (case q1 => kernel_rfl)))))
        | ((with_reducible refine TL_y' ?hy ?hd ?_); (case hy => rfl); (case hd => rfl))
        | with_reducible refine TL_e ?_
        | ((with_reducible refine g_TL ?_); (first | refine TL_gy' rfl rfl rfl rfl ?_ | refine TL_gn rfl rfl rfl ?_ | refine TL_gu rfl rfl rfl ?_ | refine TL_ge rfl rfl ?_ | refine TL_gn0 rfl rfl ?_))
        | ((with_reducible refine g_TS ?_); (first | refine TS_y rfl rfl ?_ | refine TS_e rfl ?_ | refine TS_gy rfl rfl rfl rfl ?_ | refine TS_gn rfl rfl rfl rfl ?_ | refine TS_gu rfl rfl rfl rfl ?_ | refine TS_ge rfl rfl rfl ?_ | refine TS_gne rfl rfl rfl rfl ?_ | refine TS_gue rfl rfl rfl rfl ?_ | refine TS_gne0 rfl rfl rfl ?_))
        | ((with_reducible refine TSand ?hd ?_); (case hd => (repeat (first | exact List.nil_sublist _ | refine List.Sublist.cons_cons _ ?_ | refine List.Sublist.cons _ ?_))))
        | ((with_reducible refine TBand ?hd ?_); (case hd => (repeat (first | exact List.nil_sublist _ | refine List.Sublist.cons_cons _ ?_ | refine List.Sublist.cons _ ?_))))
        | ((with_reducible refine g_TB ?_); (first | with_reducible refine TB_run ?_ | refine TB_y rfl rfl ?_ | refine TB_b rfl rfl ?_ ?_ | refine TB_e rfl ?_))
        | ((with_reducible refine is_move ?_); refine ⟨_, Yl_move rfl, ?_⟩)
        | ((with_reducible refine is_assign ?_); refine ⟨_, Yl_assign rfl, ?_⟩)
        | ((with_reducible refine is_un ?_); refine ⟨_, Yl_not rfl, ?_⟩)
        | ((with_reducible refine is_len ?_); (first | ((refine' ⟨_, Yl_len_slice rfl ?q1, ?_⟩); (case q1 => exact und_of rfl)) | ((refine' ⟨_, Yl_len_string rfl ?q1, ?_⟩); (case q1 => exact und_of rfl))))
        | ((with_reducible refine is_b_gtr ?_); (first | ((refine' ⟨_, Yl_gtr_t rfl rfl ?q1, ?_⟩); (case q1 => omega)) | ((refine' ⟨_, Yl_gtr_f rfl rfl ?q1, ?_⟩); (case q1 => omega)) | (refine sp_gtr rfl rfl ?_ ?_ <;> intro hc)))
        | ((with_reducible refine is_b_eql ?_); (first | ((refine' ⟨_, Yl_eql_t rfl rfl ?q1, ?_⟩); (case q1 => omega)) | ((refine' ⟨_, Yl_eql_f rfl rfl ?q1, ?_⟩); (case q1 => omega)) | (refine sp_eql rfl rfl ?_ ?_ <;> intro hc) | ((refine' ⟨_, Yl_sl_l (l := i + 1) rfl rfl ?q1 ?q2 ?q3, ?_⟩); (case q1 => exact und_of rfl); (case q2 => exact siz_of rfl); (case q3 => omega)) | ((refine' ⟨_, Yl_eql_bool rfl rfl ?q1, ?_⟩); (case q1 => exact und_of rfl)) | ((refine' ⟨_, Yl_eql_strT rfl rfl ?q1, ?_⟩); (case q1 => first | assumption | rfl)) | ((refine' ⟨_, Yl_eql_strF rfl rfl ?q1, ?_⟩); (case q1 => first | assumption | decide)) | (refine sp_eqlS rfl rfl ?_ ?_ <;> intro hc)))
        | ((with_reducible refine is_b_add ?_); (first | ((refine' ⟨_, Yl_add rfl rfl ?q1 ?q2, ?_⟩); (case q1 => omega); (case q2 => omega)) | ((refine' ⟨_, Yl_add8 rfl rfl ?q1 ?q2, ?_⟩); (case q1 => omega); (case q2 => omega)) | ((refine' ⟨_, Yl_sl_l (l := i + 1) rfl rfl ?q1 ?q2 ?q3, ?_⟩); (case q1 => exact und_of rfl); (case q2 => exact siz_of rfl); (case q3 => omega))))
        | ((with_reducible refine is_slice ?_); (first | ((refine' ⟨_, Yl_sl_l rfl rfl ?q1 ?q2 ?q3, ?_⟩); (case q1 => exact und_of rfl); (case q2 => exact siz_of rfl); (case q3 => omega)) | ((refine' ⟨_, Yl_sl_h rfl rfl ?q1 ?q2 ?q3, ?_⟩); (case q1 => exact und_of rfl); (case q2 => exact siz_of rfl); (case q3 => omega)) | ((refine' ⟨_, Yl_sl_lh rfl rfl rfl ?q1 ?q2 ?q3 ?q4, ?_⟩); (case q1 => exact und_of rfl); (case q2 => exact siz_of rfl); (case q3 => omega); (case q4 => omega)) | ((refine' ⟨_, Yl_sl_hm rfl rfl rfl ?q1 ?q2 ?q3 ?q4, ?_⟩); (case q1 => exact und_of rfl); (case q2 => exact siz_of rfl); (case q3 => omega); (case q4 => omega))))
        | ((with_reducible refine is_b_sub ?_); (first | ((refine' ⟨_, Yl_sub rfl rfl ?q1 ?q2, ?_⟩); (case q1 => omega); (case q2 => omega)) | ((refine' ⟨_, Yl_sl_l (l := i + 1) rfl rfl ?q1 ?q2 ?q3, ?_⟩); (case q1 => exact und_of rfl); (case q2 => exact siz_of rfl); (case q3 => omega))))
        | (first | ((refine' ⟨_, Yl_sl_l (l := i + 1) rfl rfl ?q1 ?q2 ?q3, ?_⟩); (case q1 => exact und_of rfl); (case q2 => exact siz_of rfl); (case q3 => omega)))
        | ((with_reducible refine ie_callf ?_); (first | ((with_reducible refine g_call 36 ?_); (first | ((refine' Ef_overlaps (i := 0) (j := 1) (d2 := i + 1) (k2 := 3) (el := 27) (A := B) (B := A) (m1 := 1) (m2 := l.length + 1) rfl rfl Try.func36 ov_name ov_body ov_next ov_find (und_of rfl) (siz_of rfl) rfl rfl ?q1 ?q2 (Nat.succ_pos _) ?q3 ?_); (case q1 => decide); (case q2 => decide); (case q3 => decide))))))
        | (first
        | ((refine' Ef_cap rfl rfl ?q1 ?_); (case q1 => exact und_of rfl))
        | ((((refine' Ef_appZ (q := l.length + 1 - i) rfl rfl rfl ?q1 ?q2 ?q3 (fun w hp => (hp.rowOf ?q4).upto sE_len ?q5) ?q6 ?q7 ?q8 ?q9 ?q10 ?_); (case q1 => omega); (case q2 => exact app_of rfl); (case q3 => exact und_of rfl); (case q4 => (repeat (first | exact .head _ | apply List.Mem.tail))); (case q5 => omega); (case q6 => omega); (case q7 => omega); (case q8 => omega); (case q9 => omega); (case q10 => omega))); intro bz cz zz hzl hzc; rw [hiq] at hzc ⊢)
        | ((refine' Ef_copy (i := 0) (d0 := i) (q := 1) (A := some ⟨bz, 0, none⟩) (A2 := B) (m := l.length + 1) (k := 3) (news := sE x) rfl rfl rfl ?q1 ?q2 rfl (fun w hp => hp.rowOf ?q3) (sE_one x) ?q4 ?q5 (c1 zz hzl) ?_); (case q1 => exact und_of rfl); (case q2 => exact siz_of rfl); (case q3 => (repeat (first | exact .head _ | apply List.Mem.tail))); (case q4 => omega); (case q5 => omega))
        | ((refine' Ef_copy (i := 0) (d0 := i + 1) (q := l.length - i) (A := some ⟨bz, 0, none⟩) (A2 := subA A cap i 3) (m := l.length + 1) (k := 3) (news := (l.drop i).flatMap sE) rfl rfl rfl ?q1 ?q2 rfl (fun w hp => (hp.rowOf (A := A) (m := l.length) ?q3).from_ sE_len rfl hi hcap) o2 ?q4 ?q5 (c2 zz hzl) ?_); (case q1 => exact und_of rfl); (case q2 => exact siz_of rfl); (case q3 => (repeat (first | exact .head _ | apply List.Mem.tail))); (case q4 => omega); (case q5 => omega))
        | ((refine' Ef_copy (i := 1) (d0 := i + 1) (q := l.length - i) (A := A) (A2 := subA A cap i 3) (m := l.length + 1) (k := 3) (news := ((l.flatMap sE ++ ys).drop (i * 3)).take ((l.length + 1 - i) * 3)) rfl rfl rfl ?q1 ?q2 rfl (fun w hp => (hp.rowOf (A := A) (m := l.length + 1) ?q3).part (l := i) (m := l.length + 1 - i) hi3 (.inl hroom)) o3 ?q4 ?q5 c3 ?_); (case q1 => exact und_of rfl); (case q2 => exact siz_of rfl); (case q3 => (repeat (first | exact .head _ | apply List.Mem.tail))); (case q4 => omega); (case q5 => omega))
        | ((refine' Ef_copy (i := 1) (d0 := i) (q := 1) (A := A) (A2 := B) (m := l.length + 1) (k := 3) (news := sE x) rfl rfl rfl ?q1 ?q2 rfl (fun w hp => hp.rowOf ?q3) (sE_one x) ?q4 ?q5 c4 ?_); (case q1 => exact und_of rfl); (case q2 => exact siz_of rfl); (case q3 => (repeat (first | exact .head _ | apply List.Mem.tail))); (case q4 => omega); (case q5 => omega)))
        | (fail; (first | ((fail_if_success have := b1); intro b1) | ((fail_if_success have := b2); intro b2) | ((fail_if_success have := b3); intro b3) | ((fail_if_success have := b4); intro b4) | ((fail_if_success have := b5); intro b5) | ((fail_if_success have := b6); intro b6) | ((fail_if_success have := b7); intro b7) | ((fail_if_success have := b8); intro b8) | ((fail_if_success have := b9); intro b9) | ((fail_if_success have := b10); intro b10) | ((fail_if_success have := b11); intro b11) | ((fail_if_success have := b12); intro b12)))
        | (((with_reducible refine ie_app ?_); (first
        | ((refine' Ef_app0_rd rfl rfl rfl ?q1 ?q2 ?q3 ?q4 ?q5 ?q6 ?q7 ?_); (case q1 => exact app_of rfl); (case q2 => (first | exact at0 | exact at1 | exact at2 | exact at3 | exact at4 | exact at5 | exact at6)); (case q3 => assumption); (case q4 => (first | assumption | (intro u hu; rcases hu with _ | ⟨_, _ | ⟨_, _ | ⟨_, _ | ⟨_, hu⟩⟩⟩⟩ <;> first | rfl | (cases hu; done)))); (case q5 => omega); (case q6 => omega); (case q7 => exact List.not_mem_nil))
        | ((refine' Ef_appG_row rfl rfl rfl ?q1 ?q2 ?q3 ?q4 ?q5 ?q6 ?_); (case q1 => exact app_of rfl); (case q2 => (first | exact at0 | exact at1 | exact at2 | exact at3 | exact at4 | exact at5 | exact at6)); (case q3 => (repeat (first | exact .head _ | apply List.Mem.tail))); (case q4 => (first | assumption | (intro u hu; rcases hu with _ | ⟨_, _ | ⟨_, _ | ⟨_, _ | ⟨_, hu⟩⟩⟩⟩ <;> first | rfl | (cases hu; done)))); (case q5 => omega); (case q6 => omega))
        | ((refine' Ef_appG_rd rfl rfl rfl ?q1 ?q2 ?q3 ?q4 ?q5 ?q6 ?q7 ?_); (case q1 => exact app_of rfl); (case q2 => (first | exact at0 | exact at1 | exact at2 | exact at3 | exact at4 | exact at5 | exact at6)); (case q3 => assumption); (case q4 => (first | assumption | (intro u hu; rcases hu with _ | ⟨_, _ | ⟨_, _ | ⟨_, _ | ⟨_, hu⟩⟩⟩⟩ <;> first | rfl | (cases hu; done)))); (case q5 => omega); (case q6 => omega); (case q7 => exact List.not_mem_nil)))); (first | ((fail_if_success have := A1); intro A1 c1) | ((fail_if_success have := A2); intro A2 c2) | ((fail_if_success have := A3); intro A3 c3) | ((fail_if_success have := A4); intro A4 c4) | ((fail_if_success have := A5); intro A5 c5) | ((fail_if_success have := A6); intro A6 c6) | ((fail_if_success have := A7); intro A7 c7)))
        | refine Ef_y rfl rfl ?_)
    refine ret_n [rS (insS l i x) (some ⟨bz, 0, none⟩, cz)] (res1 rfl rfl) ?_ ⟨(some ⟨bz, 0, none⟩, cz), by rw [hlen], rfl⟩
    unfold rS
    rw [hlen]
    refine List.Sublist.cons_cons _ (List.nil_sublist _)
end
end Go.Proofs.Ytjcgahlpfnclkaa
