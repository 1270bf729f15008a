/- Where a pair is looked for; a space with other pairs; New, Resize, Get: what a call of each comes to. -/
import Derived.Test.YtimmabejfigleaaT2
namespace Go.Proofs.Ytimmabejfigleaa
open Go.RowKit
set_option maxRecDepth 20000

theorem p_build1 (a : ByteArray) (w : World) : (Instr.build 57 #[(0, .string a)]).run Try.prog w = .ok (.agg (pE (a, Ks.e)).toArray) w := by kernel_rfl
theorem p_build2 (a b : ByteArray) (w : World) : (Instr.build 57 #[(0, .string a), (1, .string b)]).run Try.prog w = .ok (.agg (pE (a, b)).toArray) w := by kernel_rfl
theorem s_build0 (w : World) : (Instr.build 30 #[]).run Try.prog w = .ok (.agg (sV 0 0 (none, 0) 0)) w := by kernel_rfl
theorem s_build2 (a b : Int) (w : World) : (Instr.build 30 #[(0, .int .i64 a), (1, .int .i64 b)]).run Try.prog w = .ok (.agg (sV a b (none, 0) 0)) w := by kernel_rfl

theorem new_c (k y : Int) (w : World) : Sp Try.prog 15 [.int .i64 k, .int .i64 y] w [] fun v N => v = .tuple (if Ks.lim k y = true then #[.agg (sV k y (none, 0) 0), .int .i64 0] else #[.agg (sV 0 0 (none, 0) 0), .int .i64 2]) ∧ N = [] := by
  cases h : Ks.lim k y
  all_goals
    have hli := fun w => lim_v k y _ w h
    refine Sp.enter (n := 14) Try.func15 rfl rfl rfl (Hp.refl w) ?_
    repeat' (first
        | ((with_reducible refine is_build ?_); (first | refine ⟨_, Yl_build rfl (p_build1 _), ?_⟩ | refine ⟨_, Yl_build rfl (p_build2 _ _), ?_⟩ | refine ⟨_, Yl_build rfl (s_build2 _ _), ?_⟩ | refine ⟨_, Yl_build rfl s_build0, ?_⟩))
        | ((with_reducible refine ie_store ?_); (first | ((refine' Ef_storeC (C' := sV k y (A1, c1) m.length) rfl rfl ?q1 ?q2 ?q3 ?q4 ?q5 ?_); (case q1 => rfl); (case q2 => exact siz_of rfl); (case q3 => (first | exact at0 | exact at1 | exact at2 | exact at3 | exact at4 | exact at5 | exact at6)); (case q4 => exact Nat.le_of_ble_eq_true rfl); (case q5 => rfl)) | ((refine' Ef_storeC (C' := sV k' y (A, cap) len) rfl rfl ?q1 ?q2 ?q3 ?q4 ?q5 ?_); (case q1 => rfl); (case q2 => exact siz_of rfl); (case q3 => (first | exact at0 | exact at1 | exact at2 | exact at3 | exact at4 | exact at5 | exact at6)); (case q4 => exact Nat.le_of_ble_eq_true rfl); (case q5 => rfl)) | ((refine' Ef_storeC (C' := sV k' y' (A, cap) len) rfl rfl ?q1 ?q2 ?q3 ?q4 ?q5 ?_); (case q1 => rfl); (case q2 => exact siz_of rfl); (case q3 => (first | exact at0 | exact at1 | exact at2 | exact at3 | exact at4 | exact at5 | exact at6)); (case q4 => exact Nat.le_of_ble_eq_true rfl); (case q5 => rfl))))
        | ((with_reducible refine ie_callf ?_); (first   | ((with_reducible refine g_call 38 ?_); (first | refine Ef_callP rfl rfl ent_38 (fun w _ => hli w) ?_))))
        | (first | (((refine' Ef_bsl (vs := [.slice A i i, .slice A2 n2 c2, .slice (subA A cap j 2) (len - j) (cap - j)]) (xs := [.slice A i i, .slice A2 n2 c2, .slice (subA A cap j 2) (len - j) (cap - j)]) rfl ?q1 rfl rfl ?q2 ?q3 ?q4 rfl ?_); (case q1 => exact app_of rfl); (case q2 => (intro u hu; rcases hu with _ | ⟨_, _ | ⟨_, _ | ⟨_, _ | ⟨_, hu⟩⟩⟩⟩ <;> first | rfl | (cases hu; done))); (case q3 => decide); (case q4 => decide)); (intro _)))
        | ((with_reducible refine g_draw ?_); (first | (((refine' T.drawB0 (id := 1) (.y 0 (.y 2 (.y 3 (.y 5 (.y 6 (.y 8 (.b 1 (.run [(4, true), (7, false), (9, true), (10, false), (11, false), (12, true), (13, false)]) 7 (.run [(9, true), (1, false), (4, true), (10, false), (11, false), (12, true), (13, false)])))))))) mixd ?q1 ?_); (case q1 => kernel_rfl)))))
        | refine w1 ?_
        | (refine w2 ?_ ?_ <;> intro hc)
        | (first | ((refine' ⟨_, Yl_sl_l (l := j) rfl rfl ?q1 ?q2 ?q3, ?_⟩); (case q1 => exact und_of rfl); (case q2 => exact siz_of rfl); (case q3 => omega)) | ((refine' ⟨_, Yl_sl_hm (h := i) (m := i) rfl rfl rfl ?q1 ?q2 ?q3 ?q4, ?_⟩); (case q1 => exact und_of rfl); (case q2 => exact siz_of rfl); (case q3 => omega); (case q4 => omega)))
        | (refine w4 ?_; (intro _))
        | (refine w5 ?_; (first | ((fail_if_success have := A1); intro A1 c1) | ((fail_if_success have := A2); intro A2 c2) | intro _ _))
        | refine w3 ?_ ?_
        | fail_if_success skip)
    exact ret_n [] (resC1 rfl rfl rfl (by (repeat (first | exact .head _ | apply List.Mem.tail))) (agg_of rfl)) (List.nil_sublist _) ⟨rfl, rfl⟩

section
variable (A : Option Addr) (len cap : Nat) (l : List Pr) (w : World) (hr : Rd w A len 2 (l.flatMap pE)) (hl : l.length = len) (hlc : len ≤ cap) (hle : len ≤ 300)
include hr hl hlc hle
omit hlc in
theorem look_t (k y : Int) (x : Pr) (h1 : Ks.May k y l) (h2 : Ks.pr x = true) : Sp Try.prog 37 [.agg (sV k y (A, cap) len), .agg (pE x).toArray] w [] fun v N => v = .tuple #[.int .i64 ((Ks.lo l x.1).length : Int), .bool (Ks.get l x.1).isSome, .int .i64 0] ∧ N = [] := by
  have hma := fun w h => may_v A len cap l w h hl (by omega) k y true ((Ks.may_iff _ _ _).2 h1)
  have hpr := fun w => pair_v x true w h2
  have hat := fun w h => at_c A len cap l w h hl (by omega) h1.so k y x.1
  refine Sp.enter (n := 26) Try.func37 rfl rfl rfl (Hp.refl w) ?_
  repeat' (first
      | ((with_reducible refine ie_callf ?_); (first | ((with_reducible refine g_call 28 ?_); (first | refine Ef_callP rfl rfl ent_28 (fun w hp => hma w (hp.rd hr fun _ => List.not_mem_nil)) ?_ | ((refine' Ef_callP rfl rfl ent_28 (fun w hp => hmb A1 c1 w (hp.rowOf ?q1)) ?_); (case q1 => (repeat (first | exact .head _ | apply List.Mem.tail)))))) | ((with_reducible refine g_call 43 ?_); (first | refine Ef_callP rfl rfl ent_43 (fun w _ => hpr w) ?_))  | ((with_reducible refine g_call 36 ?_); (first | refine Ef_callP rfl rfl ent_36 (fun w hp => hat w (hp.rd hr fun _ => List.not_mem_nil)) ?_))))
      | (first | (((refine' Ef_bsl (vs := [.slice A i i, .slice A2 n2 c2, .slice (subA A cap j 2) (len - j) (cap - j)]) (xs := [.slice A i i, .slice A2 n2 c2, .slice (subA A cap j 2) (len - j) (cap - j)]) rfl ?q1 rfl rfl ?q2 ?q3 ?q4 rfl ?_); (case q1 => exact app_of rfl); (case q2 => (intro u hu; rcases hu with _ | ⟨_, _ | ⟨_, _ | ⟨_, _ | ⟨_, hu⟩⟩⟩⟩ <;> first | rfl | (cases hu; done))); (case q3 => decide); (case q4 => decide)); (intro _)))
      | ((with_reducible refine g_draw ?_); (first | (((refine' T.drawB0 (id := 1) (.y 0 (.y 2 (.y 3 (.y 5 (.y 6 (.y 8 (.b 1 (.run [(4, true), (7, false), (9, true), (10, false), (11, false), (12, true), (13, false)]) 7 (.run [(9, true), (1, false), (4, true), (10, false), (11, false), (12, true), (13, false)])))))))) mixd ?q1 ?_); (case q1 => kernel_rfl)))))
      | refine w1 ?_
      | (refine w2 ?_ ?_ <;> intro hc)
      | (first | ((refine' ⟨_, Yl_sl_l (l := j) rfl rfl ?q1 ?q2 ?q3, ?_⟩); (case q1 => exact und_of rfl); (case q2 => exact siz_of rfl); (case q3 => omega)) | ((refine' ⟨_, Yl_sl_hm (h := i) (m := i) rfl rfl rfl ?q1 ?q2 ?q3 ?q4, ?_⟩); (case q1 => exact und_of rfl); (case q2 => exact siz_of rfl); (case q3 => omega); (case q4 => omega)))
      | (refine w4 ?_; (intro _))
      | (refine w5 ?_; (first | ((fail_if_success have := A1); intro A1 c1) | ((fail_if_success have := A2); intro A2 c2) | intro _ _))
      | refine w3 ?_ ?_
      | fail_if_success skip)
  exact ret_n [] (res3 rfl rfl rfl rfl) (List.nil_sublist _) ⟨rfl, rfl⟩
omit hlc in
theorem look_f (k y : Int) (x : Pr) (h : (Ks.may k y l && Ks.pr x) = false) : Sp Try.prog 37 [.agg (sV k y (A, cap) len), .agg (pE x).toArray] w [] fun v N => v = .tuple #[.int .i64 0, .bool false, .int .i64 2] ∧ N = [] := by
  cases h1 : Ks.may k y l with
  | false =>
    have hma := fun w h => may_v A len cap l w h hl (by omega) k y false h1
    refine Sp.enter (n := 26) Try.func37 rfl rfl rfl (Hp.refl w) ?_
    repeat' (first
        | ((with_reducible refine ie_callf ?_); (first | ((with_reducible refine g_call 28 ?_); (first | refine Ef_callP rfl rfl ent_28 (fun w hp => hma w (hp.rd hr fun _ => List.not_mem_nil)) ?_ | ((refine' Ef_callP rfl rfl ent_28 (fun w hp => hmb A1 c1 w (hp.rowOf ?q1)) ?_); (case q1 => (repeat (first | exact .head _ | apply List.Mem.tail)))))) | ((with_reducible refine g_call 43 ?_); (first | refine Ef_callP rfl rfl ent_43 (fun w _ => hpr w) ?_))  | ((with_reducible refine g_call 36 ?_); (first | refine Ef_callP rfl rfl ent_36 (fun w hp => hat w (hp.rd hr fun _ => List.not_mem_nil)) ?_))))
        | (first | (((refine' Ef_bsl (vs := [.slice A i i, .slice A2 n2 c2, .slice (subA A cap j 2) (len - j) (cap - j)]) (xs := [.slice A i i, .slice A2 n2 c2, .slice (subA A cap j 2) (len - j) (cap - j)]) rfl ?q1 rfl rfl ?q2 ?q3 ?q4 rfl ?_); (case q1 => exact app_of rfl); (case q2 => (intro u hu; rcases hu with _ | ⟨_, _ | ⟨_, _ | ⟨_, _ | ⟨_, hu⟩⟩⟩⟩ <;> first | rfl | (cases hu; done))); (case q3 => decide); (case q4 => decide)); (intro _)))
        | ((with_reducible refine g_draw ?_); (first | (((refine' T.drawB0 (id := 1) (.y 0 (.y 2 (.y 3 (.y 5 (.y 6 (.y 8 (.b 1 (.run [(4, true), (7, false), (9, true), (10, false), (11, false), (12, true), (13, false)]) 7 (.run [(9, true), (1, false), (4, true), (10, false), (11, false), (12, true), (13, false)])))))))) mixd ?q1 ?_); (case q1 => kernel_rfl)))))
        | refine w1 ?_
        | (refine w2 ?_ ?_ <;> intro hc)
        | (first | ((refine' ⟨_, Yl_sl_l (l := j) rfl rfl ?q1 ?q2 ?q3, ?_⟩); (case q1 => exact und_of rfl); (case q2 => exact siz_of rfl); (case q3 => omega)) | ((refine' ⟨_, Yl_sl_hm (h := i) (m := i) rfl rfl rfl ?q1 ?q2 ?q3 ?q4, ?_⟩); (case q1 => exact und_of rfl); (case q2 => exact siz_of rfl); (case q3 => omega); (case q4 => omega)))
        | (refine w4 ?_; (intro _))
        | (refine w5 ?_; (first | ((fail_if_success have := A1); intro A1 c1) | ((fail_if_success have := A2); intro A2 c2) | intro _ _))
        | refine w3 ?_ ?_
        | fail_if_success skip)
    exact ret_n [] (res3 rfl rfl rfl rfl) (List.nil_sublist _) ⟨rfl, rfl⟩
  | true =>
    rw [h1, Bool.true_and] at h
    have hma := fun w h => may_v A len cap l w h hl (by omega) k y true h1
    have hpr := fun w => pair_v x false w h
    refine Sp.enter (n := 26) Try.func37 rfl rfl rfl (Hp.refl w) ?_
    repeat' (first
        | ((with_reducible refine ie_callf ?_); (first | ((with_reducible refine g_call 28 ?_); (first | refine Ef_callP rfl rfl ent_28 (fun w hp => hma w (hp.rd hr fun _ => List.not_mem_nil)) ?_ | ((refine' Ef_callP rfl rfl ent_28 (fun w hp => hmb A1 c1 w (hp.rowOf ?q1)) ?_); (case q1 => (repeat (first | exact .head _ | apply List.Mem.tail)))))) | ((with_reducible refine g_call 43 ?_); (first | refine Ef_callP rfl rfl ent_43 (fun w _ => hpr w) ?_))  | ((with_reducible refine g_call 36 ?_); (first | refine Ef_callP rfl rfl ent_36 (fun w hp => hat w (hp.rd hr fun _ => List.not_mem_nil)) ?_))))
        | (first | (((refine' Ef_bsl (vs := [.slice A i i, .slice A2 n2 c2, .slice (subA A cap j 2) (len - j) (cap - j)]) (xs := [.slice A i i, .slice A2 n2 c2, .slice (subA A cap j 2) (len - j) (cap - j)]) rfl ?q1 rfl rfl ?q2 ?q3 ?q4 rfl ?_); (case q1 => exact app_of rfl); (case q2 => (intro u hu; rcases hu with _ | ⟨_, _ | ⟨_, _ | ⟨_, _ | ⟨_, hu⟩⟩⟩⟩ <;> first | rfl | (cases hu; done))); (case q3 => decide); (case q4 => decide)); (intro _)))
        | ((with_reducible refine g_draw ?_); (first | (((refine' T.drawB0 (id := 1) (.y 0 (.y 2 (.y 3 (.y 5 (.y 6 (.y 8 (.b 1 (.run [(4, true), (7, false), (9, true), (10, false), (11, false), (12, true), (13, false)]) 7 (.run [(9, true), (1, false), (4, true), (10, false), (11, false), (12, true), (13, false)])))))))) mixd ?q1 ?_); (case q1 => kernel_rfl)))))
        | refine w1 ?_
        | (refine w2 ?_ ?_ <;> intro hc)
        | (first | ((refine' ⟨_, Yl_sl_l (l := j) rfl rfl ?q1 ?q2 ?q3, ?_⟩); (case q1 => exact und_of rfl); (case q2 => exact siz_of rfl); (case q3 => omega)) | ((refine' ⟨_, Yl_sl_hm (h := i) (m := i) rfl rfl rfl ?q1 ?q2 ?q3 ?q4, ?_⟩); (case q1 => exact und_of rfl); (case q2 => exact siz_of rfl); (case q3 => omega); (case q4 => omega)))
        | (refine w4 ?_; (intro _))
        | (refine w5 ?_; (first | ((fail_if_success have := A1); intro A1 c1) | ((fail_if_success have := A2); intro A2 c2) | intro _ _))
        | refine w3 ?_ ?_
        | fail_if_success skip)
    exact ret_n [] (res3 rfl rfl rfl rfl) (List.nil_sublist _) ⟨rfl, rfl⟩

section
variable (A2 : Option Addr) (n2 c2 : Nat) (l2 : List Pr) (hr2 : Rd w A2 n2 2 (l2.flatMap pE)) (hl2 : l2.length = n2) (hle2 : n2 ≤ 300) (i j : Nat) (hi : i ≤ len) (hj : j ≤ len) (m : List Pr) (hm : l.take i ++ (l2 ++ l.drop j) = m) (k y : Int)
include hr2 hl2 hle2 hi hj hm
set_option maxHeartbeats 2000000 in
theorem with_t (h : Ks.may k y m = true) : Sp Try.prog 39 [.agg (sV k y (A, cap) len), .int .i64 (i : Int), .int .i64 (j : Int), .slice A2 n2 c2] w [] fun v N => ∃ z : Option Addr × Nat, v = .tuple #[.agg (sV k y z m.length), .int .i64 0] ∧ N = [rP m z] := by
  have hml : m.length ≤ 1000 := by rw [← hm, List.length_append, List.length_append, List.length_take, List.length_drop]; omega
  have hcat : Ks.cat [((A, i, i), l.take i), ((A2, n2, c2), l2), ((subA A cap j 2, len - j, cap - j), l.drop j)] = m := by rw [← hm]; unfold Ks.cat; simp
  have hcc : ∀ b (w : World), Rd w (some ⟨b, 0, none⟩) 3 1 [.slice A i i, .slice A2 n2 c2, .slice (subA A cap j 2) (len - j) (cap - j)] → Rd w A len 2 (l.flatMap pE) → Rd w A2 n2 2 (l2.flatMap pE) → Sp Try.prog 47 [.slice (some ⟨b, 0, none⟩) 3 3] w [] fun v N => ∃ z : Option Addr × Nat, v = .slice z.1 m.length z.2 ∧ N = [rP m z] := fun b w hB hA hA2 => by
    have := concat_c (some ⟨b, 0, none⟩) 3 [((A, i, i), l.take i), ((A2, n2, c2), l2), ((subA A cap j 2, len - j, cap - j), l.drop j)] w hB (fun p hp => by
      simp only [List.mem_cons, List.not_mem_nil, or_false] at hp
      rcases hp with rfl | rfl | rfl
      · exact ⟨hA.upto pE_len (by dsimp only; omega), by rw [List.length_take]; dsimp only; omega⟩
      · exact ⟨hA2, hl2⟩
      · exact ⟨hA.from_ pE_len hl (by omega) hlc, by rw [List.length_drop]; dsimp only; omega⟩) (by rw [hcat]; omega) (by show 3 ≤ 1000; decide)
    rwa [hcat] at this
  have hmb := fun A1 c1 w h2 => may_v A1 m.length c1 m w h2 rfl hml k y true h
  refine Sp.enter (n := 28) Try.func39 rfl rfl rfl (Hp.refl w) ?_
  repeat' (first
      | ((with_reducible refine is_build ?_); (first | refine ⟨_, Yl_build rfl (p_build1 _), ?_⟩ | refine ⟨_, Yl_build rfl (p_build2 _ _), ?_⟩ | refine ⟨_, Yl_build rfl (s_build2 _ _), ?_⟩ | refine ⟨_, Yl_build rfl s_build0, ?_⟩))
      | ((with_reducible refine ie_store ?_); (first | ((refine' Ef_storeC (C' := sV k y (A1, c1) m.length) rfl rfl ?q1 ?q2 ?q3 ?q4 ?q5 ?_); (case q1 => rfl); (case q2 => exact siz_of rfl); (case q3 => (first | exact at0 | exact at1 | exact at2 | exact at3 | exact at4 | exact at5 | exact at6)); (case q4 => exact Nat.le_of_ble_eq_true rfl); (case q5 => rfl)) | ((refine' Ef_storeC (C' := sV k' y (A, cap) len) rfl rfl ?q1 ?q2 ?q3 ?q4 ?q5 ?_); (case q1 => rfl); (case q2 => exact siz_of rfl); (case q3 => (first | exact at0 | exact at1 | exact at2 | exact at3 | exact at4 | exact at5 | exact at6)); (case q4 => exact Nat.le_of_ble_eq_true rfl); (case q5 => rfl)) | ((refine' Ef_storeC (C' := sV k' y' (A, cap) len) rfl rfl ?q1 ?q2 ?q3 ?q4 ?q5 ?_); (case q1 => rfl); (case q2 => exact siz_of rfl); (case q3 => (first | exact at0 | exact at1 | exact at2 | exact at3 | exact at4 | exact at5 | exact at6)); (case q4 => exact Nat.le_of_ble_eq_true rfl); (case q5 => rfl))))
      | ((with_reducible refine ie_callf ?_); (first | ((with_reducible refine g_call 28 ?_); (first | refine Ef_callP rfl rfl ent_28 (fun w hp => hma w (hp.rd hr fun _ => List.not_mem_nil)) ?_ | ((refine' Ef_callP rfl rfl ent_28 (fun w hp => hmb A1 c1 w (hp.rowOf ?q1)) ?_); (case q1 => (repeat (first | exact .head _ | apply List.Mem.tail))))))     | ((with_reducible refine g_call 47 ?_); (first | (((refine' Ef_callN rfl rfl ent_47 (fun w hp => hcc b3 w (hp.rowOf ?q1) (hp.rd hr fun _ => List.not_mem_nil) (hp.rd hr2 fun _ => List.not_mem_nil)) ?_); (case q1 => (repeat (first | exact .head _ | apply List.Mem.tail)))); rintro ⟨A1, c1⟩)))))
      | (first | (((refine' Ef_bsl (vs := [.slice A i i, .slice A2 n2 c2, .slice (subA A cap j 2) (len - j) (cap - j)]) (xs := [.slice A i i, .slice A2 n2 c2, .slice (subA A cap j 2) (len - j) (cap - j)]) rfl ?q1 rfl rfl ?q2 ?q3 ?q4 rfl ?_); (case q1 => exact app_of rfl); (case q2 => (intro u hu; rcases hu with _ | ⟨_, _ | ⟨_, _ | ⟨_, _ | ⟨_, hu⟩⟩⟩⟩ <;> first | rfl | (cases hu; done))); (case q3 => decide); (case q4 => decide)); (first | ((fail_if_success have := b1); intro b1) | ((fail_if_success have := b2); intro b2) | ((fail_if_success have := b3); intro b3) | intro _)))
      | ((with_reducible refine g_draw ?_); (first | (((refine' T.drawB0 (id := 1) (.y 0 (.y 2 (.y 3 (.y 5 (.y 6 (.y 8 (.b 1 (.run [(4, true), (7, false), (9, true), (10, false), (11, false), (12, true), (13, false)]) 7 (.run [(9, true), (1, false), (4, true), (10, false), (11, false), (12, true), (13, false)])))))))) mixd ?q1 ?_); (case q1 => kernel_rfl)))))
      | refine w1 ?_
      | (refine w2 ?_ ?_ <;> intro hc)
      | (first | ((refine' ⟨_, Yl_sl_l (l := j) rfl rfl ?q1 ?q2 ?q3, ?_⟩); (case q1 => exact und_of rfl); (case q2 => exact siz_of rfl); (case q3 => omega)) | ((refine' ⟨_, Yl_sl_hm (h := i) (m := i) rfl rfl rfl ?q1 ?q2 ?q3 ?q4, ?_⟩); (case q1 => exact und_of rfl); (case q2 => exact siz_of rfl); (case q3 => omega); (case q4 => omega)))
      | (refine w4 ?_; (first | ((fail_if_success have := b1); intro b1) | ((fail_if_success have := b2); intro b2) | ((fail_if_success have := b3); intro b3) | intro _))
      | (refine w5 ?_; (first | ((fail_if_success have := A1); intro A1 c1) | ((fail_if_success have := A2); intro A2 c2) | intro _ _))
      | refine w3 ?_ ?_
      | fail_if_success skip)
  all_goals exact ret_n [rP m (A1, c1)] (resC1 rfl rfl rfl (by (repeat (first | exact .head _ | apply List.Mem.tail))) (agg_of rfl)) (by (repeat (first | exact List.nil_sublist _ | refine List.Sublist.cons_cons _ ?_ | refine List.Sublist.cons _ ?_))) ⟨(A1, c1), rfl, rfl⟩
set_option maxHeartbeats 2000000 in
theorem with_f (h : Ks.may k y m = false) : Sp Try.prog 39 [.agg (sV k y (A, cap) len), .int .i64 (i : Int), .int .i64 (j : Int), .slice A2 n2 c2] w [] fun v N => v = .tuple #[.agg (sV 0 0 (none, 0) 0), .int .i64 120] ∧ N = [] := by
  have hml : m.length ≤ 1000 := by rw [← hm, List.length_append, List.length_append, List.length_take, List.length_drop]; omega
  have hcat : Ks.cat [((A, i, i), l.take i), ((A2, n2, c2), l2), ((subA A cap j 2, len - j, cap - j), l.drop j)] = m := by rw [← hm]; unfold Ks.cat; simp
  have hcc : ∀ b (w : World), Rd w (some ⟨b, 0, none⟩) 3 1 [.slice A i i, .slice A2 n2 c2, .slice (subA A cap j 2) (len - j) (cap - j)] → Rd w A len 2 (l.flatMap pE) → Rd w A2 n2 2 (l2.flatMap pE) → Sp Try.prog 47 [.slice (some ⟨b, 0, none⟩) 3 3] w [] fun v N => ∃ z : Option Addr × Nat, v = .slice z.1 m.length z.2 ∧ N = [rP m z] := fun b w hB hA hA2 => by
    have := concat_c (some ⟨b, 0, none⟩) 3 [((A, i, i), l.take i), ((A2, n2, c2), l2), ((subA A cap j 2, len - j, cap - j), l.drop j)] w hB (fun p hp => by
      simp only [List.mem_cons, List.not_mem_nil, or_false] at hp
      rcases hp with rfl | rfl | rfl
      · exact ⟨hA.upto pE_len (by dsimp only; omega), by rw [List.length_take]; dsimp only; omega⟩
      · exact ⟨hA2, hl2⟩
      · exact ⟨hA.from_ pE_len hl (by omega) hlc, by rw [List.length_drop]; dsimp only; omega⟩) (by rw [hcat]; omega) (by show 3 ≤ 1000; decide)
    rwa [hcat] at this
  have hmb := fun A1 c1 w h2 => may_v A1 m.length c1 m w h2 rfl hml k y false h
  refine Sp.enter (n := 28) Try.func39 rfl rfl rfl (Hp.refl w) ?_
  repeat' (first
      | ((with_reducible refine is_build ?_); (first | refine ⟨_, Yl_build rfl (p_build1 _), ?_⟩ | refine ⟨_, Yl_build rfl (p_build2 _ _), ?_⟩ | refine ⟨_, Yl_build rfl (s_build2 _ _), ?_⟩ | refine ⟨_, Yl_build rfl s_build0, ?_⟩))
      | ((with_reducible refine ie_store ?_); (first | ((refine' Ef_storeC (C' := sV k y (A1, c1) m.length) rfl rfl ?q1 ?q2 ?q3 ?q4 ?q5 ?_); (case q1 => rfl); (case q2 => exact siz_of rfl); (case q3 => (first | exact at0 | exact at1 | exact at2 | exact at3 | exact at4 | exact at5 | exact at6)); (case q4 => exact Nat.le_of_ble_eq_true rfl); (case q5 => rfl)) | ((refine' Ef_storeC (C' := sV k' y (A, cap) len) rfl rfl ?q1 ?q2 ?q3 ?q4 ?q5 ?_); (case q1 => rfl); (case q2 => exact siz_of rfl); (case q3 => (first | exact at0 | exact at1 | exact at2 | exact at3 | exact at4 | exact at5 | exact at6)); (case q4 => exact Nat.le_of_ble_eq_true rfl); (case q5 => rfl)) | ((refine' Ef_storeC (C' := sV k' y' (A, cap) len) rfl rfl ?q1 ?q2 ?q3 ?q4 ?q5 ?_); (case q1 => rfl); (case q2 => exact siz_of rfl); (case q3 => (first | exact at0 | exact at1 | exact at2 | exact at3 | exact at4 | exact at5 | exact at6)); (case q4 => exact Nat.le_of_ble_eq_true rfl); (case q5 => rfl))))
      | ((with_reducible refine ie_callf ?_); (first | ((with_reducible refine g_call 28 ?_); (first | refine Ef_callP rfl rfl ent_28 (fun w hp => hma w (hp.rd hr fun _ => List.not_mem_nil)) ?_ | ((refine' Ef_callP rfl rfl ent_28 (fun w hp => hmb A1 c1 w (hp.rowOf ?q1)) ?_); (case q1 => (repeat (first | exact .head _ | apply List.Mem.tail))))))     | ((with_reducible refine g_call 47 ?_); (first | (((refine' Ef_callN rfl rfl ent_47 (fun w hp => hcc b3 w (hp.rowOf ?q1) (hp.rd hr fun _ => List.not_mem_nil) (hp.rd hr2 fun _ => List.not_mem_nil)) ?_); (case q1 => (repeat (first | exact .head _ | apply List.Mem.tail)))); rintro ⟨A1, c1⟩)))))
      | (first | (((refine' Ef_bsl (vs := [.slice A i i, .slice A2 n2 c2, .slice (subA A cap j 2) (len - j) (cap - j)]) (xs := [.slice A i i, .slice A2 n2 c2, .slice (subA A cap j 2) (len - j) (cap - j)]) rfl ?q1 rfl rfl ?q2 ?q3 ?q4 rfl ?_); (case q1 => exact app_of rfl); (case q2 => (intro u hu; rcases hu with _ | ⟨_, _ | ⟨_, _ | ⟨_, _ | ⟨_, hu⟩⟩⟩⟩ <;> first | rfl | (cases hu; done))); (case q3 => decide); (case q4 => decide)); (first | ((fail_if_success have := b1); intro b1) | ((fail_if_success have := b2); intro b2) | ((fail_if_success have := b3); intro b3) | intro _)))
      | ((with_reducible refine g_draw ?_); (first | (((refine' T.drawB0 (id := 1) (.y 0 (.y 2 (.y 3 (.y 5 (.y 6 (.y 8 (.b 1 (.run [(4, true), (7, false), (9, true), (10, false), (11, false), (12, true), (13, false)]) 7 (.run [(9, true), (1, false), (4, true), (10, false), (11, false), (12, true), (13, false)])))))))) mixd ?q1 ?_); (case q1 => kernel_rfl)))))
      | refine w1 ?_
      | (refine w2 ?_ ?_ <;> intro hc)
      | (first | ((refine' ⟨_, Yl_sl_l (l := j) rfl rfl ?q1 ?q2 ?q3, ?_⟩); (case q1 => exact und_of rfl); (case q2 => exact siz_of rfl); (case q3 => omega)) | ((refine' ⟨_, Yl_sl_hm (h := i) (m := i) rfl rfl rfl ?q1 ?q2 ?q3 ?q4, ?_⟩); (case q1 => exact und_of rfl); (case q2 => exact siz_of rfl); (case q3 => omega); (case q4 => omega)))
      | (refine w4 ?_; (first | ((fail_if_success have := b1); intro b1) | ((fail_if_success have := b2); intro b2) | ((fail_if_success have := b3); intro b3) | intro _))
      | (refine w5 ?_; (first | ((fail_if_success have := A1); intro A1 c1) | ((fail_if_success have := A2); intro A2 c2) | intro _ _))
      | refine w3 ?_ ?_
      | fail_if_success skip)
  all_goals exact ret_n [] (resC1 rfl rfl rfl (by (repeat (first | exact .head _ | apply List.Mem.tail))) (agg_of rfl)) (List.nil_sublist _) ⟨rfl, rfl⟩
end

omit hlc in
set_option maxHeartbeats 2000000 in
theorem get_c (k y : Int) (key : ByteArray) : Sp Try.prog 14 [.agg (sV k y (A, cap) len), .string key] w [] fun v N => v = .tuple #[.string (Ks.getR k y l key).1, .int .i64 (Ks.getR k y l key).2] ∧ N = [] := by
  cases hb : (Ks.may k y l && Ks.pr (key, Ks.e)) with
  | false =>
    have en : Ks.getR k y l key = (Ks.e, 2) := by unfold Ks.getR; rw [hb]; rfl
    rw [en]
    have hlk := fun w h => look_f A len cap l w h hl hle k y (key, Ks.e) hb
    refine Sp.enter (n := 30) Try.func14 rfl rfl rfl (Hp.refl w) ?_
    repeat' (first
        | ((with_reducible refine is_build ?_); (first | refine ⟨_, Yl_build rfl (p_build1 _), ?_⟩ | refine ⟨_, Yl_build rfl (p_build2 _ _), ?_⟩ | refine ⟨_, Yl_build rfl (s_build2 _ _), ?_⟩ | refine ⟨_, Yl_build rfl s_build0, ?_⟩))
        | ((with_reducible refine ie_callf ?_); (first     | ((with_reducible refine g_call 37 ?_); (first | refine Ef_callP rfl rfl ent_37 (fun w hp => hlk w (hp.rd hr fun _ => List.not_mem_nil)) ?_))))
        | (first | (((refine' Ef_bsl (vs := [.slice A i i, .slice A2 n2 c2, .slice (subA A cap j 2) (len - j) (cap - j)]) (xs := [.slice A i i, .slice A2 n2 c2, .slice (subA A cap j 2) (len - j) (cap - j)]) rfl ?q1 rfl rfl ?q2 ?q3 ?q4 rfl ?_); (case q1 => exact app_of rfl); (case q2 => (intro u hu; rcases hu with _ | ⟨_, _ | ⟨_, _ | ⟨_, _ | ⟨_, hu⟩⟩⟩⟩ <;> first | rfl | (cases hu; done))); (case q3 => decide); (case q4 => decide)); (intro _)))
        | ((with_reducible refine g_draw ?_); (first | (((refine' T.drawB0 (id := 1) (.y 0 (.y 2 (.y 3 (.y 5 (.y 6 (.y 8 (.b 1 (.run [(4, true), (7, false), (9, true), (10, false), (11, false), (12, true), (13, false)]) 7 (.run [(9, true), (1, false), (4, true), (10, false), (11, false), (12, true), (13, false)])))))))) mixd ?q1 ?_); (case q1 => kernel_rfl)))))
        | refine w1 ?_
        | (refine w2 ?_ ?_ <;> intro hc)
        | (first | ((refine' ⟨_, Yl_sl_l (l := j) rfl rfl ?q1 ?q2 ?q3, ?_⟩); (case q1 => exact und_of rfl); (case q2 => exact siz_of rfl); (case q3 => omega)) | ((refine' ⟨_, Yl_sl_hm (h := i) (m := i) rfl rfl rfl ?q1 ?q2 ?q3 ?q4, ?_⟩); (case q1 => exact und_of rfl); (case q2 => exact siz_of rfl); (case q3 => omega); (case q4 => omega)))
        | (refine w4 ?_; (intro _))
        | (refine w5 ?_; (first | ((fail_if_success have := A1); intro A1 c1) | ((fail_if_success have := A2); intro A2 c2) | intro _ _))
        | refine w3 ?_ ?_
        | fail_if_success skip)
    exact ret_n [] (res2 rfl rfl rfl) (List.nil_sublist _) ⟨rfl, rfl⟩
  | true =>
    have hb2 := hb
    rw [Bool.and_eq_true, Ks.may_iff] at hb2
    have hlk := fun w h => look_t A len cap l w h hl hle k y (key, Ks.e) hb2.1 hb2.2
    dsimp only at hlk
    rcases Ks.get_or hb2.1.so key with ⟨h1, _⟩ | ⟨v, h1, h2, h3, _⟩
    · have en : Ks.getR k y l key = (Ks.e, 110) := by unfold Ks.getR; rw [hb, h1]; rfl
      rw [en]
      rw [h1] at hlk
      refine Sp.enter (n := 30) Try.func14 rfl rfl rfl (Hp.refl w) ?_
      repeat' (first
          | ((with_reducible refine is_build ?_); (first | refine ⟨_, Yl_build rfl (p_build1 _), ?_⟩ | refine ⟨_, Yl_build rfl (p_build2 _ _), ?_⟩ | refine ⟨_, Yl_build rfl (s_build2 _ _), ?_⟩ | refine ⟨_, Yl_build rfl s_build0, ?_⟩))
          | ((with_reducible refine ie_callf ?_); (first     | ((with_reducible refine g_call 37 ?_); (first | refine Ef_callP rfl rfl ent_37 (fun w hp => hlk w (hp.rd hr fun _ => List.not_mem_nil)) ?_))))
          | (first | (((refine' Ef_bsl (vs := [.slice A i i, .slice A2 n2 c2, .slice (subA A cap j 2) (len - j) (cap - j)]) (xs := [.slice A i i, .slice A2 n2 c2, .slice (subA A cap j 2) (len - j) (cap - j)]) rfl ?q1 rfl rfl ?q2 ?q3 ?q4 rfl ?_); (case q1 => exact app_of rfl); (case q2 => (intro u hu; rcases hu with _ | ⟨_, _ | ⟨_, _ | ⟨_, _ | ⟨_, hu⟩⟩⟩⟩ <;> first | rfl | (cases hu; done))); (case q3 => decide); (case q4 => decide)); (intro _)))
          | ((with_reducible refine g_draw ?_); (first | (((refine' T.drawB0 (id := 1) (.y 0 (.y 2 (.y 3 (.y 5 (.y 6 (.y 8 (.b 1 (.run [(4, true), (7, false), (9, true), (10, false), (11, false), (12, true), (13, false)]) 7 (.run [(9, true), (1, false), (4, true), (10, false), (11, false), (12, true), (13, false)])))))))) mixd ?q1 ?_); (case q1 => kernel_rfl)))))
          | refine w1 ?_
          | (refine w2 ?_ ?_ <;> intro hc)
          | (first | ((refine' ⟨_, Yl_sl_l (l := j) rfl rfl ?q1 ?q2 ?q3, ?_⟩); (case q1 => exact und_of rfl); (case q2 => exact siz_of rfl); (case q3 => omega)) | ((refine' ⟨_, Yl_sl_hm (h := i) (m := i) rfl rfl rfl ?q1 ?q2 ?q3 ?q4, ?_⟩); (case q1 => exact und_of rfl); (case q2 => exact siz_of rfl); (case q3 => omega); (case q4 => omega)))
          | (refine w4 ?_; (intro _))
          | (refine w5 ?_; (first | ((fail_if_success have := A1); intro A1 c1) | ((fail_if_success have := A2); intro A2 c2) | intro _ _))
          | refine w3 ?_ ?_
          | fail_if_success skip)
      exact ret_n [] (res2 rfl rfl rfl) (List.nil_sublist _) ⟨rfl, rfl⟩
    · have en : Ks.getR k y l key = (v, 0) := by unfold Ks.getR; rw [hb, h1]; rfl
      rw [en]
      rw [h1] at hlk
      have e1 := enc_at pE_len h2 (j := 1) (by decide)
      generalize (Ks.lo l key).length = i at h2 h3 hlk e1
      refine Sp.enter (n := 30) Try.func14 rfl rfl rfl (Hp.refl w) ?_
      repeat' (first
          | ((with_reducible refine is_build ?_); (first | refine ⟨_, Yl_build rfl (p_build1 _), ?_⟩ | refine ⟨_, Yl_build rfl (p_build2 _ _), ?_⟩ | refine ⟨_, Yl_build rfl (s_build2 _ _), ?_⟩ | refine ⟨_, Yl_build rfl s_build0, ?_⟩))
          | ((with_reducible refine ie_callf ?_); (first     | ((with_reducible refine g_call 37 ?_); (first | refine Ef_callP rfl rfl ent_37 (fun w hp => hlk w (hp.rd hr fun _ => List.not_mem_nil)) ?_))))
          | (first | (((refine' Ef_bsl (vs := [.slice A i i, .slice A2 n2 c2, .slice (subA A cap j 2) (len - j) (cap - j)]) (xs := [.slice A i i, .slice A2 n2 c2, .slice (subA A cap j 2) (len - j) (cap - j)]) rfl ?q1 rfl rfl ?q2 ?q3 ?q4 rfl ?_); (case q1 => exact app_of rfl); (case q2 => (intro u hu; rcases hu with _ | ⟨_, _ | ⟨_, _ | ⟨_, _ | ⟨_, hu⟩⟩⟩⟩ <;> first | rfl | (cases hu; done))); (case q3 => decide); (case q4 => decide)); (intro _)))
          | ((with_reducible refine g_draw ?_); (first | (((refine' T.drawB0 (id := 1) (.y 0 (.y 2 (.y 3 (.y 5 (.y 6 (.y 8 (.b 1 (.run [(4, true), (7, false), (9, true), (10, false), (11, false), (12, true), (13, false)]) 7 (.run [(9, true), (1, false), (4, true), (10, false), (11, false), (12, true), (13, false)])))))))) mixd ?q1 ?_); (case q1 => kernel_rfl)))))
          | refine w1 ?_
          | (refine w2 ?_ ?_ <;> intro hc)
          | (first | ((refine' ⟨_, Yl_sl_l (l := j) rfl rfl ?q1 ?q2 ?q3, ?_⟩); (case q1 => exact und_of rfl); (case q2 => exact siz_of rfl); (case q3 => omega)) | ((refine' ⟨_, Yl_sl_hm (h := i) (m := i) rfl rfl rfl ?q1 ?q2 ?q3 ?q4, ?_⟩); (case q1 => exact und_of rfl); (case q2 => exact siz_of rfl); (case q3 => omega); (case q4 => omega)))
          | (refine w4 ?_; (intro _))
          | (refine w5 ?_; (first | ((fail_if_success have := A1); intro A1 c1) | ((fail_if_success have := A2); intro A2 c2) | intro _ _))
          | refine w3 ?_ ?_
          | fail_if_success skip)
      exact ret_n [] (res2 rfl rfl rfl) (List.nil_sublist _) ⟨rfl, rfl⟩
set_option maxHeartbeats 2000000 in
theorem resize_c (k y k' y' : Int) : Sp Try.prog 16 [.agg (sV k y (A, cap) len), .int .i64 k', .int .i64 y'] w [] fun v N => ∃ z : Option Addr × Nat, v = .tuple #[.agg (sV (Ks.resR k y l k' y').1 (Ks.resR k y l k' y').2.1 z (Ks.resR k y l k' y').2.2.1.length), .int .i64 (Ks.resR k y l k' y').2.2.2] ∧ N = [rP (Ks.resR k y l k' y').2.2.1 z] := by
  cases h1 : Ks.may k y l with
  | false =>
    have en : Ks.resR k y l k' y' = (0, 0, [], 2) := by unfold Ks.resR; rw [h1]; rfl
    rw [en]
    have hma := fun w h => may_v A len cap l w h hl (by omega) k y false h1
    refine Sp.enter (n := 26) Try.func16 rfl rfl rfl (Hp.refl w) ?_
    refine T.row0e 57 2 ?_
    repeat' (first
        | ((with_reducible refine is_build ?_); (first | refine ⟨_, Yl_build rfl (p_build1 _), ?_⟩ | refine ⟨_, Yl_build rfl (p_build2 _ _), ?_⟩ | refine ⟨_, Yl_build rfl (s_build2 _ _), ?_⟩ | refine ⟨_, Yl_build rfl s_build0, ?_⟩))
        | ((with_reducible refine ie_store ?_); (first | ((refine' Ef_storeC (C' := sV k y (A1, c1) m.length) rfl rfl ?q1 ?q2 ?q3 ?q4 ?q5 ?_); (case q1 => rfl); (case q2 => exact siz_of rfl); (case q3 => (first | exact at0 | exact at1 | exact at2 | exact at3 | exact at4 | exact at5 | exact at6)); (case q4 => exact Nat.le_of_ble_eq_true rfl); (case q5 => rfl)) | ((refine' Ef_storeC (C' := sV k' y (A, cap) len) rfl rfl ?q1 ?q2 ?q3 ?q4 ?q5 ?_); (case q1 => rfl); (case q2 => exact siz_of rfl); (case q3 => (first | exact at0 | exact at1 | exact at2 | exact at3 | exact at4 | exact at5 | exact at6)); (case q4 => exact Nat.le_of_ble_eq_true rfl); (case q5 => rfl)) | ((refine' Ef_storeC (C' := sV k' y' (A, cap) len) rfl rfl ?q1 ?q2 ?q3 ?q4 ?q5 ?_); (case q1 => rfl); (case q2 => exact siz_of rfl); (case q3 => (first | exact at0 | exact at1 | exact at2 | exact at3 | exact at4 | exact at5 | exact at6)); (case q4 => exact Nat.le_of_ble_eq_true rfl); (case q5 => rfl))))
        | ((with_reducible refine ie_callf ?_); (first | ((with_reducible refine g_call 28 ?_); (first | refine Ef_callP rfl rfl ent_28 (fun w hp => hma w (hp.rd hr fun _ => List.not_mem_nil)) ?_ | ((refine' Ef_callP rfl rfl ent_28 (fun w hp => hmb A1 c1 w (hp.rowOf ?q1)) ?_); (case q1 => (repeat (first | exact .head _ | apply List.Mem.tail))))))  | ((with_reducible refine g_call 38 ?_); (first | refine Ef_callP rfl rfl ent_38 (fun w _ => hli w) ?_))    | ((with_reducible refine g_call 39 ?_); (first | (refine Ef_callN rfl rfl ent_39 (fun w hp => hwi w (hp.rd hr fun _ => List.not_mem_nil)) ?_; rintro ⟨A1, c1⟩) | refine Ef_callP rfl rfl ent_39 (fun w hp => hwi w (hp.rd hr fun _ => List.not_mem_nil)) ?_))))
        | (first | (((refine' Ef_bsl (vs := [.slice A i i, .slice A2 n2 c2, .slice (subA A cap j 2) (len - j) (cap - j)]) (xs := [.slice A i i, .slice A2 n2 c2, .slice (subA A cap j 2) (len - j) (cap - j)]) rfl ?q1 rfl rfl ?q2 ?q3 ?q4 rfl ?_); (case q1 => exact app_of rfl); (case q2 => (intro u hu; rcases hu with _ | ⟨_, _ | ⟨_, _ | ⟨_, _ | ⟨_, hu⟩⟩⟩⟩ <;> first | rfl | (cases hu; done))); (case q3 => decide); (case q4 => decide)); (intro _)))
        | ((with_reducible refine g_draw ?_); (first | (((refine' T.drawB0 (id := 1) (.y 0 (.y 2 (.y 3 (.y 5 (.y 6 (.y 8 (.b 1 (.run [(4, true), (7, false), (9, true), (10, false), (11, false), (12, true), (13, false)]) 7 (.run [(9, true), (1, false), (4, true), (10, false), (11, false), (12, true), (13, false)])))))))) mixd ?q1 ?_); (case q1 => kernel_rfl)))))
        | refine w1 ?_
        | (refine w2 ?_ ?_ <;> intro hc)
        | (first | ((refine' ⟨_, Yl_sl_l (l := j) rfl rfl ?q1 ?q2 ?q3, ?_⟩); (case q1 => exact und_of rfl); (case q2 => exact siz_of rfl); (case q3 => omega)) | ((refine' ⟨_, Yl_sl_hm (h := i) (m := i) rfl rfl rfl ?q1 ?q2 ?q3 ?q4, ?_⟩); (case q1 => exact und_of rfl); (case q2 => exact siz_of rfl); (case q3 => omega); (case q4 => omega)))
        | (refine w4 ?_; (intro _))
        | (refine w5 ?_; (first | ((fail_if_success have := A1); intro A1 c1) | ((fail_if_success have := A2); intro A2 c2) | intro _ _))
        | refine w3 ?_ ?_
        | fail_if_success skip)
    exact ret_n [rP [] (none, 0)] (resC1 rfl rfl rfl (by (repeat (first | exact .head _ | apply List.Mem.tail))) (agg_of rfl)) (by (repeat (first | exact List.nil_sublist _ | refine List.Sublist.cons_cons _ ?_ | refine List.Sublist.cons _ ?_))) ⟨(none, 0), rfl, rfl⟩
  | true =>
    have hma := fun w h => may_v A len cap l w h hl (by omega) k y true h1
    cases h2 : Ks.lim k' y' with
    | false =>
      have en : Ks.resR k y l k' y' = (0, 0, [], 2) := by unfold Ks.resR; rw [h1, h2]; rfl
      rw [en]
      have hli := fun w => lim_v k' y' false w h2
      refine Sp.enter (n := 26) Try.func16 rfl rfl rfl (Hp.refl w) ?_
      refine T.row0e 57 2 ?_
      repeat' (first
          | ((with_reducible refine is_build ?_); (first | refine ⟨_, Yl_build rfl (p_build1 _), ?_⟩ | refine ⟨_, Yl_build rfl (p_build2 _ _), ?_⟩ | refine ⟨_, Yl_build rfl (s_build2 _ _), ?_⟩ | refine ⟨_, Yl_build rfl s_build0, ?_⟩))
          | ((with_reducible refine ie_store ?_); (first | ((refine' Ef_storeC (C' := sV k y (A1, c1) m.length) rfl rfl ?q1 ?q2 ?q3 ?q4 ?q5 ?_); (case q1 => rfl); (case q2 => exact siz_of rfl); (case q3 => (first | exact at0 | exact at1 | exact at2 | exact at3 | exact at4 | exact at5 | exact at6)); (case q4 => exact Nat.le_of_ble_eq_true rfl); (case q5 => rfl)) | ((refine' Ef_storeC (C' := sV k' y (A, cap) len) rfl rfl ?q1 ?q2 ?q3 ?q4 ?q5 ?_); (case q1 => rfl); (case q2 => exact siz_of rfl); (case q3 => (first | exact at0 | exact at1 | exact at2 | exact at3 | exact at4 | exact at5 | exact at6)); (case q4 => exact Nat.le_of_ble_eq_true rfl); (case q5 => rfl)) | ((refine' Ef_storeC (C' := sV k' y' (A, cap) len) rfl rfl ?q1 ?q2 ?q3 ?q4 ?q5 ?_); (case q1 => rfl); (case q2 => exact siz_of rfl); (case q3 => (first | exact at0 | exact at1 | exact at2 | exact at3 | exact at4 | exact at5 | exact at6)); (case q4 => exact Nat.le_of_ble_eq_true rfl); (case q5 => rfl))))
          | ((with_reducible refine ie_callf ?_); (first | ((with_reducible refine g_call 28 ?_); (first | refine Ef_callP rfl rfl ent_28 (fun w hp => hma w (hp.rd hr fun _ => List.not_mem_nil)) ?_ | ((refine' Ef_callP rfl rfl ent_28 (fun w hp => hmb A1 c1 w (hp.rowOf ?q1)) ?_); (case q1 => (repeat (first | exact .head _ | apply List.Mem.tail))))))  | ((with_reducible refine g_call 38 ?_); (first | refine Ef_callP rfl rfl ent_38 (fun w _ => hli w) ?_))    | ((with_reducible refine g_call 39 ?_); (first | (refine Ef_callN rfl rfl ent_39 (fun w hp => hwi w (hp.rd hr fun _ => List.not_mem_nil)) ?_; rintro ⟨A1, c1⟩) | refine Ef_callP rfl rfl ent_39 (fun w hp => hwi w (hp.rd hr fun _ => List.not_mem_nil)) ?_))))
          | (first | (((refine' Ef_bsl (vs := [.slice A i i, .slice A2 n2 c2, .slice (subA A cap j 2) (len - j) (cap - j)]) (xs := [.slice A i i, .slice A2 n2 c2, .slice (subA A cap j 2) (len - j) (cap - j)]) rfl ?q1 rfl rfl ?q2 ?q3 ?q4 rfl ?_); (case q1 => exact app_of rfl); (case q2 => (intro u hu; rcases hu with _ | ⟨_, _ | ⟨_, _ | ⟨_, _ | ⟨_, hu⟩⟩⟩⟩ <;> first | rfl | (cases hu; done))); (case q3 => decide); (case q4 => decide)); (intro _)))
          | ((with_reducible refine g_draw ?_); (first | (((refine' T.drawB0 (id := 1) (.y 0 (.y 2 (.y 3 (.y 5 (.y 6 (.y 8 (.b 1 (.run [(4, true), (7, false), (9, true), (10, false), (11, false), (12, true), (13, false)]) 7 (.run [(9, true), (1, false), (4, true), (10, false), (11, false), (12, true), (13, false)])))))))) mixd ?q1 ?_); (case q1 => kernel_rfl)))))
          | refine w1 ?_
          | (refine w2 ?_ ?_ <;> intro hc)
          | (first | ((refine' ⟨_, Yl_sl_l (l := j) rfl rfl ?q1 ?q2 ?q3, ?_⟩); (case q1 => exact und_of rfl); (case q2 => exact siz_of rfl); (case q3 => omega)) | ((refine' ⟨_, Yl_sl_hm (h := i) (m := i) rfl rfl rfl ?q1 ?q2 ?q3 ?q4, ?_⟩); (case q1 => exact und_of rfl); (case q2 => exact siz_of rfl); (case q3 => omega); (case q4 => omega)))
          | (refine w4 ?_; (intro _))
          | (refine w5 ?_; (first | ((fail_if_success have := A1); intro A1 c1) | ((fail_if_success have := A2); intro A2 c2) | intro _ _))
          | refine w3 ?_ ?_
          | fail_if_success skip)
      exact ret_n [rP [] (none, 0)] (resC1 rfl rfl rfl (by (repeat (first | exact .head _ | apply List.Mem.tail))) (agg_of rfl)) (by (repeat (first | exact List.nil_sublist _ | refine List.Sublist.cons_cons _ ?_ | refine List.Sublist.cons _ ?_))) ⟨(none, 0), rfl, rfl⟩
    | true =>
      have hli := fun w => lim_v k' y' true w h2
      have e0 : Ks.resR k y l k' y' = Ks.fitR k' y' l := by unfold Ks.resR; rw [h1, h2]; rfl
      have h3 := Ks.may_res ((Ks.may_iff _ _ _).1 h1) h2
      rw [e0]
      unfold Ks.fitR
      have hwt := fun w h => with_t A len cap l w h hl hlc hle none 0 0 [] Rd.nil rfl (by omega) 0 0 (by omega) (by omega) l (by simp) k' y'
      have hwf := fun w h => with_f A len cap l w h hl hlc hle none 0 0 [] Rd.nil rfl (by omega) 0 0 (by omega) (by omega) l (by simp) k' y'
      cases hf : Ks.fits k' y' l with
      | true =>
        have hwi := fun w h => hwt w h (h3.trans hf)
        refine Sp.enter (n := 26) Try.func16 rfl rfl rfl (Hp.refl w) ?_
        repeat' (first
            | ((with_reducible refine is_build ?_); (first | refine ⟨_, Yl_build rfl (p_build1 _), ?_⟩ | refine ⟨_, Yl_build rfl (p_build2 _ _), ?_⟩ | refine ⟨_, Yl_build rfl (s_build2 _ _), ?_⟩ | refine ⟨_, Yl_build rfl s_build0, ?_⟩))
            | ((with_reducible refine ie_store ?_); (first | ((refine' Ef_storeC (C' := sV k y (A1, c1) m.length) rfl rfl ?q1 ?q2 ?q3 ?q4 ?q5 ?_); (case q1 => rfl); (case q2 => exact siz_of rfl); (case q3 => (first | exact at0 | exact at1 | exact at2 | exact at3 | exact at4 | exact at5 | exact at6)); (case q4 => exact Nat.le_of_ble_eq_true rfl); (case q5 => rfl)) | ((refine' Ef_storeC (C' := sV k' y (A, cap) len) rfl rfl ?q1 ?q2 ?q3 ?q4 ?q5 ?_); (case q1 => rfl); (case q2 => exact siz_of rfl); (case q3 => (first | exact at0 | exact at1 | exact at2 | exact at3 | exact at4 | exact at5 | exact at6)); (case q4 => exact Nat.le_of_ble_eq_true rfl); (case q5 => rfl)) | ((refine' Ef_storeC (C' := sV k' y' (A, cap) len) rfl rfl ?q1 ?q2 ?q3 ?q4 ?q5 ?_); (case q1 => rfl); (case q2 => exact siz_of rfl); (case q3 => (first | exact at0 | exact at1 | exact at2 | exact at3 | exact at4 | exact at5 | exact at6)); (case q4 => exact Nat.le_of_ble_eq_true rfl); (case q5 => rfl))))
            | ((with_reducible refine ie_callf ?_); (first | ((with_reducible refine g_call 28 ?_); (first | refine Ef_callP rfl rfl ent_28 (fun w hp => hma w (hp.rd hr fun _ => List.not_mem_nil)) ?_ | ((refine' Ef_callP rfl rfl ent_28 (fun w hp => hmb A1 c1 w (hp.rowOf ?q1)) ?_); (case q1 => (repeat (first | exact .head _ | apply List.Mem.tail))))))  | ((with_reducible refine g_call 38 ?_); (first | refine Ef_callP rfl rfl ent_38 (fun w _ => hli w) ?_))    | ((with_reducible refine g_call 39 ?_); (first | (refine Ef_callN rfl rfl ent_39 (fun w hp => hwi w (hp.rd hr fun _ => List.not_mem_nil)) ?_; rintro ⟨A1, c1⟩) | refine Ef_callP rfl rfl ent_39 (fun w hp => hwi w (hp.rd hr fun _ => List.not_mem_nil)) ?_))))
            | (first | (((refine' Ef_bsl (vs := [.slice A i i, .slice A2 n2 c2, .slice (subA A cap j 2) (len - j) (cap - j)]) (xs := [.slice A i i, .slice A2 n2 c2, .slice (subA A cap j 2) (len - j) (cap - j)]) rfl ?q1 rfl rfl ?q2 ?q3 ?q4 rfl ?_); (case q1 => exact app_of rfl); (case q2 => (intro u hu; rcases hu with _ | ⟨_, _ | ⟨_, _ | ⟨_, _ | ⟨_, hu⟩⟩⟩⟩ <;> first | rfl | (cases hu; done))); (case q3 => decide); (case q4 => decide)); (intro _)))
            | ((with_reducible refine g_draw ?_); (first | (((refine' T.drawB0 (id := 1) (.y 0 (.y 2 (.y 3 (.y 5 (.y 6 (.y 8 (.b 1 (.run [(4, true), (7, false), (9, true), (10, false), (11, false), (12, true), (13, false)]) 7 (.run [(9, true), (1, false), (4, true), (10, false), (11, false), (12, true), (13, false)])))))))) mixd ?q1 ?_); (case q1 => kernel_rfl)))))
            | refine w1 ?_
            | (refine w2 ?_ ?_ <;> intro hc)
            | (first | ((refine' ⟨_, Yl_sl_l (l := j) rfl rfl ?q1 ?q2 ?q3, ?_⟩); (case q1 => exact und_of rfl); (case q2 => exact siz_of rfl); (case q3 => omega)) | ((refine' ⟨_, Yl_sl_hm (h := i) (m := i) rfl rfl rfl ?q1 ?q2 ?q3 ?q4, ?_⟩); (case q1 => exact und_of rfl); (case q2 => exact siz_of rfl); (case q3 => omega); (case q4 => omega)))
            | (refine w4 ?_; (intro _))
            | (refine w5 ?_; (first | ((fail_if_success have := A1); intro A1 c1) | ((fail_if_success have := A2); intro A2 c2) | intro _ _))
            | refine w3 ?_ ?_
            | fail_if_success skip)
        exact ret_n [rP l (A1, c1)] (resC1 rfl rfl rfl (by (repeat (first | exact .head _ | apply List.Mem.tail))) (agg_of rfl)) (by (repeat (first | exact List.nil_sublist _ | refine List.Sublist.cons_cons _ ?_ | refine List.Sublist.cons _ ?_))) ⟨(A1, c1), rfl, rfl⟩
      | false =>
        have hwi := fun w h => hwf w h (h3.trans hf)
        refine Sp.enter (n := 26) Try.func16 rfl rfl rfl (Hp.refl w) ?_
        refine T.row0e 57 2 ?_
        repeat' (first
            | ((with_reducible refine is_build ?_); (first | refine ⟨_, Yl_build rfl (p_build1 _), ?_⟩ | refine ⟨_, Yl_build rfl (p_build2 _ _), ?_⟩ | refine ⟨_, Yl_build rfl (s_build2 _ _), ?_⟩ | refine ⟨_, Yl_build rfl s_build0, ?_⟩))
            | ((with_reducible refine ie_store ?_); (first | ((refine' Ef_storeC (C' := sV k y (A1, c1) m.length) rfl rfl ?q1 ?q2 ?q3 ?q4 ?q5 ?_); (case q1 => rfl); (case q2 => exact siz_of rfl); (case q3 => (first | exact at0 | exact at1 | exact at2 | exact at3 | exact at4 | exact at5 | exact at6)); (case q4 => exact Nat.le_of_ble_eq_true rfl); (case q5 => rfl)) | ((refine' Ef_storeC (C' := sV k' y (A, cap) len) rfl rfl ?q1 ?q2 ?q3 ?q4 ?q5 ?_); (case q1 => rfl); (case q2 => exact siz_of rfl); (case q3 => (first | exact at0 | exact at1 | exact at2 | exact at3 | exact at4 | exact at5 | exact at6)); (case q4 => exact Nat.le_of_ble_eq_true rfl); (case q5 => rfl)) | ((refine' Ef_storeC (C' := sV k' y' (A, cap) len) rfl rfl ?q1 ?q2 ?q3 ?q4 ?q5 ?_); (case q1 => rfl); (case q2 => exact siz_of rfl); (case q3 => (first | exact at0 | exact at1 | exact at2 | exact at3 | exact at4 | exact at5 | exact at6)); (case q4 => exact Nat.le_of_ble_eq_true rfl); (case q5 => rfl))))
            | ((with_reducible refine ie_callf ?_); (first | ((with_reducible refine g_call 28 ?_); (first | refine Ef_callP rfl rfl ent_28 (fun w hp => hma w (hp.rd hr fun _ => List.not_mem_nil)) ?_ | ((refine' Ef_callP rfl rfl ent_28 (fun w hp => hmb A1 c1 w (hp.rowOf ?q1)) ?_); (case q1 => (repeat (first | exact .head _ | apply List.Mem.tail))))))  | ((with_reducible refine g_call 38 ?_); (first | refine Ef_callP rfl rfl ent_38 (fun w _ => hli w) ?_))    | ((with_reducible refine g_call 39 ?_); (first | (refine Ef_callN rfl rfl ent_39 (fun w hp => hwi w (hp.rd hr fun _ => List.not_mem_nil)) ?_; rintro ⟨A1, c1⟩) | refine Ef_callP rfl rfl ent_39 (fun w hp => hwi w (hp.rd hr fun _ => List.not_mem_nil)) ?_))))
            | (first | (((refine' Ef_bsl (vs := [.slice A i i, .slice A2 n2 c2, .slice (subA A cap j 2) (len - j) (cap - j)]) (xs := [.slice A i i, .slice A2 n2 c2, .slice (subA A cap j 2) (len - j) (cap - j)]) rfl ?q1 rfl rfl ?q2 ?q3 ?q4 rfl ?_); (case q1 => exact app_of rfl); (case q2 => (intro u hu; rcases hu with _ | ⟨_, _ | ⟨_, _ | ⟨_, _ | ⟨_, hu⟩⟩⟩⟩ <;> first | rfl | (cases hu; done))); (case q3 => decide); (case q4 => decide)); (intro _)))
            | ((with_reducible refine g_draw ?_); (first | (((refine' T.drawB0 (id := 1) (.y 0 (.y 2 (.y 3 (.y 5 (.y 6 (.y 8 (.b 1 (.run [(4, true), (7, false), (9, true), (10, false), (11, false), (12, true), (13, false)]) 7 (.run [(9, true), (1, false), (4, true), (10, false), (11, false), (12, true), (13, false)])))))))) mixd ?q1 ?_); (case q1 => kernel_rfl)))))
            | refine w1 ?_
            | (refine w2 ?_ ?_ <;> intro hc)
            | (first | ((refine' ⟨_, Yl_sl_l (l := j) rfl rfl ?q1 ?q2 ?q3, ?_⟩); (case q1 => exact und_of rfl); (case q2 => exact siz_of rfl); (case q3 => omega)) | ((refine' ⟨_, Yl_sl_hm (h := i) (m := i) rfl rfl rfl ?q1 ?q2 ?q3 ?q4, ?_⟩); (case q1 => exact und_of rfl); (case q2 => exact siz_of rfl); (case q3 => omega); (case q4 => omega)))
            | (refine w4 ?_; (intro _))
            | (refine w5 ?_; (first | ((fail_if_success have := A1); intro A1 c1) | ((fail_if_success have := A2); intro A2 c2) | intro _ _))
            | refine w3 ?_ ?_
            | fail_if_success skip)
        exact ret_n [rP [] (none, 0)] (resC1 rfl rfl rfl (by (repeat (first | exact .head _ | apply List.Mem.tail))) (agg_of rfl)) (by (repeat (first | exact List.nil_sublist _ | refine List.Sublist.cons_cons _ ?_ | refine List.Sublist.cons _ ?_))) ⟨(none, 0), rfl, rfl⟩
end
end Go.Proofs.Ytimmabejfigleaa
