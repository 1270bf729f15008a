/- The document's Add, Cut; fitted, entry: what a call of each comes to. -/
import Derived.Test.YtegaejbfhpigjaaT9
import Derived.Test.YtegaejbfhpigjaaLh
namespace Go.Proofs.Ytegaejbfhpigjaa
open Go.RowKit
set_option maxRecDepth 20000

theorem Sp.part {P : Program} {R : List Nat} {f : FuncId} {args : List Value} {w : World} {Res Res' : Value → List Asrt → Prop} (h : Sp P f args w R Res) (hr : ∀ v N, Res v N → ∃ N', Part N' N ∧ Res' v N') : Sp P f args w R Res' :=
  Sp.mem h fun v N h1 => let ⟨N', h2, h3⟩ := hr v N h1; ⟨N', fun _ hp => hp.ofPart h2, h3⟩

theorem e_build27 (p s : Int) (w : World) : (Instr.build 27 #[(0, .int .i64 p), (1, .int .i64 s), (2, .int .i64 1), (3, .int .i64 p)]).run Try.prog w = .ok (.agg (mE (⟨p, s, 1, p, []⟩, (none, 0))).toArray) w := by kernel_rfl
theorem aE_at (a : Ac) : ∀ i u, (mE a.e)[i]? = some u → (aE a).toArray[2 + i]? = some u := fun i u hu => by
  rw [List.getElem?_toArray, Nat.add_comm]
  exact hu

theorem entry_c (p s : Int) (w : World) : Sp Try.prog 44 [.int .i64 p, .int .i64 s] w [] fun v N => v = .agg (mE (⟨p, s, 1, p, []⟩, (none, 0))).toArray ∧ N = [] := by
  refine Sp.enter (n := 9) Try.func44 rfl rfl rfl (Hp.refl w) ?_
  repeat' (first
      | ((with_reducible refine is_build ?_); (first | refine ⟨_, Yl_build rfl (e_build27 _ _), ?_⟩))
      | ((with_reducible refine ie_store ?_); (first
      | ((refine' Ef_storeA' rfl rfl ?q1 (mE_one _) ?q2 ?q3 ?_); (case q1 => exact siz_of rfl); (case q2 => (first | exact at0 | exact at1 | exact at2 | exact at3 | exact at4 | exact at5 | exact at6)); (case q3 => rfl))
      | ((refine' Ef_storeA' (V := (mE (⟨p, s, 1, p, []⟩, (none, 0))).toArray) rfl rfl ?q1 (mE_one _) ?q2 ?q3 ?_); (case q1 => exact siz_of rfl); (case q2 => (first | exact at0 | exact at1 | exact at2 | exact at3 | exact at4 | exact at5 | exact at6)); (case q3 => rfl))
      | ((refine' Ef_storeC (C' := lrC (.slice A1 (l.length + 1) c1) sy) rfl rfl ?q1 ?q2 ?q3 ?q4 ?q5 ?_); (case q1 => rfl); (case q2 => exact siz_of rfl); (case q3 => (first | exact at0 | exact at1 | exact at2 | exact at3 | exact at4 | exact at5 | exact at6)); (case q4 => exact Nat.le_of_ble_eq_true rfl); (case q5 => rfl))
      | ((refine' Ef_storeC (C' := lrC (.slice A1 ms.length c1) sy) rfl rfl ?q1 ?q2 ?q3 ?q4 ?q5 ?_); (case q1 => rfl); (case q2 => exact siz_of rfl); (case q3 => (first | exact at0 | exact at1 | exact at2 | exact at3 | exact at4 | exact at5 | exact at6)); (case q4 => exact Nat.le_of_ble_eq_true rfl); (case q5 => rfl))
      | ((refine' Ef_storeC (C' := lrC (.slice A1 ms.length c1) n) rfl rfl ?q1 ?q2 ?q3 ?q4 ?q5 ?_); (case q1 => rfl); (case q2 => exact siz_of rfl); (case q3 => (first | exact at0 | exact at1 | exact at2 | exact at3 | exact at4 | exact at5 | exact at6)); (case q4 => exact Nat.le_of_ble_eq_true rfl); (case q5 => rfl))
      | ((refine' Ef_storeC (C' := (mE ({ a.e.1 with pos := size + 1 }, a.e.2)).toArray) rfl rfl ?q1 ?q2 ?q3 ?q4 ?q5 ?_); (case q1 => rfl); (case q2 => exact siz_of rfl); (case q3 => (first | exact at0 | exact at1 | exact at2 | exact at3 | exact at4 | exact at5 | exact at6)); (case q4 => exact Nat.le_of_ble_eq_true rfl); (case q5 => rfl))
      | ((refine' Ef_storeC (C' := (mE ({ a.e.1 with pos := size + 1, stamp := st }, a.e.2)).toArray) rfl rfl ?q1 ?q2 ?q3 ?q4 ?q5 ?_); (case q1 => rfl); (case q2 => exact siz_of rfl); (case q3 => (first | exact at0 | exact at1 | exact at2 | exact at3 | exact at4 | exact at5 | exact at6)); (case q4 => exact Nat.le_of_ble_eq_true rfl); (case q5 => rfl))))
      | (first | ((((refine' Ef_appG_row (news := mE _) rfl rfl rfl ?q1 ?q2 ?q3 (mE_one _) ?q4 ?q5 ?_); (case q1 => exact app_of rfl); (case q2 => (first | exact at0 | exact at1 | exact at2 | exact at3 | exact at4 | exact at5 | exact at6)); (case q3 => (repeat (first | exact .head _ | apply List.Mem.tail))); (case q4 => omega); (case q5 => omega))); (first | ((fail_if_success have := A1); intro A1 c1) | intro _ _)))
      | ((with_reducible refine g_draw ?_); (first | (((refine' T.drawB (id := 5) (.y 0 (.y 1 (.y 2 (.y 3 (.y 5 (.b 4 (.run [(6, false), (7, false), (8, false), (9, false), (10, false), (11, false)]) 6 (.b 4 (.run [(7, false), (8, false), (9, false), (10, false), (11, false)]) 7 (.run [(4, false), (8, false), (9, false), (10, false), (11, false)])))))))) [.blk b1 (.cells (mE e).toArray 27 (0, 0))] mixd ?q1 ?q2 ?_); (case q1 => kernel_rfl); (case q2 => (repeat (first | exact List.nil_sublist _ | refine List.Sublist.cons_cons _ ?_ | refine List.Sublist.cons _ ?_)))))))
      | refine w1 ?_
      | (refine w2 ?_ ?_ <;> intro hc)
      | (first | ((refine' ⟨_, Yl_sl_hZ (h := k) rfl rfl hkn ?q1 ?q2 ?q3, ?_⟩); (case q1 => exact und_of rfl); (case q2 => exact siz_of rfl); (case q3 => omega)))
      | (refine w4 ?_; (first | ((fail_if_success have := b1); intro b1) | intro _))
      | (refine w5 ?_; (first | ((fail_if_success have := A1); intro A1 c1) | intro _ _))
      | refine w3 ?_ ?_
      | fail_if_success skip)
  exact ret_n [] (resC rfl rfl (by (repeat (first | exact .head _ | apply List.Mem.tail))) (agg_of rfl)) (List.nil_sublist _) ⟨rfl, rfl⟩

set_option maxHeartbeats 1000000 in
theorem fitted_c (a : Ac) (size st : Int) (w : World) (h0 : 0 ≤ size) (h1 : size ≤ 1000) : Sp Try.prog 33 [.agg (aE a).toArray, .int .i64 size, .int .i64 st] w [] fun v N => v = .agg (mE (Lg.fit a.kind a.e.1 size st, a.e.2)).toArray ∧ N = [] := by
  unfold Lg.fit
  by_cases g1 : a.kind = 3
  · rw [if_pos g1]
    by_cases g2 : a.e.1.stamp < st
    · rw [show max a.e.1.stamp st = st by omega]
      refine Sp.enter (n := 23) Try.func33 rfl rfl rfl (Hp.refl w) ?_
      repeat' (first
          | ((with_reducible refine is_load ?_); (first | ((refine' ⟨_, Yl_loadA_at (vs := mE a.e) rfl ?qa ?qb ?ql ?qc, ?_⟩); (case qa => exact agg_of rfl); (case qb => (repeat (first | exact .head _ | apply List.Mem.tail))); (case qc => exact aE_at a); (case ql => rfl))))
          | ((with_reducible refine ie_store ?_); (first
          | ((refine' Ef_storeA' rfl rfl ?q1 (mE_one _) ?q2 ?q3 ?_); (case q1 => exact siz_of rfl); (case q2 => (first | exact at0 | exact at1 | exact at2 | exact at3 | exact at4 | exact at5 | exact at6)); (case q3 => rfl))
          | ((refine' Ef_storeA' (V := (mE (⟨p, s, 1, p, []⟩, (none, 0))).toArray) rfl rfl ?q1 (mE_one _) ?q2 ?q3 ?_); (case q1 => exact siz_of rfl); (case q2 => (first | exact at0 | exact at1 | exact at2 | exact at3 | exact at4 | exact at5 | exact at6)); (case q3 => rfl))
          | ((refine' Ef_storeC (C' := lrC (.slice A1 (l.length + 1) c1) sy) rfl rfl ?q1 ?q2 ?q3 ?q4 ?q5 ?_); (case q1 => rfl); (case q2 => exact siz_of rfl); (case q3 => (first | exact at0 | exact at1 | exact at2 | exact at3 | exact at4 | exact at5 | exact at6)); (case q4 => exact Nat.le_of_ble_eq_true rfl); (case q5 => rfl))
          | ((refine' Ef_storeC (C' := lrC (.slice A1 ms.length c1) sy) rfl rfl ?q1 ?q2 ?q3 ?q4 ?q5 ?_); (case q1 => rfl); (case q2 => exact siz_of rfl); (case q3 => (first | exact at0 | exact at1 | exact at2 | exact at3 | exact at4 | exact at5 | exact at6)); (case q4 => exact Nat.le_of_ble_eq_true rfl); (case q5 => rfl))
          | ((refine' Ef_storeC (C' := lrC (.slice A1 ms.length c1) n) rfl rfl ?q1 ?q2 ?q3 ?q4 ?q5 ?_); (case q1 => rfl); (case q2 => exact siz_of rfl); (case q3 => (first | exact at0 | exact at1 | exact at2 | exact at3 | exact at4 | exact at5 | exact at6)); (case q4 => exact Nat.le_of_ble_eq_true rfl); (case q5 => rfl))
          | ((refine' Ef_storeC (C' := (mE ({ a.e.1 with pos := size + 1 }, a.e.2)).toArray) rfl rfl ?q1 ?q2 ?q3 ?q4 ?q5 ?_); (case q1 => rfl); (case q2 => exact siz_of rfl); (case q3 => (first | exact at0 | exact at1 | exact at2 | exact at3 | exact at4 | exact at5 | exact at6)); (case q4 => exact Nat.le_of_ble_eq_true rfl); (case q5 => rfl))
          | ((refine' Ef_storeC (C' := (mE ({ a.e.1 with pos := size + 1, stamp := st }, a.e.2)).toArray) rfl rfl ?q1 ?q2 ?q3 ?q4 ?q5 ?_); (case q1 => rfl); (case q2 => exact siz_of rfl); (case q3 => (first | exact at0 | exact at1 | exact at2 | exact at3 | exact at4 | exact at5 | exact at6)); (case q4 => exact Nat.le_of_ble_eq_true rfl); (case q5 => rfl))))
          | (first | ((((refine' Ef_appG_row (news := mE _) rfl rfl rfl ?q1 ?q2 ?q3 (mE_one _) ?q4 ?q5 ?_); (case q1 => exact app_of rfl); (case q2 => (first | exact at0 | exact at1 | exact at2 | exact at3 | exact at4 | exact at5 | exact at6)); (case q3 => (repeat (first | exact .head _ | apply List.Mem.tail))); (case q4 => omega); (case q5 => omega))); (first | ((fail_if_success have := A1); intro A1 c1) | intro _ _)))
          | ((with_reducible refine g_draw ?_); (first | (((refine' T.drawB (id := 5) (.y 0 (.y 1 (.y 2 (.y 3 (.y 5 (.b 4 (.run [(6, false), (7, false), (8, false), (9, false), (10, false), (11, false)]) 6 (.b 4 (.run [(7, false), (8, false), (9, false), (10, false), (11, false)]) 7 (.run [(4, false), (8, false), (9, false), (10, false), (11, false)])))))))) [.blk b1 (.cells (mE e).toArray 27 (0, 0))] mixd ?q1 ?q2 ?_); (case q1 => kernel_rfl); (case q2 => (repeat (first | exact List.nil_sublist _ | refine List.Sublist.cons_cons _ ?_ | refine List.Sublist.cons _ ?_)))))))
          | refine w1 ?_
          | (refine w2 ?_ ?_ <;> intro hc)
          | (first | ((refine' ⟨_, Yl_sl_hZ (h := k) rfl rfl hkn ?q1 ?q2 ?q3, ?_⟩); (case q1 => exact und_of rfl); (case q2 => exact siz_of rfl); (case q3 => omega)))
          | (refine w4 ?_; (first | ((fail_if_success have := b1); intro b1) | intro _))
          | (refine w5 ?_; (first | ((fail_if_success have := A1); intro A1 c1) | intro _ _))
          | refine w3 ?_ ?_
          | fail_if_success skip)
      exact ret_n [] (resC rfl rfl (by (repeat (first | exact .head _ | apply List.Mem.tail))) (agg_of rfl)) (List.nil_sublist _) ⟨rfl, rfl⟩
    · rw [show max a.e.1.stamp st = a.e.1.stamp by omega]
      refine Sp.enter (n := 23) Try.func33 rfl rfl rfl (Hp.refl w) ?_
      repeat' (first
          | ((with_reducible refine is_load ?_); (first | ((refine' ⟨_, Yl_loadA_at (vs := mE a.e) rfl ?qa ?qb ?ql ?qc, ?_⟩); (case qa => exact agg_of rfl); (case qb => (repeat (first | exact .head _ | apply List.Mem.tail))); (case qc => exact aE_at a); (case ql => rfl))))
          | ((with_reducible refine ie_store ?_); (first
          | ((refine' Ef_storeA' rfl rfl ?q1 (mE_one _) ?q2 ?q3 ?_); (case q1 => exact siz_of rfl); (case q2 => (first | exact at0 | exact at1 | exact at2 | exact at3 | exact at4 | exact at5 | exact at6)); (case q3 => rfl))
          | ((refine' Ef_storeA' (V := (mE (⟨p, s, 1, p, []⟩, (none, 0))).toArray) rfl rfl ?q1 (mE_one _) ?q2 ?q3 ?_); (case q1 => exact siz_of rfl); (case q2 => (first | exact at0 | exact at1 | exact at2 | exact at3 | exact at4 | exact at5 | exact at6)); (case q3 => rfl))
          | ((refine' Ef_storeC (C' := lrC (.slice A1 (l.length + 1) c1) sy) rfl rfl ?q1 ?q2 ?q3 ?q4 ?q5 ?_); (case q1 => rfl); (case q2 => exact siz_of rfl); (case q3 => (first | exact at0 | exact at1 | exact at2 | exact at3 | exact at4 | exact at5 | exact at6)); (case q4 => exact Nat.le_of_ble_eq_true rfl); (case q5 => rfl))
          | ((refine' Ef_storeC (C' := lrC (.slice A1 ms.length c1) sy) rfl rfl ?q1 ?q2 ?q3 ?q4 ?q5 ?_); (case q1 => rfl); (case q2 => exact siz_of rfl); (case q3 => (first | exact at0 | exact at1 | exact at2 | exact at3 | exact at4 | exact at5 | exact at6)); (case q4 => exact Nat.le_of_ble_eq_true rfl); (case q5 => rfl))
          | ((refine' Ef_storeC (C' := lrC (.slice A1 ms.length c1) n) rfl rfl ?q1 ?q2 ?q3 ?q4 ?q5 ?_); (case q1 => rfl); (case q2 => exact siz_of rfl); (case q3 => (first | exact at0 | exact at1 | exact at2 | exact at3 | exact at4 | exact at5 | exact at6)); (case q4 => exact Nat.le_of_ble_eq_true rfl); (case q5 => rfl))
          | ((refine' Ef_storeC (C' := (mE ({ a.e.1 with pos := size + 1 }, a.e.2)).toArray) rfl rfl ?q1 ?q2 ?q3 ?q4 ?q5 ?_); (case q1 => rfl); (case q2 => exact siz_of rfl); (case q3 => (first | exact at0 | exact at1 | exact at2 | exact at3 | exact at4 | exact at5 | exact at6)); (case q4 => exact Nat.le_of_ble_eq_true rfl); (case q5 => rfl))
          | ((refine' Ef_storeC (C' := (mE ({ a.e.1 with pos := size + 1, stamp := st }, a.e.2)).toArray) rfl rfl ?q1 ?q2 ?q3 ?q4 ?q5 ?_); (case q1 => rfl); (case q2 => exact siz_of rfl); (case q3 => (first | exact at0 | exact at1 | exact at2 | exact at3 | exact at4 | exact at5 | exact at6)); (case q4 => exact Nat.le_of_ble_eq_true rfl); (case q5 => rfl))))
          | (first | ((((refine' Ef_appG_row (news := mE _) rfl rfl rfl ?q1 ?q2 ?q3 (mE_one _) ?q4 ?q5 ?_); (case q1 => exact app_of rfl); (case q2 => (first | exact at0 | exact at1 | exact at2 | exact at3 | exact at4 | exact at5 | exact at6)); (case q3 => (repeat (first | exact .head _ | apply List.Mem.tail))); (case q4 => omega); (case q5 => omega))); (first | ((fail_if_success have := A1); intro A1 c1) | intro _ _)))
          | ((with_reducible refine g_draw ?_); (first | (((refine' T.drawB (id := 5) (.y 0 (.y 1 (.y 2 (.y 3 (.y 5 (.b 4 (.run [(6, false), (7, false), (8, false), (9, false), (10, false), (11, false)]) 6 (.b 4 (.run [(7, false), (8, false), (9, false), (10, false), (11, false)]) 7 (.run [(4, false), (8, false), (9, false), (10, false), (11, false)])))))))) [.blk b1 (.cells (mE e).toArray 27 (0, 0))] mixd ?q1 ?q2 ?_); (case q1 => kernel_rfl); (case q2 => (repeat (first | exact List.nil_sublist _ | refine List.Sublist.cons_cons _ ?_ | refine List.Sublist.cons _ ?_)))))))
          | refine w1 ?_
          | (refine w2 ?_ ?_ <;> intro hc)
          | (first | ((refine' ⟨_, Yl_sl_hZ (h := k) rfl rfl hkn ?q1 ?q2 ?q3, ?_⟩); (case q1 => exact und_of rfl); (case q2 => exact siz_of rfl); (case q3 => omega)))
          | (refine w4 ?_; (first | ((fail_if_success have := b1); intro b1) | intro _))
          | (refine w5 ?_; (first | ((fail_if_success have := A1); intro A1 c1) | intro _ _))
          | refine w3 ?_ ?_
          | fail_if_success skip)
      exact ret_n [] (resC rfl rfl (by (repeat (first | exact .head _ | apply List.Mem.tail))) (agg_of rfl)) (List.nil_sublist _) ⟨rfl, rfl⟩
  · rw [if_neg g1]
    refine Sp.enter (n := 23) Try.func33 rfl rfl rfl (Hp.refl w) ?_
    repeat' (first
        | ((with_reducible refine is_load ?_); (first | ((refine' ⟨_, Yl_loadA_at (vs := mE a.e) rfl ?qa ?qb ?ql ?qc, ?_⟩); (case qa => exact agg_of rfl); (case qb => (repeat (first | exact .head _ | apply List.Mem.tail))); (case qc => exact aE_at a); (case ql => rfl))))
        | ((with_reducible refine ie_store ?_); (first
        | ((refine' Ef_storeA' rfl rfl ?q1 (mE_one _) ?q2 ?q3 ?_); (case q1 => exact siz_of rfl); (case q2 => (first | exact at0 | exact at1 | exact at2 | exact at3 | exact at4 | exact at5 | exact at6)); (case q3 => rfl))
        | ((refine' Ef_storeA' (V := (mE (⟨p, s, 1, p, []⟩, (none, 0))).toArray) rfl rfl ?q1 (mE_one _) ?q2 ?q3 ?_); (case q1 => exact siz_of rfl); (case q2 => (first | exact at0 | exact at1 | exact at2 | exact at3 | exact at4 | exact at5 | exact at6)); (case q3 => rfl))
        | ((refine' Ef_storeC (C' := lrC (.slice A1 (l.length + 1) c1) sy) rfl rfl ?q1 ?q2 ?q3 ?q4 ?q5 ?_); (case q1 => rfl); (case q2 => exact siz_of rfl); (case q3 => (first | exact at0 | exact at1 | exact at2 | exact at3 | exact at4 | exact at5 | exact at6)); (case q4 => exact Nat.le_of_ble_eq_true rfl); (case q5 => rfl))
        | ((refine' Ef_storeC (C' := lrC (.slice A1 ms.length c1) sy) rfl rfl ?q1 ?q2 ?q3 ?q4 ?q5 ?_); (case q1 => rfl); (case q2 => exact siz_of rfl); (case q3 => (first | exact at0 | exact at1 | exact at2 | exact at3 | exact at4 | exact at5 | exact at6)); (case q4 => exact Nat.le_of_ble_eq_true rfl); (case q5 => rfl))
        | ((refine' Ef_storeC (C' := lrC (.slice A1 ms.length c1) n) rfl rfl ?q1 ?q2 ?q3 ?q4 ?q5 ?_); (case q1 => rfl); (case q2 => exact siz_of rfl); (case q3 => (first | exact at0 | exact at1 | exact at2 | exact at3 | exact at4 | exact at5 | exact at6)); (case q4 => exact Nat.le_of_ble_eq_true rfl); (case q5 => rfl))
        | ((refine' Ef_storeC (C' := (mE ({ a.e.1 with pos := size + 1 }, a.e.2)).toArray) rfl rfl ?q1 ?q2 ?q3 ?q4 ?q5 ?_); (case q1 => rfl); (case q2 => exact siz_of rfl); (case q3 => (first | exact at0 | exact at1 | exact at2 | exact at3 | exact at4 | exact at5 | exact at6)); (case q4 => exact Nat.le_of_ble_eq_true rfl); (case q5 => rfl))
        | ((refine' Ef_storeC (C' := (mE ({ a.e.1 with pos := size + 1, stamp := st }, a.e.2)).toArray) rfl rfl ?q1 ?q2 ?q3 ?q4 ?q5 ?_); (case q1 => rfl); (case q2 => exact siz_of rfl); (case q3 => (first | exact at0 | exact at1 | exact at2 | exact at3 | exact at4 | exact at5 | exact at6)); (case q4 => exact Nat.le_of_ble_eq_true rfl); (case q5 => rfl))))
        | (first | ((((refine' Ef_appG_row (news := mE _) rfl rfl rfl ?q1 ?q2 ?q3 (mE_one _) ?q4 ?q5 ?_); (case q1 => exact app_of rfl); (case q2 => (first | exact at0 | exact at1 | exact at2 | exact at3 | exact at4 | exact at5 | exact at6)); (case q3 => (repeat (first | exact .head _ | apply List.Mem.tail))); (case q4 => omega); (case q5 => omega))); (first | ((fail_if_success have := A1); intro A1 c1) | intro _ _)))
        | ((with_reducible refine g_draw ?_); (first | (((refine' T.drawB (id := 5) (.y 0 (.y 1 (.y 2 (.y 3 (.y 5 (.b 4 (.run [(6, false), (7, false), (8, false), (9, false), (10, false), (11, false)]) 6 (.b 4 (.run [(7, false), (8, false), (9, false), (10, false), (11, false)]) 7 (.run [(4, false), (8, false), (9, false), (10, false), (11, false)])))))))) [.blk b1 (.cells (mE e).toArray 27 (0, 0))] mixd ?q1 ?q2 ?_); (case q1 => kernel_rfl); (case q2 => (repeat (first | exact List.nil_sublist _ | refine List.Sublist.cons_cons _ ?_ | refine List.Sublist.cons _ ?_)))))))
        | refine w1 ?_
        | (refine w2 ?_ ?_ <;> intro hc)
        | (first | ((refine' ⟨_, Yl_sl_hZ (h := k) rfl rfl hkn ?q1 ?q2 ?q3, ?_⟩); (case q1 => exact und_of rfl); (case q2 => exact siz_of rfl); (case q3 => omega)))
        | (refine w4 ?_; (first | ((fail_if_success have := b1); intro b1) | intro _))
        | (refine w5 ?_; (first | ((fail_if_success have := A1); intro A1 c1) | intro _ _))
        | refine w3 ?_ ?_
        | fail_if_success skip)
    exact ret_n [] (resC rfl rfl (by (repeat (first | exact .head _ | apply List.Mem.tail))) (agg_of rfl)) (List.nil_sublist _) ⟨rfl, rfl⟩

section
variable (b : Nat) (z : Hd) (l : List Me) (sy : Int) (w : World) (R : List Nat) (hp : Hp w R (yL b z l sy) w) (hl : l.length ≤ 200)
include hp hl
set_option maxHeartbeats 4000000 in
theorem radd_c (e : Me) (he : In w e) (heR : 0 < e.1.body.length → (adr e.2.1).block ∉ R) (h5 : e.1.body.length ≤ 6000) :
    Sp Try.prog 35 [.pointer (some ⟨b, 0, none⟩), .agg (mE e).toArray] w R fun v N => ∃ y : Hd × List Me, y.2.map (·.1) = (Lg.add (l.map (·.1)) e.1).1 ∧ v = .int .i64 (Lg.add (l.map (·.1)) e.1).2 ∧ N = yL b y.1 y.2 sy := by
  obtain ⟨q, hst⟩ : ∃ q, Lg.stamp (l.map (·.1)) = q := ⟨_, rfl⟩
  unfold Lg.add
  rw [hst, List.length_map]
  by_cases g1 : e.1.pos = (l.length : Int) + 1
  · by_cases g2 : e.1.stamp < q
    · rw [if_neg (by omega), if_pos g2]
      refine Sp.enter (n := 30) Try.func35 rfl rfl rfl hp ?_
      repeat' (first
          | ((with_reducible refine is_load ?_); (first | ((refine' ⟨_, Yl_loadA_at (vs := mE a.e) rfl ?qa ?qb ?ql ?qc, ?_⟩); (case qa => exact agg_of rfl); (case qb => (repeat (first | exact .head _ | apply List.Mem.tail))); (case qc => exact aE_at a); (case ql => rfl))))
          | ((with_reducible refine ie_store ?_); (first
          | ((refine' Ef_storeA' rfl rfl ?q1 (mE_one _) ?q2 ?q3 ?_); (case q1 => exact siz_of rfl); (case q2 => (first | exact at0 | exact at1 | exact at2 | exact at3 | exact at4 | exact at5 | exact at6)); (case q3 => rfl))
          | ((refine' Ef_storeA' (V := (mE (⟨p, s, 1, p, []⟩, (none, 0))).toArray) rfl rfl ?q1 (mE_one _) ?q2 ?q3 ?_); (case q1 => exact siz_of rfl); (case q2 => (first | exact at0 | exact at1 | exact at2 | exact at3 | exact at4 | exact at5 | exact at6)); (case q3 => rfl))
          | ((refine' Ef_storeC (C' := lrC (.slice A1 (l.length + 1) c1) sy) rfl rfl ?q1 ?q2 ?q3 ?q4 ?q5 ?_); (case q1 => rfl); (case q2 => exact siz_of rfl); (case q3 => (first | exact at0 | exact at1 | exact at2 | exact at3 | exact at4 | exact at5 | exact at6)); (case q4 => exact Nat.le_of_ble_eq_true rfl); (case q5 => rfl))
          | ((refine' Ef_storeC (C' := lrC (.slice A1 ms.length c1) sy) rfl rfl ?q1 ?q2 ?q3 ?q4 ?q5 ?_); (case q1 => rfl); (case q2 => exact siz_of rfl); (case q3 => (first | exact at0 | exact at1 | exact at2 | exact at3 | exact at4 | exact at5 | exact at6)); (case q4 => exact Nat.le_of_ble_eq_true rfl); (case q5 => rfl))
          | ((refine' Ef_storeC (C' := lrC (.slice A1 ms.length c1) n) rfl rfl ?q1 ?q2 ?q3 ?q4 ?q5 ?_); (case q1 => rfl); (case q2 => exact siz_of rfl); (case q3 => (first | exact at0 | exact at1 | exact at2 | exact at3 | exact at4 | exact at5 | exact at6)); (case q4 => exact Nat.le_of_ble_eq_true rfl); (case q5 => rfl))
          | ((refine' Ef_storeC (C' := (mE ({ a.e.1 with pos := size + 1 }, a.e.2)).toArray) rfl rfl ?q1 ?q2 ?q3 ?q4 ?q5 ?_); (case q1 => rfl); (case q2 => exact siz_of rfl); (case q3 => (first | exact at0 | exact at1 | exact at2 | exact at3 | exact at4 | exact at5 | exact at6)); (case q4 => exact Nat.le_of_ble_eq_true rfl); (case q5 => rfl))
          | ((refine' Ef_storeC (C' := (mE ({ a.e.1 with pos := size + 1, stamp := st }, a.e.2)).toArray) rfl rfl ?q1 ?q2 ?q3 ?q4 ?q5 ?_); (case q1 => rfl); (case q2 => exact siz_of rfl); (case q3 => (first | exact at0 | exact at1 | exact at2 | exact at3 | exact at4 | exact at5 | exact at6)); (case q4 => exact Nat.le_of_ble_eq_true rfl); (case q5 => rfl))))
          | ((with_reducible refine ie_callf ?_); (first | ((with_reducible refine g_call 18 ?_); (first | ((refine' Ef_callP rfl rfl ent_18 (fun w hp => rstamp_v b z.1 l.length z.2 sy l w (hp.rowOf ?q1) rfl ?q2 _ hst (hp.blkOf ?q3)) ?_); (case q1 => (repeat (first | exact .head _ | apply List.Mem.tail))); (case q2 => omega); (case q3 => (repeat (first | exact .head _ | apply List.Mem.tail)))))) | ((with_reducible refine g_call 40 ?_); (first | (refine Ef_callN rfl rfl ent_40 (fun w hp => copied_c e w (hp.rd he heR) h5) ?_; rintro ⟨A2, c2⟩)))))
          | (first | ((((refine' Ef_appG_row (news := mE _) rfl rfl rfl ?q1 ?q2 ?q3 (mE_one _) ?q4 ?q5 ?_); (case q1 => exact app_of rfl); (case q2 => (first | exact at0 | exact at1 | exact at2 | exact at3 | exact at4 | exact at5 | exact at6)); (case q3 => (repeat (first | exact .head _ | apply List.Mem.tail))); (case q4 => omega); (case q5 => omega))); (first | ((fail_if_success have := A1); intro A1 c1) | ((fail_if_success have := A2); intro A2 c2) | intro _ _)))
          | ((with_reducible refine g_draw ?_); (first | (((refine' T.drawB (id := 5) (.y 0 (.y 1 (.y 2 (.y 3 (.y 5 (.b 4 (.run [(6, false), (7, false), (8, false), (9, false), (10, false), (11, false)]) 6 (.b 4 (.run [(7, false), (8, false), (9, false), (10, false), (11, false)]) 7 (.run [(4, false), (8, false), (9, false), (10, false), (11, false)])))))))) [.blk b1 (.cells (mE e).toArray 27 (0, 0))] mixd ?q1 ?q2 ?_); (case q1 => kernel_rfl); (case q2 => (repeat (first | exact List.nil_sublist _ | refine List.Sublist.cons_cons _ ?_ | refine List.Sublist.cons _ ?_))))) | (((with_reducible refine' T.drawM (id := 1) [(0, true), (1, true), (2, false), (3, false), (4, false), (5, false), (6, false), (7, false), (8, false)] mixd ?q1 ?_); (case q1 => kernel_rfl))) | (((with_reducible refine' T.drawM (id := 3) [(0, true), (1, true), (2, false), (3, false), (4, false)] mixd ?q1 ?_); (case q1 => kernel_rfl)))))
          | refine w1 ?_
          | (refine w2 ?_ ?_ <;> intro hc)
          | (first | ((refine' ⟨_, Yl_sl_hZ (h := k) rfl rfl hkn ?q1 ?q2 ?q3, ?_⟩); (case q1 => exact und_of rfl); (case q2 => exact siz_of rfl); (case q3 => omega)))
          | (refine w4 ?_; (first | ((fail_if_success have := b1); intro b1) | intro _))
          | (refine w5 ?_; (first | ((fail_if_success have := A1); intro A1 c1) | ((fail_if_success have := A2); intro A2 c2) | intro _ _))
          | refine w3 ?_ ?_
          | fail_if_success skip)
      exact ret_n (yL b z l sy) (res1 rfl rfl) (by (repeat (first | exact List.nil_sublist _ | refine List.Sublist.cons_cons _ ?_ | refine List.Sublist.cons _ ?_))) ⟨(z, l), rfl, rfl, rfl⟩
    · rw [if_neg (by omega), if_neg g2]
      refine Sp.mem (Res := fun v N => ∃ A2 c2 A1 c1, v = .int .i64 0 ∧ N = [bA (e.1, (A2, c2)), .blk b (.cells (lrC (.slice A1 (l.length + 1) c1) sy) 36 (0, 0)), .row 27 5 (.slice A1 (l.length + 1) c1) (l.length + 1) (l.flatMap mE ++ mE (e.1, (A2, c2))), bag (l.map bA)]) ?_
        (fun v N ⟨A2, c2, A1, c1, h1, h2⟩ => ⟨yL b (A1, c1) (l ++ [(e.1, (A2, c2))]) sy, fun w' hp => ?_, ((A1, c1), l ++ [(e.1, (A2, c2))]), by rw [List.map_append]; rfl, h1, rfl⟩)
      · refine Sp.enter (n := 30) Try.func35 rfl rfl rfl hp ?_
        repeat' (first
            | ((with_reducible refine is_load ?_); (first | ((refine' ⟨_, Yl_loadA_at (vs := mE a.e) rfl ?qa ?qb ?ql ?qc, ?_⟩); (case qa => exact agg_of rfl); (case qb => (repeat (first | exact .head _ | apply List.Mem.tail))); (case qc => exact aE_at a); (case ql => rfl))))
            | ((with_reducible refine ie_store ?_); (first
            | ((refine' Ef_storeA' rfl rfl ?q1 (mE_one _) ?q2 ?q3 ?_); (case q1 => exact siz_of rfl); (case q2 => (first | exact at0 | exact at1 | exact at2 | exact at3 | exact at4 | exact at5 | exact at6)); (case q3 => rfl))
            | ((refine' Ef_storeA' (V := (mE (⟨p, s, 1, p, []⟩, (none, 0))).toArray) rfl rfl ?q1 (mE_one _) ?q2 ?q3 ?_); (case q1 => exact siz_of rfl); (case q2 => (first | exact at0 | exact at1 | exact at2 | exact at3 | exact at4 | exact at5 | exact at6)); (case q3 => rfl))
            | ((refine' Ef_storeC (C' := lrC (.slice A1 (l.length + 1) c1) sy) rfl rfl ?q1 ?q2 ?q3 ?q4 ?q5 ?_); (case q1 => rfl); (case q2 => exact siz_of rfl); (case q3 => (first | exact at0 | exact at1 | exact at2 | exact at3 | exact at4 | exact at5 | exact at6)); (case q4 => exact Nat.le_of_ble_eq_true rfl); (case q5 => rfl))
            | ((refine' Ef_storeC (C' := lrC (.slice A1 ms.length c1) sy) rfl rfl ?q1 ?q2 ?q3 ?q4 ?q5 ?_); (case q1 => rfl); (case q2 => exact siz_of rfl); (case q3 => (first | exact at0 | exact at1 | exact at2 | exact at3 | exact at4 | exact at5 | exact at6)); (case q4 => exact Nat.le_of_ble_eq_true rfl); (case q5 => rfl))
            | ((refine' Ef_storeC (C' := lrC (.slice A1 ms.length c1) n) rfl rfl ?q1 ?q2 ?q3 ?q4 ?q5 ?_); (case q1 => rfl); (case q2 => exact siz_of rfl); (case q3 => (first | exact at0 | exact at1 | exact at2 | exact at3 | exact at4 | exact at5 | exact at6)); (case q4 => exact Nat.le_of_ble_eq_true rfl); (case q5 => rfl))
            | ((refine' Ef_storeC (C' := (mE ({ a.e.1 with pos := size + 1 }, a.e.2)).toArray) rfl rfl ?q1 ?q2 ?q3 ?q4 ?q5 ?_); (case q1 => rfl); (case q2 => exact siz_of rfl); (case q3 => (first | exact at0 | exact at1 | exact at2 | exact at3 | exact at4 | exact at5 | exact at6)); (case q4 => exact Nat.le_of_ble_eq_true rfl); (case q5 => rfl))
            | ((refine' Ef_storeC (C' := (mE ({ a.e.1 with pos := size + 1, stamp := st }, a.e.2)).toArray) rfl rfl ?q1 ?q2 ?q3 ?q4 ?q5 ?_); (case q1 => rfl); (case q2 => exact siz_of rfl); (case q3 => (first | exact at0 | exact at1 | exact at2 | exact at3 | exact at4 | exact at5 | exact at6)); (case q4 => exact Nat.le_of_ble_eq_true rfl); (case q5 => rfl))))
            | ((with_reducible refine ie_callf ?_); (first | ((with_reducible refine g_call 18 ?_); (first | ((refine' Ef_callP rfl rfl ent_18 (fun w hp => rstamp_v b z.1 l.length z.2 sy l w (hp.rowOf ?q1) rfl ?q2 _ hst (hp.blkOf ?q3)) ?_); (case q1 => (repeat (first | exact .head _ | apply List.Mem.tail))); (case q2 => omega); (case q3 => (repeat (first | exact .head _ | apply List.Mem.tail)))))) | ((with_reducible refine g_call 40 ?_); (first | (refine Ef_callN rfl rfl ent_40 (fun w hp => copied_c e w (hp.rd he heR) h5) ?_; rintro ⟨A2, c2⟩)))))
            | (first | ((((refine' Ef_appG_row (news := mE _) rfl rfl rfl ?q1 ?q2 ?q3 (mE_one _) ?q4 ?q5 ?_); (case q1 => exact app_of rfl); (case q2 => (first | exact at0 | exact at1 | exact at2 | exact at3 | exact at4 | exact at5 | exact at6)); (case q3 => (repeat (first | exact .head _ | apply List.Mem.tail))); (case q4 => omega); (case q5 => omega))); (first | ((fail_if_success have := A1); intro A1 c1) | ((fail_if_success have := A2); intro A2 c2) | intro _ _)))
            | ((with_reducible refine g_draw ?_); (first | (((refine' T.drawB (id := 5) (.y 0 (.y 1 (.y 2 (.y 3 (.y 5 (.b 4 (.run [(6, false), (7, false), (8, false), (9, false), (10, false), (11, false)]) 6 (.b 4 (.run [(7, false), (8, false), (9, false), (10, false), (11, false)]) 7 (.run [(4, false), (8, false), (9, false), (10, false), (11, false)])))))))) [.blk b1 (.cells (mE e).toArray 27 (0, 0))] mixd ?q1 ?q2 ?_); (case q1 => kernel_rfl); (case q2 => (repeat (first | exact List.nil_sublist _ | refine List.Sublist.cons_cons _ ?_ | refine List.Sublist.cons _ ?_))))) | (((with_reducible refine' T.drawM (id := 1) [(0, true), (1, true), (2, false), (3, false), (4, false), (5, false), (6, false), (7, false), (8, false)] mixd ?q1 ?_); (case q1 => kernel_rfl))) | (((with_reducible refine' T.drawM (id := 3) [(0, true), (1, true), (2, false), (3, false), (4, false)] mixd ?q1 ?_); (case q1 => kernel_rfl)))))
            | refine w1 ?_
            | (refine w2 ?_ ?_ <;> intro hc)
            | (first | ((refine' ⟨_, Yl_sl_hZ (h := k) rfl rfl hkn ?q1 ?q2 ?q3, ?_⟩); (case q1 => exact und_of rfl); (case q2 => exact siz_of rfl); (case q3 => omega)))
            | (refine w4 ?_; (first | ((fail_if_success have := b1); intro b1) | intro _))
            | (refine w5 ?_; (first | ((fail_if_success have := A1); intro A1 c1) | ((fail_if_success have := A2); intro A2 c2) | intro _ _))
            | refine w3 ?_ ?_
            | fail_if_success skip)
        all_goals exact ret_n [bA (e.1, (A2, c2)), .blk b (.cells (lrC (.slice A1 (l.length + 1) c1) sy) 36 (0, 0)), .row 27 5 (.slice A1 (l.length + 1) c1) (l.length + 1) (l.flatMap mE ++ mE (e.1, (A2, c2))), bag (l.map bA)] (res1 rfl rfl) (by (repeat (first | exact List.nil_sublist _ | refine List.Sublist.cons_cons _ ?_ | refine List.Sublist.cons _ ?_))) ⟨A2, c2, A1, c1, rfl, rfl⟩
      · subst h2
        have h3 := (hp.ofPart (M' := [bA (e.1, (A2, c2)), bag (l.map bA), .blk b (.cells (lrC (.slice A1 (l.length + 1) c1) sy) 36 (0, 0)), .row 27 5 (.slice A1 (l.length + 1) c1) (l.length + 1) (l.flatMap mE ++ mE (e.1, (A2, c2)))]) (by (repeat (first | exact Part.nil | refine Part.p0 ?_ | refine Part.p1 ?_ | refine Part.p2 ?_ | refine Part.p3 ?_ | refine Part.p4 ?_ | refine Part.p5 ?_ | refine Part.p6 ?_)))).bagAdd
        unfold yL rM
        rw [List.length_append, mE_snoc, List.map_append]
        exact h3.ofPart (by (repeat (first | exact Part.nil | refine Part.p0 ?_ | refine Part.p1 ?_ | refine Part.p2 ?_ | refine Part.p3 ?_ | refine Part.p4 ?_ | refine Part.p5 ?_ | refine Part.p6 ?_)))
  · rw [if_pos (by omega)]
    refine Sp.enter (n := 30) Try.func35 rfl rfl rfl hp ?_
    repeat' (first
        | ((with_reducible refine is_load ?_); (first | ((refine' ⟨_, Yl_loadA_at (vs := mE a.e) rfl ?qa ?qb ?ql ?qc, ?_⟩); (case qa => exact agg_of rfl); (case qb => (repeat (first | exact .head _ | apply List.Mem.tail))); (case qc => exact aE_at a); (case ql => rfl))))
        | ((with_reducible refine ie_store ?_); (first
        | ((refine' Ef_storeA' rfl rfl ?q1 (mE_one _) ?q2 ?q3 ?_); (case q1 => exact siz_of rfl); (case q2 => (first | exact at0 | exact at1 | exact at2 | exact at3 | exact at4 | exact at5 | exact at6)); (case q3 => rfl))
        | ((refine' Ef_storeA' (V := (mE (⟨p, s, 1, p, []⟩, (none, 0))).toArray) rfl rfl ?q1 (mE_one _) ?q2 ?q3 ?_); (case q1 => exact siz_of rfl); (case q2 => (first | exact at0 | exact at1 | exact at2 | exact at3 | exact at4 | exact at5 | exact at6)); (case q3 => rfl))
        | ((refine' Ef_storeC (C' := lrC (.slice A1 (l.length + 1) c1) sy) rfl rfl ?q1 ?q2 ?q3 ?q4 ?q5 ?_); (case q1 => rfl); (case q2 => exact siz_of rfl); (case q3 => (first | exact at0 | exact at1 | exact at2 | exact at3 | exact at4 | exact at5 | exact at6)); (case q4 => exact Nat.le_of_ble_eq_true rfl); (case q5 => rfl))
        | ((refine' Ef_storeC (C' := lrC (.slice A1 ms.length c1) sy) rfl rfl ?q1 ?q2 ?q3 ?q4 ?q5 ?_); (case q1 => rfl); (case q2 => exact siz_of rfl); (case q3 => (first | exact at0 | exact at1 | exact at2 | exact at3 | exact at4 | exact at5 | exact at6)); (case q4 => exact Nat.le_of_ble_eq_true rfl); (case q5 => rfl))
        | ((refine' Ef_storeC (C' := lrC (.slice A1 ms.length c1) n) rfl rfl ?q1 ?q2 ?q3 ?q4 ?q5 ?_); (case q1 => rfl); (case q2 => exact siz_of rfl); (case q3 => (first | exact at0 | exact at1 | exact at2 | exact at3 | exact at4 | exact at5 | exact at6)); (case q4 => exact Nat.le_of_ble_eq_true rfl); (case q5 => rfl))
        | ((refine' Ef_storeC (C' := (mE ({ a.e.1 with pos := size + 1 }, a.e.2)).toArray) rfl rfl ?q1 ?q2 ?q3 ?q4 ?q5 ?_); (case q1 => rfl); (case q2 => exact siz_of rfl); (case q3 => (first | exact at0 | exact at1 | exact at2 | exact at3 | exact at4 | exact at5 | exact at6)); (case q4 => exact Nat.le_of_ble_eq_true rfl); (case q5 => rfl))
        | ((refine' Ef_storeC (C' := (mE ({ a.e.1 with pos := size + 1, stamp := st }, a.e.2)).toArray) rfl rfl ?q1 ?q2 ?q3 ?q4 ?q5 ?_); (case q1 => rfl); (case q2 => exact siz_of rfl); (case q3 => (first | exact at0 | exact at1 | exact at2 | exact at3 | exact at4 | exact at5 | exact at6)); (case q4 => exact Nat.le_of_ble_eq_true rfl); (case q5 => rfl))))
        | ((with_reducible refine ie_callf ?_); (first | ((with_reducible refine g_call 18 ?_); (first | ((refine' Ef_callP rfl rfl ent_18 (fun w hp => rstamp_v b z.1 l.length z.2 sy l w (hp.rowOf ?q1) rfl ?q2 _ hst (hp.blkOf ?q3)) ?_); (case q1 => (repeat (first | exact .head _ | apply List.Mem.tail))); (case q2 => omega); (case q3 => (repeat (first | exact .head _ | apply List.Mem.tail)))))) | ((with_reducible refine g_call 40 ?_); (first | (refine Ef_callN rfl rfl ent_40 (fun w hp => copied_c e w (hp.rd he heR) h5) ?_; rintro ⟨A2, c2⟩)))))
        | (first | ((((refine' Ef_appG_row (news := mE _) rfl rfl rfl ?q1 ?q2 ?q3 (mE_one _) ?q4 ?q5 ?_); (case q1 => exact app_of rfl); (case q2 => (first | exact at0 | exact at1 | exact at2 | exact at3 | exact at4 | exact at5 | exact at6)); (case q3 => (repeat (first | exact .head _ | apply List.Mem.tail))); (case q4 => omega); (case q5 => omega))); (first | ((fail_if_success have := A1); intro A1 c1) | ((fail_if_success have := A2); intro A2 c2) | intro _ _)))
        | ((with_reducible refine g_draw ?_); (first | (((refine' T.drawB (id := 5) (.y 0 (.y 1 (.y 2 (.y 3 (.y 5 (.b 4 (.run [(6, false), (7, false), (8, false), (9, false), (10, false), (11, false)]) 6 (.b 4 (.run [(7, false), (8, false), (9, false), (10, false), (11, false)]) 7 (.run [(4, false), (8, false), (9, false), (10, false), (11, false)])))))))) [.blk b1 (.cells (mE e).toArray 27 (0, 0))] mixd ?q1 ?q2 ?_); (case q1 => kernel_rfl); (case q2 => (repeat (first | exact List.nil_sublist _ | refine List.Sublist.cons_cons _ ?_ | refine List.Sublist.cons _ ?_))))) | (((with_reducible refine' T.drawM (id := 1) [(0, true), (1, true), (2, false), (3, false), (4, false), (5, false), (6, false), (7, false), (8, false)] mixd ?q1 ?_); (case q1 => kernel_rfl))) | (((with_reducible refine' T.drawM (id := 3) [(0, true), (1, true), (2, false), (3, false), (4, false)] mixd ?q1 ?_); (case q1 => kernel_rfl)))))
        | refine w1 ?_
        | (refine w2 ?_ ?_ <;> intro hc)
        | (first | ((refine' ⟨_, Yl_sl_hZ (h := k) rfl rfl hkn ?q1 ?q2 ?q3, ?_⟩); (case q1 => exact und_of rfl); (case q2 => exact siz_of rfl); (case q3 => omega)))
        | (refine w4 ?_; (first | ((fail_if_success have := b1); intro b1) | intro _))
        | (refine w5 ?_; (first | ((fail_if_success have := A1); intro A1 c1) | ((fail_if_success have := A2); intro A2 c2) | intro _ _))
        | refine w3 ?_ ?_
        | fail_if_success skip)
    exact ret_n (yL b z l sy) (res1 rfl rfl) (by (repeat (first | exact List.nil_sublist _ | refine List.Sublist.cons_cons _ ?_ | refine List.Sublist.cons _ ?_))) ⟨(z, l), rfl, rfl, rfl⟩

variable (hlb : ∀ x ∈ l, x.1.body.length ≤ 6000)
include hlb
set_option maxHeartbeats 2000000 in
theorem rcut_c (n : Int) : Sp Try.prog 36 [.pointer (some ⟨b, 0, none⟩), .int .i64 n] w R fun v N => ∃ y : Hd × List Me, y.2.map (·.1) = (Lg.cut (l.map (·.1)) sy n).1.1 ∧ v = .int .i64 (Lg.cut (l.map (·.1)) sy n).2 ∧ N = yL b y.1 y.2 (Lg.cut (l.map (·.1)) sy n).1.2 := by
  have hcap := hp.capOf (show Asrt.row 27 5 (.slice z.1 l.length z.2) l.length (l.flatMap mE) ∈ yL b z l sy by (repeat (first | exact .head _ | apply List.Mem.tail)))
  unfold Lg.cut
  rw [List.length_map]
  by_cases hg : n < 0 ∨ (¬ n < 0 ∧ (l.length : Int) < n)
  · rw [if_pos (by omega)]
    rcases hg with g1 | ⟨g1, g2⟩
    all_goals
      refine Sp.enter (n := 36) Try.func36 rfl rfl rfl hp ?_
      repeat' (first
          | ((with_reducible refine is_load ?_); (first | ((refine' ⟨_, Yl_loadA_at (vs := mE a.e) rfl ?qa ?qb ?ql ?qc, ?_⟩); (case qa => exact agg_of rfl); (case qb => (repeat (first | exact .head _ | apply List.Mem.tail))); (case qc => exact aE_at a); (case ql => rfl))))
          | ((with_reducible refine ie_store ?_); (first
          | ((refine' Ef_storeA' rfl rfl ?q1 (mE_one _) ?q2 ?q3 ?_); (case q1 => exact siz_of rfl); (case q2 => (first | exact at0 | exact at1 | exact at2 | exact at3 | exact at4 | exact at5 | exact at6)); (case q3 => rfl))
          | ((refine' Ef_storeA' (V := (mE (⟨p, s, 1, p, []⟩, (none, 0))).toArray) rfl rfl ?q1 (mE_one _) ?q2 ?q3 ?_); (case q1 => exact siz_of rfl); (case q2 => (first | exact at0 | exact at1 | exact at2 | exact at3 | exact at4 | exact at5 | exact at6)); (case q3 => rfl))
          | ((refine' Ef_storeC (C' := lrC (.slice A1 (l.length + 1) c1) sy) rfl rfl ?q1 ?q2 ?q3 ?q4 ?q5 ?_); (case q1 => rfl); (case q2 => exact siz_of rfl); (case q3 => (first | exact at0 | exact at1 | exact at2 | exact at3 | exact at4 | exact at5 | exact at6)); (case q4 => exact Nat.le_of_ble_eq_true rfl); (case q5 => rfl))
          | ((refine' Ef_storeC (C' := lrC (.slice A1 ms.length c1) sy) rfl rfl ?q1 ?q2 ?q3 ?q4 ?q5 ?_); (case q1 => rfl); (case q2 => exact siz_of rfl); (case q3 => (first | exact at0 | exact at1 | exact at2 | exact at3 | exact at4 | exact at5 | exact at6)); (case q4 => exact Nat.le_of_ble_eq_true rfl); (case q5 => rfl))
          | ((refine' Ef_storeC (C' := lrC (.slice A1 ms.length c1) n) rfl rfl ?q1 ?q2 ?q3 ?q4 ?q5 ?_); (case q1 => rfl); (case q2 => exact siz_of rfl); (case q3 => (first | exact at0 | exact at1 | exact at2 | exact at3 | exact at4 | exact at5 | exact at6)); (case q4 => exact Nat.le_of_ble_eq_true rfl); (case q5 => rfl))
          | ((refine' Ef_storeC (C' := (mE ({ a.e.1 with pos := size + 1 }, a.e.2)).toArray) rfl rfl ?q1 ?q2 ?q3 ?q4 ?q5 ?_); (case q1 => rfl); (case q2 => exact siz_of rfl); (case q3 => (first | exact at0 | exact at1 | exact at2 | exact at3 | exact at4 | exact at5 | exact at6)); (case q4 => exact Nat.le_of_ble_eq_true rfl); (case q5 => rfl))
          | ((refine' Ef_storeC (C' := (mE ({ a.e.1 with pos := size + 1, stamp := st }, a.e.2)).toArray) rfl rfl ?q1 ?q2 ?q3 ?q4 ?q5 ?_); (case q1 => rfl); (case q2 => exact siz_of rfl); (case q3 => (first | exact at0 | exact at1 | exact at2 | exact at3 | exact at4 | exact at5 | exact at6)); (case q4 => exact Nat.le_of_ble_eq_true rfl); (case q5 => rfl))))
          | ((with_reducible refine ie_callf ?_); (first   | ((with_reducible refine g_call 34 ?_); (first | (((refine' Ef_callNX rfl rfl ent_34 (fun w hp => copieds_c z.1 k z.2 (l.take k) w ((hp.rowOf ?q1).upto mE_len hk) hlk ?q2 (fun x hx => hp.ins_bag ?q3 x (List.mem_of_mem_take hx)) (fun x hx => hlb x (List.mem_of_mem_take hx))) ?_); (case q1 => (repeat (first | exact .head _ | apply List.Mem.tail))); (case q2 => omega); (case q3 => (repeat (first | exact .head _ | apply List.Mem.tail)))); rintro ⟨⟨A1, c1⟩, ms⟩ hms)))))
          | (first | ((((refine' Ef_appG_row (news := mE _) rfl rfl rfl ?q1 ?q2 ?q3 (mE_one _) ?q4 ?q5 ?_); (case q1 => exact app_of rfl); (case q2 => (first | exact at0 | exact at1 | exact at2 | exact at3 | exact at4 | exact at5 | exact at6)); (case q3 => (repeat (first | exact .head _ | apply List.Mem.tail))); (case q4 => omega); (case q5 => omega))); (first | ((fail_if_success have := A1); intro A1 c1) | intro _ _)))
          | ((with_reducible refine g_draw ?_); (first | (((refine' T.drawB (id := 5) (.y 0 (.y 1 (.y 2 (.y 3 (.y 5 (.b 4 (.run [(6, false), (7, false), (8, false), (9, false), (10, false), (11, false)]) 6 (.b 4 (.run [(7, false), (8, false), (9, false), (10, false), (11, false)]) 7 (.run [(4, false), (8, false), (9, false), (10, false), (11, false)])))))))) [.blk b1 (.cells (mE e).toArray 27 (0, 0))] mixd ?q1 ?q2 ?_); (case q1 => kernel_rfl); (case q2 => (repeat (first | exact List.nil_sublist _ | refine List.Sublist.cons_cons _ ?_ | refine List.Sublist.cons _ ?_)))))))
          | refine w1 ?_
          | (refine w2 ?_ ?_ <;> intro hc)
          | (first | ((refine' ⟨_, Yl_sl_hZ (h := k) rfl rfl hkn ?q1 ?q2 ?q3, ?_⟩); (case q1 => exact und_of rfl); (case q2 => exact siz_of rfl); (case q3 => omega)))
          | (refine w4 ?_; (first | ((fail_if_success have := b1); intro b1) | intro _))
          | (refine w5 ?_; (first | ((fail_if_success have := A1); intro A1 c1) | intro _ _))
          | refine w3 ?_ ?_
          | fail_if_success skip)
      exact ret_n (yL b z l sy) (res1 rfl rfl) (by (repeat (first | exact List.nil_sublist _ | refine List.Sublist.cons_cons _ ?_ | refine List.Sublist.cons _ ?_))) ⟨(z, l), rfl, rfl, rfl⟩
  · have g1 : ¬ n < 0 := by omega
    have g2 : ¬ (l.length : Int) < n := by omega
    rw [if_neg (by omega)]
    obtain ⟨k, hkn⟩ : ∃ k : Nat, (k : Int) = n := ⟨n.toNat, by omega⟩
    have hk : k ≤ l.length := by omega
    have hlk : (l.take k).length = k := by rw [List.length_take]; omega
    have e1 : n.toNat = k := by omega
    rw [e1, ← List.map_take]
    by_cases g3 : n < sy
    · rw [show min sy n = n by omega]
      refine Sp.part (Res := fun v N => ∃ y : Hd × List Me, y.2.map (·.1) = (l.take k).map (·.1) ∧ v = .int .i64 0 ∧ N = [rM y.2 y.1, bag (y.2.map bA), .blk b (.cells (lrC (.slice y.1.1 y.2.length y.1.2) n) 36 (0, 0))]) ?_ (fun v N ⟨y, h1, h2, h3⟩ => ⟨yL b y.1 y.2 n, by subst h3; (repeat (first | exact Part.nil | refine Part.p0 ?_ | refine Part.p1 ?_ | refine Part.p2 ?_ | refine Part.p3 ?_ | refine Part.p4 ?_ | refine Part.p5 ?_ | refine Part.p6 ?_)), y, h1, h2, rfl⟩)
      refine Sp.enter (n := 36) Try.func36 rfl rfl rfl hp ?_
      repeat' (first
          | ((with_reducible refine is_load ?_); (first | ((refine' ⟨_, Yl_loadA_at (vs := mE a.e) rfl ?qa ?qb ?ql ?qc, ?_⟩); (case qa => exact agg_of rfl); (case qb => (repeat (first | exact .head _ | apply List.Mem.tail))); (case qc => exact aE_at a); (case ql => rfl))))
          | ((with_reducible refine ie_store ?_); (first
          | ((refine' Ef_storeA' rfl rfl ?q1 (mE_one _) ?q2 ?q3 ?_); (case q1 => exact siz_of rfl); (case q2 => (first | exact at0 | exact at1 | exact at2 | exact at3 | exact at4 | exact at5 | exact at6)); (case q3 => rfl))
          | ((refine' Ef_storeA' (V := (mE (⟨p, s, 1, p, []⟩, (none, 0))).toArray) rfl rfl ?q1 (mE_one _) ?q2 ?q3 ?_); (case q1 => exact siz_of rfl); (case q2 => (first | exact at0 | exact at1 | exact at2 | exact at3 | exact at4 | exact at5 | exact at6)); (case q3 => rfl))
          | ((refine' Ef_storeC (C' := lrC (.slice A1 (l.length + 1) c1) sy) rfl rfl ?q1 ?q2 ?q3 ?q4 ?q5 ?_); (case q1 => rfl); (case q2 => exact siz_of rfl); (case q3 => (first | exact at0 | exact at1 | exact at2 | exact at3 | exact at4 | exact at5 | exact at6)); (case q4 => exact Nat.le_of_ble_eq_true rfl); (case q5 => rfl))
          | ((refine' Ef_storeC (C' := lrC (.slice A1 ms.length c1) sy) rfl rfl ?q1 ?q2 ?q3 ?q4 ?q5 ?_); (case q1 => rfl); (case q2 => exact siz_of rfl); (case q3 => (first | exact at0 | exact at1 | exact at2 | exact at3 | exact at4 | exact at5 | exact at6)); (case q4 => exact Nat.le_of_ble_eq_true rfl); (case q5 => rfl))
          | ((refine' Ef_storeC (C' := lrC (.slice A1 ms.length c1) n) rfl rfl ?q1 ?q2 ?q3 ?q4 ?q5 ?_); (case q1 => rfl); (case q2 => exact siz_of rfl); (case q3 => (first | exact at0 | exact at1 | exact at2 | exact at3 | exact at4 | exact at5 | exact at6)); (case q4 => exact Nat.le_of_ble_eq_true rfl); (case q5 => rfl))
          | ((refine' Ef_storeC (C' := (mE ({ a.e.1 with pos := size + 1 }, a.e.2)).toArray) rfl rfl ?q1 ?q2 ?q3 ?q4 ?q5 ?_); (case q1 => rfl); (case q2 => exact siz_of rfl); (case q3 => (first | exact at0 | exact at1 | exact at2 | exact at3 | exact at4 | exact at5 | exact at6)); (case q4 => exact Nat.le_of_ble_eq_true rfl); (case q5 => rfl))
          | ((refine' Ef_storeC (C' := (mE ({ a.e.1 with pos := size + 1, stamp := st }, a.e.2)).toArray) rfl rfl ?q1 ?q2 ?q3 ?q4 ?q5 ?_); (case q1 => rfl); (case q2 => exact siz_of rfl); (case q3 => (first | exact at0 | exact at1 | exact at2 | exact at3 | exact at4 | exact at5 | exact at6)); (case q4 => exact Nat.le_of_ble_eq_true rfl); (case q5 => rfl))))
          | ((with_reducible refine ie_callf ?_); (first   | ((with_reducible refine g_call 34 ?_); (first | (((refine' Ef_callNX rfl rfl ent_34 (fun w hp => copieds_c z.1 k z.2 (l.take k) w ((hp.rowOf ?q1).upto mE_len hk) hlk ?q2 (fun x hx => hp.ins_bag ?q3 x (List.mem_of_mem_take hx)) (fun x hx => hlb x (List.mem_of_mem_take hx))) ?_); (case q1 => (repeat (first | exact .head _ | apply List.Mem.tail))); (case q2 => omega); (case q3 => (repeat (first | exact .head _ | apply List.Mem.tail)))); rintro ⟨⟨A1, c1⟩, ms⟩ hms)))))
          | (first | ((((refine' Ef_appG_row (news := mE _) rfl rfl rfl ?q1 ?q2 ?q3 (mE_one _) ?q4 ?q5 ?_); (case q1 => exact app_of rfl); (case q2 => (first | exact at0 | exact at1 | exact at2 | exact at3 | exact at4 | exact at5 | exact at6)); (case q3 => (repeat (first | exact .head _ | apply List.Mem.tail))); (case q4 => omega); (case q5 => omega))); (first | ((fail_if_success have := A1); intro A1 c1) | intro _ _)))
          | ((with_reducible refine g_draw ?_); (first | (((refine' T.drawB (id := 5) (.y 0 (.y 1 (.y 2 (.y 3 (.y 5 (.b 4 (.run [(6, false), (7, false), (8, false), (9, false), (10, false), (11, false)]) 6 (.b 4 (.run [(7, false), (8, false), (9, false), (10, false), (11, false)]) 7 (.run [(4, false), (8, false), (9, false), (10, false), (11, false)])))))))) [.blk b1 (.cells (mE e).toArray 27 (0, 0))] mixd ?q1 ?q2 ?_); (case q1 => kernel_rfl); (case q2 => (repeat (first | exact List.nil_sublist _ | refine List.Sublist.cons_cons _ ?_ | refine List.Sublist.cons _ ?_)))))))
          | refine w1 ?_
          | (refine w2 ?_ ?_ <;> intro hc)
          | (first | ((refine' ⟨_, Yl_sl_hZ (h := k) rfl rfl hkn ?q1 ?q2 ?q3, ?_⟩); (case q1 => exact und_of rfl); (case q2 => exact siz_of rfl); (case q3 => omega)))
          | (refine w4 ?_; (first | ((fail_if_success have := b1); intro b1) | intro _))
          | (refine w5 ?_; (first | ((fail_if_success have := A1); intro A1 c1) | intro _ _))
          | refine w3 ?_ ?_
          | fail_if_success skip)
      exact ret_n [rM ms (A1, c1), bag (ms.map bA), .blk b (.cells (lrC (.slice A1 ms.length c1) n) 36 (0, 0))] (res1 rfl rfl) (by (repeat (first | exact List.nil_sublist _ | refine List.Sublist.cons_cons _ ?_ | refine List.Sublist.cons _ ?_))) ⟨((A1, c1), ms), hms, rfl, rfl⟩
    · rw [show min sy n = sy by omega]
      refine Sp.part (Res := fun v N => ∃ y : Hd × List Me, y.2.map (·.1) = (l.take k).map (·.1) ∧ v = .int .i64 0 ∧ N = [rM y.2 y.1, bag (y.2.map bA), .blk b (.cells (lrC (.slice y.1.1 y.2.length y.1.2) sy) 36 (0, 0))]) ?_ (fun v N ⟨y, h1, h2, h3⟩ => ⟨yL b y.1 y.2 sy, by subst h3; (repeat (first | exact Part.nil | refine Part.p0 ?_ | refine Part.p1 ?_ | refine Part.p2 ?_ | refine Part.p3 ?_ | refine Part.p4 ?_ | refine Part.p5 ?_ | refine Part.p6 ?_)), y, h1, h2, rfl⟩)
      refine Sp.enter (n := 36) Try.func36 rfl rfl rfl hp ?_
      repeat' (first
          | ((with_reducible refine is_load ?_); (first | ((refine' ⟨_, Yl_loadA_at (vs := mE a.e) rfl ?qa ?qb ?ql ?qc, ?_⟩); (case qa => exact agg_of rfl); (case qb => (repeat (first | exact .head _ | apply List.Mem.tail))); (case qc => exact aE_at a); (case ql => rfl))))
          | ((with_reducible refine ie_store ?_); (first
          | ((refine' Ef_storeA' rfl rfl ?q1 (mE_one _) ?q2 ?q3 ?_); (case q1 => exact siz_of rfl); (case q2 => (first | exact at0 | exact at1 | exact at2 | exact at3 | exact at4 | exact at5 | exact at6)); (case q3 => rfl))
          | ((refine' Ef_storeA' (V := (mE (⟨p, s, 1, p, []⟩, (none, 0))).toArray) rfl rfl ?q1 (mE_one _) ?q2 ?q3 ?_); (case q1 => exact siz_of rfl); (case q2 => (first | exact at0 | exact at1 | exact at2 | exact at3 | exact at4 | exact at5 | exact at6)); (case q3 => rfl))
          | ((refine' Ef_storeC (C' := lrC (.slice A1 (l.length + 1) c1) sy) rfl rfl ?q1 ?q2 ?q3 ?q4 ?q5 ?_); (case q1 => rfl); (case q2 => exact siz_of rfl); (case q3 => (first | exact at0 | exact at1 | exact at2 | exact at3 | exact at4 | exact at5 | exact at6)); (case q4 => exact Nat.le_of_ble_eq_true rfl); (case q5 => rfl))
          | ((refine' Ef_storeC (C' := lrC (.slice A1 ms.length c1) sy) rfl rfl ?q1 ?q2 ?q3 ?q4 ?q5 ?_); (case q1 => rfl); (case q2 => exact siz_of rfl); (case q3 => (first | exact at0 | exact at1 | exact at2 | exact at3 | exact at4 | exact at5 | exact at6)); (case q4 => exact Nat.le_of_ble_eq_true rfl); (case q5 => rfl))
          | ((refine' Ef_storeC (C' := lrC (.slice A1 ms.length c1) n) rfl rfl ?q1 ?q2 ?q3 ?q4 ?q5 ?_); (case q1 => rfl); (case q2 => exact siz_of rfl); (case q3 => (first | exact at0 | exact at1 | exact at2 | exact at3 | exact at4 | exact at5 | exact at6)); (case q4 => exact Nat.le_of_ble_eq_true rfl); (case q5 => rfl))
          | ((refine' Ef_storeC (C' := (mE ({ a.e.1 with pos := size + 1 }, a.e.2)).toArray) rfl rfl ?q1 ?q2 ?q3 ?q4 ?q5 ?_); (case q1 => rfl); (case q2 => exact siz_of rfl); (case q3 => (first | exact at0 | exact at1 | exact at2 | exact at3 | exact at4 | exact at5 | exact at6)); (case q4 => exact Nat.le_of_ble_eq_true rfl); (case q5 => rfl))
          | ((refine' Ef_storeC (C' := (mE ({ a.e.1 with pos := size + 1, stamp := st }, a.e.2)).toArray) rfl rfl ?q1 ?q2 ?q3 ?q4 ?q5 ?_); (case q1 => rfl); (case q2 => exact siz_of rfl); (case q3 => (first | exact at0 | exact at1 | exact at2 | exact at3 | exact at4 | exact at5 | exact at6)); (case q4 => exact Nat.le_of_ble_eq_true rfl); (case q5 => rfl))))
          | ((with_reducible refine ie_callf ?_); (first   | ((with_reducible refine g_call 34 ?_); (first | (((refine' Ef_callNX rfl rfl ent_34 (fun w hp => copieds_c z.1 k z.2 (l.take k) w ((hp.rowOf ?q1).upto mE_len hk) hlk ?q2 (fun x hx => hp.ins_bag ?q3 x (List.mem_of_mem_take hx)) (fun x hx => hlb x (List.mem_of_mem_take hx))) ?_); (case q1 => (repeat (first | exact .head _ | apply List.Mem.tail))); (case q2 => omega); (case q3 => (repeat (first | exact .head _ | apply List.Mem.tail)))); rintro ⟨⟨A1, c1⟩, ms⟩ hms)))))
          | (first | ((((refine' Ef_appG_row (news := mE _) rfl rfl rfl ?q1 ?q2 ?q3 (mE_one _) ?q4 ?q5 ?_); (case q1 => exact app_of rfl); (case q2 => (first | exact at0 | exact at1 | exact at2 | exact at3 | exact at4 | exact at5 | exact at6)); (case q3 => (repeat (first | exact .head _ | apply List.Mem.tail))); (case q4 => omega); (case q5 => omega))); (first | ((fail_if_success have := A1); intro A1 c1) | intro _ _)))
          | ((with_reducible refine g_draw ?_); (first | (((refine' T.drawB (id := 5) (.y 0 (.y 1 (.y 2 (.y 3 (.y 5 (.b 4 (.run [(6, false), (7, false), (8, false), (9, false), (10, false), (11, false)]) 6 (.b 4 (.run [(7, false), (8, false), (9, false), (10, false), (11, false)]) 7 (.run [(4, false), (8, false), (9, false), (10, false), (11, false)])))))))) [.blk b1 (.cells (mE e).toArray 27 (0, 0))] mixd ?q1 ?q2 ?_); (case q1 => kernel_rfl); (case q2 => (repeat (first | exact List.nil_sublist _ | refine List.Sublist.cons_cons _ ?_ | refine List.Sublist.cons _ ?_)))))))
          | refine w1 ?_
          | (refine w2 ?_ ?_ <;> intro hc)
          | (first | ((refine' ⟨_, Yl_sl_hZ (h := k) rfl rfl hkn ?q1 ?q2 ?q3, ?_⟩); (case q1 => exact und_of rfl); (case q2 => exact siz_of rfl); (case q3 => omega)))
          | (refine w4 ?_; (first | ((fail_if_success have := b1); intro b1) | intro _))
          | (refine w5 ?_; (first | ((fail_if_success have := A1); intro A1 c1) | intro _ _))
          | refine w3 ?_ ?_
          | fail_if_success skip)
      exact ret_n [rM ms (A1, c1), bag (ms.map bA), .blk b (.cells (lrC (.slice A1 ms.length c1) sy) 36 (0, 0))] (res1 rfl rfl) (by (repeat (first | exact List.nil_sublist _ | refine List.Sublist.cons_cons _ ?_ | refine List.Sublist.cons _ ?_))) ⟨((A1, c1), ms), hms, rfl, rfl⟩
end
end Go.Proofs.Ytegaejbfhpigjaa
