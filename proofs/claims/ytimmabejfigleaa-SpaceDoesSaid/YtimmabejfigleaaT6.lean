/- The document's Swap, Del, List, Resize, Same: what a call of each comes to. -/
import Derived.Test.YtimmabejfigleaaT5
namespace Go.Proofs.Ytimmabejfigleaa
open Go.RowKit
set_option maxRecDepth 20000

theorem r_build3 (a b : Int) (z : Option Addr) (n c : Nat) (w : World) : (Instr.build 24 #[(0, .int .i64 a), (1, .int .i64 b), (2, .slice z n c)]).run Try.prog w = .ok (.agg (sV a b (z, c) n)) w := by kernel_rfl

theorem eqQ (a b : Pr) : EqR Try.prog 10000 67 (.agg (pE a).toArray) (.agg (pE b).toArray) (decide (a.1 = b.1) && (decide (a.2 = b.2) && true)) := by
  refine EqR_struct str_67 (sto_of rfl) fls_67 ?_
  refine .cons (part_one (by exact one_of rfl) rfl) (part_one (by exact one_of rfl) rfl) (EqR_str (by exact und_of rfl)) ?_
  exact .cons (part_one (by exact one_of rfl) rfl) (part_one (by exact one_of rfl) rfl) (EqR_str (by exact und_of rfl)) .nil
theorem eqQ_t (a b : Pr) (h : a = b) : EqR Try.prog 10000 67 (.agg (pE a).toArray) (.agg (pE b).toArray) true := by
  subst h
  have := eqQ a a
  simpa using this
theorem eqQ_f (a b : Pr) (h : ¬ a = b) : EqR Try.prog 10000 67 (.agg (pE a).toArray) (.agg (pE b).toArray) false := by
  have := eqQ a b
  have hf : (decide (a.1 = b.1) && (decide (a.2 = b.2) && true)) = false := by
    rw [Bool.eq_false_iff]
    intro h'
    simp at h'
    exact h (Prod.ext h'.1 h'.2)
  rwa [hf] at this

section
variable (A : Option Addr) (len cap : Nat) (l : List Pr) (w : World) (hr : Rd w A len 2 (l.flatMap pE)) (hl : l.length = len) (hle : len ≤ 300)
include hr hl hle
set_option maxHeartbeats 2000000 in
theorem rswap_c (k y : Int) (key o v : ByteArray) : Sp Try.prog 24 [.agg (sV k y (A, cap) len), .string key, .string o, .string v] w [] fun r N => ∃ z : Option Addr × Nat, r = .tuple #[.agg (sV (Ks.swapR k y l key o v).1 (Ks.swapR k y l key o v).2.1 z (Ks.swapR k y l key o v).2.2.1.length), .int .i64 (Ks.swapR k y l key o v).2.2.2] ∧ N = [rQ (Ks.swapR k y l key o v).2.2.1 z] := by
  by_cases hbad : Ks.may k y l = false ∨ (Ks.may k y l = true ∧ ¬ (1 ≤ key.size ∧ key.size ≤ 24)) ∨ (Ks.may k y l = true ∧ (1 ≤ key.size ∧ key.size ≤ 24) ∧ ¬ v.size ≤ 64)
  · have en : Ks.swapR k y l key o v = (0, 0, [], 2) := by
      unfold Ks.swapR Ks.pr
      rcases hbad with h | ⟨h, h2⟩ | ⟨h, h2, h3⟩
      · rw [h]; rfl
      · rw [decide_eq_false (fun h => h2 ⟨h.1, h.2.1⟩), Bool.and_false]; rfl
      · rw [decide_eq_false (fun h => h3 h.2.2), Bool.and_false]; rfl
    rw [en]
    rcases hbad with h | ⟨h, h2⟩ | ⟨h, h2, h3⟩
    · have hma := fun w h2 => rmay_v A len cap l w h2 hl (by omega) k y false h
      refine Sp.enter (n := 46) Try.func24 rfl rfl rfl (Hp.refl w) ?_
      refine T.row0e 67 2 ?_
      repeat' (first
          | ((with_reducible refine is_build ?_); (first | refine ⟨_, Yl_build rfl (r_build3 _ _ _ _ _), ?_⟩ | refine ⟨_, Yl_build rfl (r_build2 _ _), ?_⟩ | refine ⟨_, Yl_build rfl r_build0, ?_⟩))
          | ((with_reducible refine ie_callf ?_); (first | ((with_reducible refine g_call 30 ?_); (first | refine Ef_callP rfl rfl ent_30 (fun w hp => hma w (hp.rd hr fun _ => List.not_mem_nil)) ?_)) | ((with_reducible refine g_call 40 ?_); (first | refine Ef_callP rfl rfl ent_40 (fun w _ => hky w) ?_)) | ((with_reducible refine g_call 41 ?_); (first | refine Ef_callP rfl rfl ent_41 (fun w _ => hva w) ?_))   | ((with_reducible refine g_call 27 ?_); (first | refine Ef_callP rfl rfl ent_27 (fun w hp => hge w (hp.rd hr fun _ => List.not_mem_nil)) ?_)) | ((with_reducible refine g_call 22 ?_); (first | (refine Ef_callN rfl rfl ent_22 (fun w hp => hpu w (hp.rd hr fun _ => List.not_mem_nil)) ?_; rintro ⟨A1, c1⟩)))))
          | ((with_reducible refine g_draw ?_); (first | (((refine' T.draw (id := 4) [(0, true), (1, true), (2, true), (3, true), (4, true), (5, true), (6, false), (7, false), (8, false), (9, false), (10, false)] [.blk b1 (.cells (sV k y (A, cap) len) 24 (0, 0))] mixd ?q1 ?q2 ?_); (case q1 => kernel_rfl); (case q2 => (repeat (first | exact List.nil_sublist _ | refine List.Sublist.cons_cons _ ?_ | refine List.Sublist.cons _ ?_)))))))
          | refine w1 ?_
          | (refine w2 ?_ ?_ <;> intro hc)
          | (first | refine ⟨_, Yl_neqA rfl rfl (eqg_of rfl) (eqQ_t _ _ hxy).run, ?_⟩ | refine ⟨_, Yl_neqA rfl rfl (eqg_of rfl) (eqQ_f _ _ hxy).run, ?_⟩)
          | (refine w4 ?_; (first | ((fail_if_success have := b1); intro b1) | intro _))
          | (refine w5 ?_; (first | ((fail_if_success have := A1); intro A1 c1) | intro _ _))
          | refine w3 ?_ ?_
          | fail_if_success skip)
      exact ret_n [rQ [] (none, 0)] (resC1 rfl rfl rfl (by (repeat (first | exact .head _ | apply List.Mem.tail))) (agg_of rfl)) (by (repeat (first | exact List.nil_sublist _ | refine List.Sublist.cons_cons _ ?_ | refine List.Sublist.cons _ ?_))) ⟨(none, 0), rfl, rfl⟩
    · have hma := fun w h2 => rmay_v A len cap l w h2 hl (by omega) k y true h
      have hky := fun w => key_v key false w (decide_eq_false h2)
      refine Sp.enter (n := 46) Try.func24 rfl rfl rfl (Hp.refl w) ?_
      refine T.row0e 67 2 ?_
      repeat' (first
          | ((with_reducible refine is_build ?_); (first | refine ⟨_, Yl_build rfl (r_build3 _ _ _ _ _), ?_⟩ | refine ⟨_, Yl_build rfl (r_build2 _ _), ?_⟩ | refine ⟨_, Yl_build rfl r_build0, ?_⟩))
          | ((with_reducible refine ie_callf ?_); (first | ((with_reducible refine g_call 30 ?_); (first | refine Ef_callP rfl rfl ent_30 (fun w hp => hma w (hp.rd hr fun _ => List.not_mem_nil)) ?_)) | ((with_reducible refine g_call 40 ?_); (first | refine Ef_callP rfl rfl ent_40 (fun w _ => hky w) ?_)) | ((with_reducible refine g_call 41 ?_); (first | refine Ef_callP rfl rfl ent_41 (fun w _ => hva w) ?_))   | ((with_reducible refine g_call 27 ?_); (first | refine Ef_callP rfl rfl ent_27 (fun w hp => hge w (hp.rd hr fun _ => List.not_mem_nil)) ?_)) | ((with_reducible refine g_call 22 ?_); (first | (refine Ef_callN rfl rfl ent_22 (fun w hp => hpu w (hp.rd hr fun _ => List.not_mem_nil)) ?_; rintro ⟨A1, c1⟩)))))
          | ((with_reducible refine g_draw ?_); (first | (((refine' T.draw (id := 4) [(0, true), (1, true), (2, true), (3, true), (4, true), (5, true), (6, false), (7, false), (8, false), (9, false), (10, false)] [.blk b1 (.cells (sV k y (A, cap) len) 24 (0, 0))] mixd ?q1 ?q2 ?_); (case q1 => kernel_rfl); (case q2 => (repeat (first | exact List.nil_sublist _ | refine List.Sublist.cons_cons _ ?_ | refine List.Sublist.cons _ ?_)))))))
          | refine w1 ?_
          | (refine w2 ?_ ?_ <;> intro hc)
          | (first | refine ⟨_, Yl_neqA rfl rfl (eqg_of rfl) (eqQ_t _ _ hxy).run, ?_⟩ | refine ⟨_, Yl_neqA rfl rfl (eqg_of rfl) (eqQ_f _ _ hxy).run, ?_⟩)
          | (refine w4 ?_; (first | ((fail_if_success have := b1); intro b1) | intro _))
          | (refine w5 ?_; (first | ((fail_if_success have := A1); intro A1 c1) | intro _ _))
          | refine w3 ?_ ?_
          | fail_if_success skip)
      exact ret_n [rQ [] (none, 0)] (resC1 rfl rfl rfl (by (repeat (first | exact .head _ | apply List.Mem.tail))) (agg_of rfl)) (by (repeat (first | exact List.nil_sublist _ | refine List.Sublist.cons_cons _ ?_ | refine List.Sublist.cons _ ?_))) ⟨(none, 0), rfl, rfl⟩
    · have hma := fun w h2 => rmay_v A len cap l w h2 hl (by omega) k y true h
      have hky := fun w => key_v key true w (decide_eq_true h2)
      have hva := fun w => val_v v false w (decide_eq_false h3)
      refine Sp.enter (n := 46) Try.func24 rfl rfl rfl (Hp.refl w) ?_
      refine T.row0e 67 2 ?_
      repeat' (first
          | ((with_reducible refine is_build ?_); (first | refine ⟨_, Yl_build rfl (r_build3 _ _ _ _ _), ?_⟩ | refine ⟨_, Yl_build rfl (r_build2 _ _), ?_⟩ | refine ⟨_, Yl_build rfl r_build0, ?_⟩))
          | ((with_reducible refine ie_callf ?_); (first | ((with_reducible refine g_call 30 ?_); (first | refine Ef_callP rfl rfl ent_30 (fun w hp => hma w (hp.rd hr fun _ => List.not_mem_nil)) ?_)) | ((with_reducible refine g_call 40 ?_); (first | refine Ef_callP rfl rfl ent_40 (fun w _ => hky w) ?_)) | ((with_reducible refine g_call 41 ?_); (first | refine Ef_callP rfl rfl ent_41 (fun w _ => hva w) ?_))   | ((with_reducible refine g_call 27 ?_); (first | refine Ef_callP rfl rfl ent_27 (fun w hp => hge w (hp.rd hr fun _ => List.not_mem_nil)) ?_)) | ((with_reducible refine g_call 22 ?_); (first | (refine Ef_callN rfl rfl ent_22 (fun w hp => hpu w (hp.rd hr fun _ => List.not_mem_nil)) ?_; rintro ⟨A1, c1⟩)))))
          | ((with_reducible refine g_draw ?_); (first | (((refine' T.draw (id := 4) [(0, true), (1, true), (2, true), (3, true), (4, true), (5, true), (6, false), (7, false), (8, false), (9, false), (10, false)] [.blk b1 (.cells (sV k y (A, cap) len) 24 (0, 0))] mixd ?q1 ?q2 ?_); (case q1 => kernel_rfl); (case q2 => (repeat (first | exact List.nil_sublist _ | refine List.Sublist.cons_cons _ ?_ | refine List.Sublist.cons _ ?_)))))))
          | refine w1 ?_
          | (refine w2 ?_ ?_ <;> intro hc)
          | (first | refine ⟨_, Yl_neqA rfl rfl (eqg_of rfl) (eqQ_t _ _ hxy).run, ?_⟩ | refine ⟨_, Yl_neqA rfl rfl (eqg_of rfl) (eqQ_f _ _ hxy).run, ?_⟩)
          | (refine w4 ?_; (first | ((fail_if_success have := b1); intro b1) | intro _))
          | (refine w5 ?_; (first | ((fail_if_success have := A1); intro A1 c1) | intro _ _))
          | refine w3 ?_ ?_
          | fail_if_success skip)
      exact ret_n [rQ [] (none, 0)] (resC1 rfl rfl rfl (by (repeat (first | exact .head _ | apply List.Mem.tail))) (agg_of rfl)) (by (repeat (first | exact List.nil_sublist _ | refine List.Sublist.cons_cons _ ?_ | refine List.Sublist.cons _ ?_))) ⟨(none, 0), rfl, rfl⟩
  have h1 : Ks.may k y l = true := by
    cases h : Ks.may k y l with
    | true => rfl
    | false => exact absurd (.inl h) hbad
  have h2 : 1 ≤ key.size ∧ key.size ≤ 24 := Classical.byContradiction fun h => hbad (.inr (.inl ⟨h1, h⟩))
  have h3 : v.size ≤ 64 := Classical.byContradiction fun h => hbad (.inr (.inr ⟨h1, h2, h⟩))
  clear hbad
  have hma := fun w h2 => rmay_v A len cap l w h2 hl (by omega) k y true h1
  have hky := fun w => key_v key true w (decide_eq_true h2)
  have hva := fun w => val_v v true w (decide_eq_true h3)
  have hpr : Ks.pr (key, v) = true := decide_eq_true ⟨h2.1, h2.2, h3⟩
  have hpe : Ks.pr (key, Ks.e) = true := decide_eq_true ⟨h2.1, h2.2, show Ks.e.size ≤ 64 by decide⟩
  have hge := fun w h => rget_c A len cap l w h hl hle k y key
  have hpu := fun w h => rput_c A len cap l w h hl hle k y key v
  have e0 : Ks.putR k y l key v = Ks.fitR k y (Ks.put l key v) := by unfold Ks.putR; rw [h1, hpr]; rfl
  rw [e0] at hpu
  cases hg : Ks.get l key with
  | none =>
    have en : Ks.swapR k y l key o v = (0, 0, [], 110) := by unfold Ks.swapR; rw [h1, hpr, hg]; rfl
    have eg : Ks.getR k y l key = (Ks.e, 110) := by unfold Ks.getR; rw [h1, hpe, hg]; rfl
    rw [en]
    rw [eg] at hge
    refine Sp.enter (n := 46) Try.func24 rfl rfl rfl (Hp.refl w) ?_
    refine T.row0e 67 2 ?_
    repeat' (first
        | ((with_reducible refine is_build ?_); (first | refine ⟨_, Yl_build rfl (r_build3 _ _ _ _ _), ?_⟩ | refine ⟨_, Yl_build rfl (r_build2 _ _), ?_⟩ | refine ⟨_, Yl_build rfl r_build0, ?_⟩))
        | ((with_reducible refine ie_callf ?_); (first | ((with_reducible refine g_call 30 ?_); (first | refine Ef_callP rfl rfl ent_30 (fun w hp => hma w (hp.rd hr fun _ => List.not_mem_nil)) ?_)) | ((with_reducible refine g_call 40 ?_); (first | refine Ef_callP rfl rfl ent_40 (fun w _ => hky w) ?_)) | ((with_reducible refine g_call 41 ?_); (first | refine Ef_callP rfl rfl ent_41 (fun w _ => hva w) ?_))   | ((with_reducible refine g_call 27 ?_); (first | refine Ef_callP rfl rfl ent_27 (fun w hp => hge w (hp.rd hr fun _ => List.not_mem_nil)) ?_)) | ((with_reducible refine g_call 22 ?_); (first | (refine Ef_callN rfl rfl ent_22 (fun w hp => hpu w (hp.rd hr fun _ => List.not_mem_nil)) ?_; rintro ⟨A1, c1⟩)))))
        | ((with_reducible refine g_draw ?_); (first | (((refine' T.draw (id := 4) [(0, true), (1, true), (2, true), (3, true), (4, true), (5, true), (6, false), (7, false), (8, false), (9, false), (10, false)] [.blk b1 (.cells (sV k y (A, cap) len) 24 (0, 0))] mixd ?q1 ?q2 ?_); (case q1 => kernel_rfl); (case q2 => (repeat (first | exact List.nil_sublist _ | refine List.Sublist.cons_cons _ ?_ | refine List.Sublist.cons _ ?_)))))))
        | refine w1 ?_
        | (refine w2 ?_ ?_ <;> intro hc)
        | (first | refine ⟨_, Yl_neqA rfl rfl (eqg_of rfl) (eqQ_t _ _ hxy).run, ?_⟩ | refine ⟨_, Yl_neqA rfl rfl (eqg_of rfl) (eqQ_f _ _ hxy).run, ?_⟩)
        | (refine w4 ?_; (first | ((fail_if_success have := b1); intro b1) | intro _))
        | (refine w5 ?_; (first | ((fail_if_success have := A1); intro A1 c1) | intro _ _))
        | refine w3 ?_ ?_
        | fail_if_success skip)
    exact ret_n [rQ [] (none, 0)] (resC1 rfl rfl rfl (by (repeat (first | exact .head _ | apply List.Mem.tail))) (agg_of rfl)) (by (repeat (first | exact List.nil_sublist _ | refine List.Sublist.cons_cons _ ?_ | refine List.Sublist.cons _ ?_))) ⟨(none, 0), rfl, rfl⟩
  | some p =>
    have eg : Ks.getR k y l key = (p.2, 0) := by unfold Ks.getR; rw [h1, hpe, hg]; rfl
    rw [eg] at hge
    by_cases hvo : p.2 = o
    · have en : Ks.swapR k y l key o v = Ks.fitR k y (Ks.put l key v) := by unfold Ks.swapR; rw [h1, hpr, hg]; simp [hvo]
      rw [en]
      generalize Ks.fitR k y (Ks.put l key v) = u at hpu ⊢
      refine Sp.enter (n := 46) Try.func24 rfl rfl rfl (Hp.refl w) ?_
      repeat' (first
          | ((with_reducible refine is_build ?_); (first | refine ⟨_, Yl_build rfl (r_build3 _ _ _ _ _), ?_⟩ | refine ⟨_, Yl_build rfl (r_build2 _ _), ?_⟩ | refine ⟨_, Yl_build rfl r_build0, ?_⟩))
          | ((with_reducible refine ie_callf ?_); (first | ((with_reducible refine g_call 30 ?_); (first | refine Ef_callP rfl rfl ent_30 (fun w hp => hma w (hp.rd hr fun _ => List.not_mem_nil)) ?_)) | ((with_reducible refine g_call 40 ?_); (first | refine Ef_callP rfl rfl ent_40 (fun w _ => hky w) ?_)) | ((with_reducible refine g_call 41 ?_); (first | refine Ef_callP rfl rfl ent_41 (fun w _ => hva w) ?_))   | ((with_reducible refine g_call 27 ?_); (first | refine Ef_callP rfl rfl ent_27 (fun w hp => hge w (hp.rd hr fun _ => List.not_mem_nil)) ?_)) | ((with_reducible refine g_call 22 ?_); (first | (refine Ef_callN rfl rfl ent_22 (fun w hp => hpu w (hp.rd hr fun _ => List.not_mem_nil)) ?_; rintro ⟨A1, c1⟩)))))
          | ((with_reducible refine g_draw ?_); (first | (((refine' T.draw (id := 4) [(0, true), (1, true), (2, true), (3, true), (4, true), (5, true), (6, false), (7, false), (8, false), (9, false), (10, false)] [.blk b1 (.cells (sV k y (A, cap) len) 24 (0, 0))] mixd ?q1 ?q2 ?_); (case q1 => kernel_rfl); (case q2 => (repeat (first | exact List.nil_sublist _ | refine List.Sublist.cons_cons _ ?_ | refine List.Sublist.cons _ ?_)))))))
          | refine w1 ?_
          | (refine w2 ?_ ?_ <;> intro hc)
          | (first | refine ⟨_, Yl_neqA rfl rfl (eqg_of rfl) (eqQ_t _ _ hxy).run, ?_⟩ | refine ⟨_, Yl_neqA rfl rfl (eqg_of rfl) (eqQ_f _ _ hxy).run, ?_⟩)
          | (refine w4 ?_; (first | ((fail_if_success have := b1); intro b1) | intro _))
          | (refine w5 ?_; (first | ((fail_if_success have := A1); intro A1 c1) | intro _ _))
          | refine w3 ?_ ?_
          | fail_if_success skip)
      exact ret_n [rQ u.2.2.1 (A1, c1)] (resC1 rfl rfl rfl (by (repeat (first | exact .head _ | apply List.Mem.tail))) (agg_of rfl)) (by (repeat (first | exact List.nil_sublist _ | refine List.Sublist.cons_cons _ ?_ | refine List.Sublist.cons _ ?_))) ⟨(A1, c1), rfl, rfl⟩
    · have en : Ks.swapR k y l key o v = (0, 0, [], 111) := by unfold Ks.swapR; rw [h1, hpr, hg]; simp [hvo]
      rw [en]
      refine Sp.enter (n := 46) Try.func24 rfl rfl rfl (Hp.refl w) ?_
      refine T.row0e 67 2 ?_
      repeat' (first
          | ((with_reducible refine is_build ?_); (first | refine ⟨_, Yl_build rfl (r_build3 _ _ _ _ _), ?_⟩ | refine ⟨_, Yl_build rfl (r_build2 _ _), ?_⟩ | refine ⟨_, Yl_build rfl r_build0, ?_⟩))
          | ((with_reducible refine ie_callf ?_); (first | ((with_reducible refine g_call 30 ?_); (first | refine Ef_callP rfl rfl ent_30 (fun w hp => hma w (hp.rd hr fun _ => List.not_mem_nil)) ?_)) | ((with_reducible refine g_call 40 ?_); (first | refine Ef_callP rfl rfl ent_40 (fun w _ => hky w) ?_)) | ((with_reducible refine g_call 41 ?_); (first | refine Ef_callP rfl rfl ent_41 (fun w _ => hva w) ?_))   | ((with_reducible refine g_call 27 ?_); (first | refine Ef_callP rfl rfl ent_27 (fun w hp => hge w (hp.rd hr fun _ => List.not_mem_nil)) ?_)) | ((with_reducible refine g_call 22 ?_); (first | (refine Ef_callN rfl rfl ent_22 (fun w hp => hpu w (hp.rd hr fun _ => List.not_mem_nil)) ?_; rintro ⟨A1, c1⟩)))))
          | ((with_reducible refine g_draw ?_); (first | (((refine' T.draw (id := 4) [(0, true), (1, true), (2, true), (3, true), (4, true), (5, true), (6, false), (7, false), (8, false), (9, false), (10, false)] [.blk b1 (.cells (sV k y (A, cap) len) 24 (0, 0))] mixd ?q1 ?q2 ?_); (case q1 => kernel_rfl); (case q2 => (repeat (first | exact List.nil_sublist _ | refine List.Sublist.cons_cons _ ?_ | refine List.Sublist.cons _ ?_)))))))
          | refine w1 ?_
          | (refine w2 ?_ ?_ <;> intro hc)
          | (first | refine ⟨_, Yl_neqA rfl rfl (eqg_of rfl) (eqQ_t _ _ hxy).run, ?_⟩ | refine ⟨_, Yl_neqA rfl rfl (eqg_of rfl) (eqQ_f _ _ hxy).run, ?_⟩)
          | (refine w4 ?_; (first | ((fail_if_success have := b1); intro b1) | intro _))
          | (refine w5 ?_; (first | ((fail_if_success have := A1); intro A1 c1) | intro _ _))
          | refine w3 ?_ ?_
          | fail_if_success skip)
      exact ret_n [rQ [] (none, 0)] (resC1 rfl rfl rfl (by (repeat (first | exact .head _ | apply List.Mem.tail))) (agg_of rfl)) (by (repeat (first | exact List.nil_sublist _ | refine List.Sublist.cons_cons _ ?_ | refine List.Sublist.cons _ ?_))) ⟨(none, 0), rfl, rfl⟩

set_option maxHeartbeats 2000000 in
theorem rdel_c (k y : Int) (key : ByteArray) : Sp Try.prog 26 [.agg (sV k y (A, cap) len), .string key] w [] fun r N => ∃ z : Option Addr × Nat, r = .tuple #[.agg (sV (Ks.delR k y l key).1 (Ks.delR k y l key).2.1 z (Ks.delR k y l key).2.2.1.length), .int .i64 (Ks.delR k y l key).2.2.2] ∧ N = [rQ (Ks.delR k y l key).2.2.1 z] := by
  have hge := fun w h => rget_c A len cap l w h hl hle k y key
  cases h1 : (Ks.may k y l && Ks.pr (key, Ks.e)) with
  | false =>
    have en : Ks.delR k y l key = (0, 0, [], 2) := by unfold Ks.delR; rw [h1]; rfl
    have eg : Ks.getR k y l key = (Ks.e, 2) := by unfold Ks.getR; rw [h1]; rfl
    rw [en]
    rw [eg] at hge
    refine Sp.enter (n := 27) Try.func26 rfl rfl rfl (Hp.refl w) ?_
    refine T.row0e 67 2 ?_
    repeat' (first
        | ((with_reducible refine is_build ?_); (first | refine ⟨_, Yl_build rfl (r_build3 _ _ _ _ _), ?_⟩ | refine ⟨_, Yl_build rfl (r_build2 _ _), ?_⟩ | refine ⟨_, Yl_build rfl r_build0, ?_⟩))
        | ((with_reducible refine ie_callf ?_); (first    | ((with_reducible refine g_call 42 ?_); (first | (refine Ef_callN rfl rfl ent_42 (fun w hp => hwo w (hp.rd hr fun _ => List.not_mem_nil)) ?_; rintro ⟨A1, c1⟩)))  | ((with_reducible refine g_call 27 ?_); (first | refine Ef_callP rfl rfl ent_27 (fun w hp => hge w (hp.rd hr fun _ => List.not_mem_nil)) ?_))))
        | ((with_reducible refine g_draw ?_); (first | (((refine' T.draw (id := 4) [(0, true), (1, true), (2, true), (3, true), (4, true), (5, true), (6, false), (7, false), (8, false), (9, false), (10, false)] [.blk b1 (.cells (sV k y (A, cap) len) 24 (0, 0))] mixd ?q1 ?q2 ?_); (case q1 => kernel_rfl); (case q2 => (repeat (first | exact List.nil_sublist _ | refine List.Sublist.cons_cons _ ?_ | refine List.Sublist.cons _ ?_)))))))
        | refine w1 ?_
        | (refine w2 ?_ ?_ <;> intro hc)
        | (first | refine ⟨_, Yl_neqA rfl rfl (eqg_of rfl) (eqQ_t _ _ hxy).run, ?_⟩ | refine ⟨_, Yl_neqA rfl rfl (eqg_of rfl) (eqQ_f _ _ hxy).run, ?_⟩)
        | (refine w4 ?_; (first | ((fail_if_success have := b1); intro b1) | intro _))
        | (refine w5 ?_; (first | ((fail_if_success have := A1); intro A1 c1) | intro _ _))
        | refine w3 ?_ ?_
        | fail_if_success skip)
    exact ret_n [rQ [] (none, 0)] (resC1 rfl rfl rfl (by (repeat (first | exact .head _ | apply List.Mem.tail))) (agg_of rfl)) (by (repeat (first | exact List.nil_sublist _ | refine List.Sublist.cons_cons _ ?_ | refine List.Sublist.cons _ ?_))) ⟨(none, 0), rfl, rfl⟩
  | true =>
    cases hg : Ks.get l key with
    | none =>
      have en : Ks.delR k y l key = (0, 0, [], 110) := by unfold Ks.delR; rw [h1, hg]; rfl
      have eg : Ks.getR k y l key = (Ks.e, 110) := by unfold Ks.getR; rw [h1, hg]; rfl
      rw [en]
      rw [eg] at hge
      refine Sp.enter (n := 27) Try.func26 rfl rfl rfl (Hp.refl w) ?_
      refine T.row0e 67 2 ?_
      repeat' (first
          | ((with_reducible refine is_build ?_); (first | refine ⟨_, Yl_build rfl (r_build3 _ _ _ _ _), ?_⟩ | refine ⟨_, Yl_build rfl (r_build2 _ _), ?_⟩ | refine ⟨_, Yl_build rfl r_build0, ?_⟩))
          | ((with_reducible refine ie_callf ?_); (first    | ((with_reducible refine g_call 42 ?_); (first | (refine Ef_callN rfl rfl ent_42 (fun w hp => hwo w (hp.rd hr fun _ => List.not_mem_nil)) ?_; rintro ⟨A1, c1⟩)))  | ((with_reducible refine g_call 27 ?_); (first | refine Ef_callP rfl rfl ent_27 (fun w hp => hge w (hp.rd hr fun _ => List.not_mem_nil)) ?_))))
          | ((with_reducible refine g_draw ?_); (first | (((refine' T.draw (id := 4) [(0, true), (1, true), (2, true), (3, true), (4, true), (5, true), (6, false), (7, false), (8, false), (9, false), (10, false)] [.blk b1 (.cells (sV k y (A, cap) len) 24 (0, 0))] mixd ?q1 ?q2 ?_); (case q1 => kernel_rfl); (case q2 => (repeat (first | exact List.nil_sublist _ | refine List.Sublist.cons_cons _ ?_ | refine List.Sublist.cons _ ?_)))))))
          | refine w1 ?_
          | (refine w2 ?_ ?_ <;> intro hc)
          | (first | refine ⟨_, Yl_neqA rfl rfl (eqg_of rfl) (eqQ_t _ _ hxy).run, ?_⟩ | refine ⟨_, Yl_neqA rfl rfl (eqg_of rfl) (eqQ_f _ _ hxy).run, ?_⟩)
          | (refine w4 ?_; (first | ((fail_if_success have := b1); intro b1) | intro _))
          | (refine w5 ?_; (first | ((fail_if_success have := A1); intro A1 c1) | intro _ _))
          | refine w3 ?_ ?_
          | fail_if_success skip)
      exact ret_n [rQ [] (none, 0)] (resC1 rfl rfl rfl (by (repeat (first | exact .head _ | apply List.Mem.tail))) (agg_of rfl)) (by (repeat (first | exact List.nil_sublist _ | refine List.Sublist.cons_cons _ ?_ | refine List.Sublist.cons _ ?_))) ⟨(none, 0), rfl, rfl⟩
    | some p =>
      have en : Ks.delR k y l key = (k, y, Ks.rest l key, 0) := by unfold Ks.delR; rw [h1, hg]; rfl
      have eg : Ks.getR k y l key = (p.2, 0) := by unfold Ks.getR; rw [h1, hg]; rfl
      rw [en]
      rw [eg] at hge
      rw [Bool.and_eq_true] at h1
      have hwo := fun w h => without_c A len cap l w h hl hle key ((Ks.may_iff _ _ _).1 h1.1).so
      refine Sp.enter (n := 27) Try.func26 rfl rfl rfl (Hp.refl w) ?_
      repeat' (first
          | ((with_reducible refine is_build ?_); (first | refine ⟨_, Yl_build rfl (r_build3 _ _ _ _ _), ?_⟩ | refine ⟨_, Yl_build rfl (r_build2 _ _), ?_⟩ | refine ⟨_, Yl_build rfl r_build0, ?_⟩))
          | ((with_reducible refine ie_callf ?_); (first    | ((with_reducible refine g_call 42 ?_); (first | (refine Ef_callN rfl rfl ent_42 (fun w hp => hwo w (hp.rd hr fun _ => List.not_mem_nil)) ?_; rintro ⟨A1, c1⟩)))  | ((with_reducible refine g_call 27 ?_); (first | refine Ef_callP rfl rfl ent_27 (fun w hp => hge w (hp.rd hr fun _ => List.not_mem_nil)) ?_))))
          | ((with_reducible refine g_draw ?_); (first | (((refine' T.draw (id := 4) [(0, true), (1, true), (2, true), (3, true), (4, true), (5, true), (6, false), (7, false), (8, false), (9, false), (10, false)] [.blk b1 (.cells (sV k y (A, cap) len) 24 (0, 0))] mixd ?q1 ?q2 ?_); (case q1 => kernel_rfl); (case q2 => (repeat (first | exact List.nil_sublist _ | refine List.Sublist.cons_cons _ ?_ | refine List.Sublist.cons _ ?_)))))))
          | refine w1 ?_
          | (refine w2 ?_ ?_ <;> intro hc)
          | (first | refine ⟨_, Yl_neqA rfl rfl (eqg_of rfl) (eqQ_t _ _ hxy).run, ?_⟩ | refine ⟨_, Yl_neqA rfl rfl (eqg_of rfl) (eqQ_f _ _ hxy).run, ?_⟩)
          | (refine w4 ?_; (first | ((fail_if_success have := b1); intro b1) | intro _))
          | (refine w5 ?_; (first | ((fail_if_success have := A1); intro A1 c1) | intro _ _))
          | refine w3 ?_ ?_
          | fail_if_success skip)
      exact ret_n [rQ (Ks.rest l key) (A1, c1)] (resC1 rfl rfl rfl (by (repeat (first | exact .head _ | apply List.Mem.tail))) (agg_of rfl)) (by (repeat (first | exact List.nil_sublist _ | refine List.Sublist.cons_cons _ ?_ | refine List.Sublist.cons _ ?_))) ⟨(A1, c1), rfl, rfl⟩

set_option maxHeartbeats 2000000 in
theorem rlist_c (k y : Int) (f : ByteArray) (n : Int) : Sp Try.prog 29 [.agg (sV k y (A, cap) len), .string f, .int .i64 n] w [] fun r N => ∃ z : Option Addr × Nat, r = .slice z.1 (Ks.listR k y l f n).length z.2 ∧ N = [rK (Ks.listR k y l f n) z] := by
  cases h1 : Ks.may k y l with
  | false =>
    have en : Ks.listR k y l f n = [] := by unfold Ks.listR; rw [h1]; rfl
    rw [en]
    have hma := fun w h => rmay_v A len cap l w h hl (by omega) k y false h1
    refine Sp.enter (n := 44) Try.func29 rfl rfl rfl (Hp.refl w) ?_
    refine T.row0e 9 1 ?_
    repeat' (first
        | ((with_reducible refine ie_callf ?_); (first | ((with_reducible refine g_call 30 ?_); (first | refine Ef_callP rfl rfl ent_30 (fun w hp => hma w (hp.rd hr fun _ => List.not_mem_nil)) ?_))))
        | ((with_reducible refine g_draw ?_); (first | (((refine' T.draw (id := 4) [(0, true), (1, true), (2, true), (3, true), (4, true), (5, true), (6, false), (7, false), (8, false), (9, false), (10, false)] [.blk b1 (.cells (sV k y (A, cap) len) 24 (0, 0))] mixd ?q1 ?q2 ?_); (case q1 => kernel_rfl); (case q2 => (repeat (first | exact List.nil_sublist _ | refine List.Sublist.cons_cons _ ?_ | refine List.Sublist.cons _ ?_)))))))
        | refine w1 ?_
        | (refine w2 ?_ ?_ <;> intro hc)
        | (first | refine ⟨_, Yl_neqA rfl rfl (eqg_of rfl) (eqQ_t _ _ hxy).run, ?_⟩ | refine ⟨_, Yl_neqA rfl rfl (eqg_of rfl) (eqQ_f _ _ hxy).run, ?_⟩)
        | (refine w4 ?_; (first | ((fail_if_success have := b1); intro b1) | intro _))
        | (refine w5 ?_; (first | ((fail_if_success have := A1); intro A1 c1) | ((fail_if_success have := A2); intro A2 c2) | intro _ _))
        | refine w3 ?_ ?_
        | fail_if_success skip)
    refine T.loop (α := Nat) (fun _ => [(3, .pointer (some ⟨b1, 0, none⟩)), (7, .slice none 0 0), (8, .int .i64 0)]) (fun _ => [.blk b1 (.cells (sV k y (A, cap) len) 24 (0, 0)), .row 9 1 (.slice none 0 0) 0 []]) (fun _ => True) (fun x => x) 0 ?_ ?_ ?_ ?_
    · (repeat (first | exact Sub.nil | refine Sub.cons rfl ?_))
    · (repeat (first | exact List.nil_sublist _ | refine List.Sublist.cons_cons _ ?_ | refine List.Sublist.cons _ ?_))
    · trivial
    · rintro x _
      by_cases h0 : 0 < len
      all_goals
        repeat' (first
            | ((with_reducible refine ie_callf ?_); (first | ((with_reducible refine g_call 30 ?_); (first | refine Ef_callP rfl rfl ent_30 (fun w hp => hma w (hp.rd hr fun _ => List.not_mem_nil)) ?_))))
            | ((with_reducible refine g_draw ?_); (first | (((refine' T.draw (id := 4) [(0, true), (1, true), (2, true), (3, true), (4, true), (5, true), (6, false), (7, false), (8, false), (9, false), (10, false)] [.blk b1 (.cells (sV k y (A, cap) len) 24 (0, 0))] mixd ?q1 ?q2 ?_); (case q1 => kernel_rfl); (case q2 => (repeat (first | exact List.nil_sublist _ | refine List.Sublist.cons_cons _ ?_ | refine List.Sublist.cons _ ?_)))))))
            | refine w1 ?_
            | (refine w2 ?_ ?_ <;> intro hc)
            | (first | refine ⟨_, Yl_neqA rfl rfl (eqg_of rfl) (eqQ_t _ _ hxy).run, ?_⟩ | refine ⟨_, Yl_neqA rfl rfl (eqg_of rfl) (eqQ_f _ _ hxy).run, ?_⟩)
            | (refine w4 ?_; (first | ((fail_if_success have := b1); intro b1) | intro _))
            | (refine w5 ?_; (first | ((fail_if_success have := A1); intro A1 c1) | ((fail_if_success have := A2); intro A2 c2) | intro _ _))
            | refine w3 ?_ ?_
            | fail_if_success skip)
        exact ret_n [rK [] (none, 0)] (res1 rfl rfl) (by (repeat (first | exact List.nil_sublist _ | refine List.Sublist.cons_cons _ ?_ | refine List.Sublist.cons _ ?_))) ⟨(none, 0), rfl, rfl⟩
  | true =>
    have hma := fun w h => rmay_v A len cap l w h hl (by omega) k y true h1
    have en : Ks.listR k y l f n = ((l.filter fun p => !Ks.lt p.1 f).map (·.1)).take n.toNat := by unfold Ks.listR Ks.ge; rw [h1]; rfl
    rw [en]
    obtain ⟨g, hg⟩ : ∃ g : Nat → List ByteArray, ∀ i, g i = (((l.take i).filter fun p => !Ks.lt p.1 f).map (·.1)).take n.toNat := ⟨_, fun _ => rfl⟩
    have hgl : ∀ i, (g i).length ≤ i := fun i => by
      rw [hg, List.length_take, List.length_map]
      have := List.length_filter_le (fun p : Pr => !Ks.lt p.1 f) (l.take i)
      rw [List.length_take] at this
      omega
    have hge : ((l.filter fun p => !Ks.lt p.1 f).map (·.1)).take n.toNat = g len := by rw [hg, show l.take len = l from List.take_of_length_le (by omega)]
    obtain ⟨q, hq⟩ : ∃ q : Nat → List ByteArray, ∀ i, q i = ((l.take i).filter fun p => !Ks.lt p.1 f).map (·.1) := ⟨_, fun _ => rfl⟩
    have hgq : ∀ i, g i = (q i).take n.toNat := fun i => by rw [hg, hq]
    have hs0 : ∀ i x, l[i]? = some x → Ks.lt x.1 f = true → g (i + 1) = g i := fun i x hx h => by
      rw [hg, hg, take_snoc hx, List.filter_append]
      simp [h]
    have hq1 : ∀ i x, l[i]? = some x → Ks.lt x.1 f = false → q (i + 1) = q i ++ [x.1] := fun i x hx h => by
      rw [hq, hq, take_snoc hx, List.filter_append]
      simp [h]
    have hs1 : ∀ i x, l[i]? = some x → Ks.lt x.1 f = false → ¬ ((g i).length : Int) < n → g (i + 1) = g i := fun i x hx h hn => by
      rw [hgq, List.length_take] at hn
      rw [hgq, hgq, hq1 i x hx h, List.take_append_of_le_length (by omega)]
    have hs2 : ∀ i x, l[i]? = some x → Ks.lt x.1 f = false → ((g i).length : Int) < n → g (i + 1) = g i ++ [x.1] := fun i x hx h hn => by
      rw [hgq, List.length_take] at hn
      rw [hgq, hgq, hq1 i x hx h, List.take_of_length_le (l := q i) (by omega), List.take_of_length_le (by rw [List.length_append, List.length_singleton]; omega)]
    have hg0 : g 0 = [] := by rw [hg]; simp
    rw [hge]
    refine Sp.enter (n := 44) Try.func29 rfl rfl rfl (Hp.refl w) ?_
    refine T.row0e 9 1 ?_
    repeat' (first
        | ((with_reducible refine ie_callf ?_); (first | ((with_reducible refine g_call 30 ?_); (first | refine Ef_callP rfl rfl ent_30 (fun w hp => hma w (hp.rd hr fun _ => List.not_mem_nil)) ?_))))
        | ((with_reducible refine g_draw ?_); (first | (((refine' T.draw (id := 4) [(0, true), (1, true), (2, true), (3, true), (4, true), (5, true), (6, false), (7, false), (8, false), (9, false), (10, false)] [.blk b1 (.cells (sV k y (A, cap) len) 24 (0, 0))] mixd ?q1 ?q2 ?_); (case q1 => kernel_rfl); (case q2 => (repeat (first | exact List.nil_sublist _ | refine List.Sublist.cons_cons _ ?_ | refine List.Sublist.cons _ ?_)))))))
        | refine w1 ?_
        | (refine w2 ?_ ?_ <;> intro hc)
        | (first | refine ⟨_, Yl_neqA rfl rfl (eqg_of rfl) (eqQ_t _ _ hxy).run, ?_⟩ | refine ⟨_, Yl_neqA rfl rfl (eqg_of rfl) (eqQ_f _ _ hxy).run, ?_⟩)
        | (refine w4 ?_; (first | ((fail_if_success have := b1); intro b1) | intro _))
        | (refine w5 ?_; (first | ((fail_if_success have := A1); intro A1 c1) | ((fail_if_success have := A2); intro A2 c2) | intro _ _))
        | refine w3 ?_ ?_
        | fail_if_success skip)
    refine T.loop (α := Nat × Option Addr × Nat) (fun z => [(1, .string f), (2, .int .i64 n), (3, .pointer (some ⟨b1, 0, none⟩)), (7, .slice z.2.1 (g z.1).length z.2.2), (8, .int .i64 (z.1 : Int))]) (fun z => [.blk b1 (.cells (sV k y (A, cap) len) 24 (0, 0)), .row 9 1 (.slice z.2.1 (g z.1).length z.2.2) (g z.1).length ((g z.1).flatMap kE)]) (fun z => z.1 ≤ len) (fun z => len - z.1) (0, none, 0) ?_ ?_ ?_ ?_
    · rw [hg0]; (repeat (first | exact Sub.nil | refine Sub.cons rfl ?_))
    · rw [hg0]; (repeat (first | exact List.nil_sublist _ | refine List.Sublist.cons_cons _ ?_ | refine List.Sublist.cons _ ?_))
    · exact Nat.zero_le _
    · rintro ⟨i, A1, c1⟩ hi
      dsimp only at hi ⊢
      have hgi := hgl i
      have oL := one_flat kE_one (g i)
      by_cases hlt : i < len
      · obtain ⟨x, hx⟩ := some_of_lt (l := l) (i := i) (by omega)
        have e0 := enc_at pE_len hx (j := 0) (by decide)
        have oX := kE_one x.1
        cases hxf : Ks.lt x.1 f with
        | true =>
          have e1 := hs0 i x hx hxf
          repeat' (first
              | ((with_reducible refine ie_callf ?_); (first | ((with_reducible refine g_call 30 ?_); (first | refine Ef_callP rfl rfl ent_30 (fun w hp => hma w (hp.rd hr fun _ => List.not_mem_nil)) ?_))))
              | ((with_reducible refine g_draw ?_); (first | (((refine' T.draw (id := 4) [(0, true), (1, true), (2, true), (3, true), (4, true), (5, true), (6, false), (7, false), (8, false), (9, false), (10, false)] [.blk b1 (.cells (sV k y (A, cap) len) 24 (0, 0))] mixd ?q1 ?q2 ?_); (case q1 => kernel_rfl); (case q2 => (repeat (first | exact List.nil_sublist _ | refine List.Sublist.cons_cons _ ?_ | refine List.Sublist.cons _ ?_)))))))
              | refine w1 ?_
              | (refine w2 ?_ ?_ <;> intro hc)
              | (first | refine ⟨_, Yl_neqA rfl rfl (eqg_of rfl) (eqQ_t _ _ hxy).run, ?_⟩ | refine ⟨_, Yl_neqA rfl rfl (eqg_of rfl) (eqQ_f _ _ hxy).run, ?_⟩)
              | (refine w4 ?_; (first | ((fail_if_success have := b1); intro b1) | intro _))
              | (refine w5 ?_; (first | ((fail_if_success have := A1); intro A1 c1) | ((fail_if_success have := A2); intro A2 c2) | intro _ _))
              | refine w3 ?_ ?_
              | fail_if_success skip)
          refine loopQ_n (i + 1, A1, c1) ?_ ?_ (show i + 1 ≤ len by omega) (show len - (i + 1) < len - i by omega)
          · rw [e1]; (repeat (first | exact Sub.nil | refine Sub.cons rfl ?_))
          · rw [e1]; (repeat (first | exact List.nil_sublist _ | refine List.Sublist.cons_cons _ ?_ | refine List.Sublist.cons _ ?_))
        | false =>
          by_cases hn : ((g i).length : Int) < n
          · have e1 := hs2 i x hx hxf hn
            have hcut : (g i).length ≤ 300 := by omega
            repeat' (first
                | ((with_reducible refine ie_callf ?_); (first | ((with_reducible refine g_call 30 ?_); (first | refine Ef_callP rfl rfl ent_30 (fun w hp => hma w (hp.rd hr fun _ => List.not_mem_nil)) ?_))))
                | ((with_reducible refine g_draw ?_); (first | (((refine' T.draw (id := 4) [(0, true), (1, true), (2, true), (3, true), (4, true), (5, true), (6, false), (7, false), (8, false), (9, false), (10, false)] [.blk b1 (.cells (sV k y (A, cap) len) 24 (0, 0))] mixd ?q1 ?q2 ?_); (case q1 => kernel_rfl); (case q2 => (repeat (first | exact List.nil_sublist _ | refine List.Sublist.cons_cons _ ?_ | refine List.Sublist.cons _ ?_)))))))
                | refine w1 ?_
                | (refine w2 ?_ ?_ <;> intro hc)
                | (first | refine ⟨_, Yl_neqA rfl rfl (eqg_of rfl) (eqQ_t _ _ hxy).run, ?_⟩ | refine ⟨_, Yl_neqA rfl rfl (eqg_of rfl) (eqQ_f _ _ hxy).run, ?_⟩)
                | (refine w4 ?_; (first | ((fail_if_success have := b1); intro b1) | intro _))
                | (refine w5 ?_; (first | ((fail_if_success have := A1); intro A1 c1) | ((fail_if_success have := A2); intro A2 c2) | intro _ _))
                | refine w3 ?_ ?_
                | fail_if_success skip)
            refine loopQ_n (i + 1, A2, c2) ?_ ?_ (show i + 1 ≤ len by omega) (show len - (i + 1) < len - i by omega)
            · rw [e1, List.length_append]; (repeat (first | exact Sub.nil | refine Sub.cons rfl ?_))
            · rw [e1, List.length_append, kE_snoc]; (repeat (first | exact List.nil_sublist _ | refine List.Sublist.cons_cons _ ?_ | refine List.Sublist.cons _ ?_))
          · have e1 := hs1 i x hx hxf hn
            repeat' (first
                | ((with_reducible refine ie_callf ?_); (first | ((with_reducible refine g_call 30 ?_); (first | refine Ef_callP rfl rfl ent_30 (fun w hp => hma w (hp.rd hr fun _ => List.not_mem_nil)) ?_))))
                | ((with_reducible refine g_draw ?_); (first | (((refine' T.draw (id := 4) [(0, true), (1, true), (2, true), (3, true), (4, true), (5, true), (6, false), (7, false), (8, false), (9, false), (10, false)] [.blk b1 (.cells (sV k y (A, cap) len) 24 (0, 0))] mixd ?q1 ?q2 ?_); (case q1 => kernel_rfl); (case q2 => (repeat (first | exact List.nil_sublist _ | refine List.Sublist.cons_cons _ ?_ | refine List.Sublist.cons _ ?_)))))))
                | refine w1 ?_
                | (refine w2 ?_ ?_ <;> intro hc)
                | (first | refine ⟨_, Yl_neqA rfl rfl (eqg_of rfl) (eqQ_t _ _ hxy).run, ?_⟩ | refine ⟨_, Yl_neqA rfl rfl (eqg_of rfl) (eqQ_f _ _ hxy).run, ?_⟩)
                | (refine w4 ?_; (first | ((fail_if_success have := b1); intro b1) | intro _))
                | (refine w5 ?_; (first | ((fail_if_success have := A1); intro A1 c1) | ((fail_if_success have := A2); intro A2 c2) | intro _ _))
                | refine w3 ?_ ?_
                | fail_if_success skip)
            refine loopQ_n (i + 1, A1, c1) ?_ ?_ (show i + 1 ≤ len by omega) (show len - (i + 1) < len - i by omega)
            · rw [e1]; (repeat (first | exact Sub.nil | refine Sub.cons rfl ?_))
            · rw [e1]; (repeat (first | exact List.nil_sublist _ | refine List.Sublist.cons_cons _ ?_ | refine List.Sublist.cons _ ?_))
      · obtain rfl : i = len := by omega
        repeat' (first
            | ((with_reducible refine ie_callf ?_); (first | ((with_reducible refine g_call 30 ?_); (first | refine Ef_callP rfl rfl ent_30 (fun w hp => hma w (hp.rd hr fun _ => List.not_mem_nil)) ?_))))
            | ((with_reducible refine g_draw ?_); (first | (((refine' T.draw (id := 4) [(0, true), (1, true), (2, true), (3, true), (4, true), (5, true), (6, false), (7, false), (8, false), (9, false), (10, false)] [.blk b1 (.cells (sV k y (A, cap) len) 24 (0, 0))] mixd ?q1 ?q2 ?_); (case q1 => kernel_rfl); (case q2 => (repeat (first | exact List.nil_sublist _ | refine List.Sublist.cons_cons _ ?_ | refine List.Sublist.cons _ ?_)))))))
            | refine w1 ?_
            | (refine w2 ?_ ?_ <;> intro hc)
            | (first | refine ⟨_, Yl_neqA rfl rfl (eqg_of rfl) (eqQ_t _ _ hxy).run, ?_⟩ | refine ⟨_, Yl_neqA rfl rfl (eqg_of rfl) (eqQ_f _ _ hxy).run, ?_⟩)
            | (refine w4 ?_; (first | ((fail_if_success have := b1); intro b1) | intro _))
            | (refine w5 ?_; (first | ((fail_if_success have := A1); intro A1 c1) | ((fail_if_success have := A2); intro A2 c2) | intro _ _))
            | refine w3 ?_ ?_
            | fail_if_success skip)
        exact ret_n [rK (g i) (A1, c1)] (res1 rfl rfl) (by (repeat (first | exact List.nil_sublist _ | refine List.Sublist.cons_cons _ ?_ | refine List.Sublist.cons _ ?_))) ⟨(A1, c1), rfl, rfl⟩

theorem rresize_c (k y k' y' : Int) (u : Int × Int × List Pr × Int) (hu : Ks.resR k y l k' y' = u) : Sp Try.prog 17 [.agg (sV k y (A, cap) len), .int .i64 k', .int .i64 y'] w [] fun r N => r = .tuple #[.agg (sV u.1 u.2.1 (if u.2.2.2 = 0 then (A, cap) else (none, 0)) u.2.2.1.length), .int .i64 u.2.2.2] ∧ N = [] := by
  unfold Ks.resR at hu
  cases h1 : Ks.may k y l with
  | false =>
    rw [h1] at hu
    obtain rfl : (0, 0, [], 2) = u := hu
    have hma := fun w h => rmay_v A len cap l w h hl (by omega) k y false h1
    refine Sp.enter (n := 36) Try.func17 rfl rfl rfl (Hp.refl w) ?_
    repeat' (first
        | ((with_reducible refine is_build ?_); (first | refine ⟨_, Yl_build rfl (r_build3 _ _ _ _ _), ?_⟩ | refine ⟨_, Yl_build rfl (r_build2 _ _), ?_⟩ | refine ⟨_, Yl_build rfl r_build0, ?_⟩))
        | ((with_reducible refine ie_callf ?_); (first | ((with_reducible refine g_call 30 ?_); (first | refine Ef_callP rfl rfl ent_30 (fun w hp => hma w (hp.rd hr fun _ => List.not_mem_nil)) ?_))    | ((with_reducible refine g_call 31 ?_); (first | refine Ef_callP rfl rfl ent_31 (fun w hp => hcn w (hp.rd hr fun _ => List.not_mem_nil)) ?_))   | ((with_reducible refine g_call 20 ?_); (first | refine Ef_callP rfl rfl ent_20 (fun w _ => hli w) ?_))))
        | ((with_reducible refine g_draw ?_); (first | (((refine' T.draw (id := 4) [(0, true), (1, true), (2, true), (3, true), (4, true), (5, true), (6, false), (7, false), (8, false), (9, false), (10, false)] [.blk b1 (.cells (sV k y (A, cap) len) 24 (0, 0))] mixd ?q1 ?q2 ?_); (case q1 => kernel_rfl); (case q2 => (repeat (first | exact List.nil_sublist _ | refine List.Sublist.cons_cons _ ?_ | refine List.Sublist.cons _ ?_)))))))
        | refine w1 ?_
        | (refine w2 ?_ ?_ <;> intro hc)
        | (first | refine ⟨_, Yl_neqA rfl rfl (eqg_of rfl) (eqQ_t _ _ hxy).run, ?_⟩ | refine ⟨_, Yl_neqA rfl rfl (eqg_of rfl) (eqQ_f _ _ hxy).run, ?_⟩)
        | (refine w4 ?_; (first | ((fail_if_success have := b1); intro b1) | intro _))
        | (refine w5 ?_; (intro _ _))
        | refine w3 ?_ ?_
        | fail_if_success skip)
    exact ret_n [] (resC1 rfl rfl rfl (by (repeat (first | exact .head _ | apply List.Mem.tail))) (agg_of rfl)) (List.nil_sublist _) ⟨rfl, rfl⟩
  | true =>
    have hma := fun w h => rmay_v A len cap l w h hl (by omega) k y true h1
    cases h2 : Ks.lim k' y' with
    | false =>
      rw [h1, h2] at hu
      obtain rfl : (0, 0, [], 2) = u := hu
      have hli := fun w => rlim_v k' y' false w h2
      refine Sp.enter (n := 36) Try.func17 rfl rfl rfl (Hp.refl w) ?_
      repeat' (first
          | ((with_reducible refine is_build ?_); (first | refine ⟨_, Yl_build rfl (r_build3 _ _ _ _ _), ?_⟩ | refine ⟨_, Yl_build rfl (r_build2 _ _), ?_⟩ | refine ⟨_, Yl_build rfl r_build0, ?_⟩))
          | ((with_reducible refine ie_callf ?_); (first | ((with_reducible refine g_call 30 ?_); (first | refine Ef_callP rfl rfl ent_30 (fun w hp => hma w (hp.rd hr fun _ => List.not_mem_nil)) ?_))    | ((with_reducible refine g_call 31 ?_); (first | refine Ef_callP rfl rfl ent_31 (fun w hp => hcn w (hp.rd hr fun _ => List.not_mem_nil)) ?_))   | ((with_reducible refine g_call 20 ?_); (first | refine Ef_callP rfl rfl ent_20 (fun w _ => hli w) ?_))))
          | ((with_reducible refine g_draw ?_); (first | (((refine' T.draw (id := 4) [(0, true), (1, true), (2, true), (3, true), (4, true), (5, true), (6, false), (7, false), (8, false), (9, false), (10, false)] [.blk b1 (.cells (sV k y (A, cap) len) 24 (0, 0))] mixd ?q1 ?q2 ?_); (case q1 => kernel_rfl); (case q2 => (repeat (first | exact List.nil_sublist _ | refine List.Sublist.cons_cons _ ?_ | refine List.Sublist.cons _ ?_)))))))
          | refine w1 ?_
          | (refine w2 ?_ ?_ <;> intro hc)
          | (first | refine ⟨_, Yl_neqA rfl rfl (eqg_of rfl) (eqQ_t _ _ hxy).run, ?_⟩ | refine ⟨_, Yl_neqA rfl rfl (eqg_of rfl) (eqQ_f _ _ hxy).run, ?_⟩)
          | (refine w4 ?_; (first | ((fail_if_success have := b1); intro b1) | intro _))
          | (refine w5 ?_; (intro _ _))
          | refine w3 ?_ ?_
          | fail_if_success skip)
      exact ret_n [] (resC1 rfl rfl rfl (by (repeat (first | exact .head _ | apply List.Mem.tail))) (agg_of rfl)) (List.nil_sublist _) ⟨rfl, rfl⟩
    | true =>
      have hli := fun w => rlim_v k' y' true w h2
      have hcb := Ks.cnt_pr ((Ks.may_iff _ _ _).1 h1).pr
      have hcn := fun w h => rcount_c A len cap l w h hl (by omega) (by omega)
      rw [h1, h2] at hu
      have hu2 : Ks.fitR k' y' l = u := hu
      clear hu
      have hfit : ∀ a b, decide ((len : Int) ≤ k') = a → decide ((Ks.cnt l : Int) ≤ y') = b → (if (a && b) = true then (k', y', l, 0) else (0, 0, [], 120)) = u := fun a b ha hb => by
        subst ha hb
        rw [← hl]
        exact hu2
      by_cases hk : (len : Int) ≤ k'
      · by_cases hc : (Ks.cnt l : Int) ≤ y'
        · obtain rfl := hfit _ _ (decide_eq_true hk) (decide_eq_true hc)
          refine Sp.enter (n := 36) Try.func17 rfl rfl rfl (Hp.refl w) ?_
          repeat' (first
              | ((with_reducible refine is_build ?_); (first | refine ⟨_, Yl_build rfl (r_build3 _ _ _ _ _), ?_⟩ | refine ⟨_, Yl_build rfl (r_build2 _ _), ?_⟩ | refine ⟨_, Yl_build rfl r_build0, ?_⟩))
              | ((with_reducible refine ie_callf ?_); (first | ((with_reducible refine g_call 30 ?_); (first | refine Ef_callP rfl rfl ent_30 (fun w hp => hma w (hp.rd hr fun _ => List.not_mem_nil)) ?_))    | ((with_reducible refine g_call 31 ?_); (first | refine Ef_callP rfl rfl ent_31 (fun w hp => hcn w (hp.rd hr fun _ => List.not_mem_nil)) ?_))   | ((with_reducible refine g_call 20 ?_); (first | refine Ef_callP rfl rfl ent_20 (fun w _ => hli w) ?_))))
              | ((with_reducible refine g_draw ?_); (first | (((refine' T.draw (id := 4) [(0, true), (1, true), (2, true), (3, true), (4, true), (5, true), (6, false), (7, false), (8, false), (9, false), (10, false)] [.blk b1 (.cells (sV k y (A, cap) len) 24 (0, 0))] mixd ?q1 ?q2 ?_); (case q1 => kernel_rfl); (case q2 => (repeat (first | exact List.nil_sublist _ | refine List.Sublist.cons_cons _ ?_ | refine List.Sublist.cons _ ?_)))))))
              | refine w1 ?_
              | (refine w2 ?_ ?_ <;> intro hc)
              | (first | refine ⟨_, Yl_neqA rfl rfl (eqg_of rfl) (eqQ_t _ _ hxy).run, ?_⟩ | refine ⟨_, Yl_neqA rfl rfl (eqg_of rfl) (eqQ_f _ _ hxy).run, ?_⟩)
              | (refine w4 ?_; (first | ((fail_if_success have := b1); intro b1) | intro _))
              | (refine w5 ?_; (intro _ _))
              | refine w3 ?_ ?_
              | fail_if_success skip)
          exact ret_n [] (resC1 rfl rfl rfl (by (repeat (first | exact .head _ | apply List.Mem.tail))) (agg_of rfl)) (List.nil_sublist _) ⟨by simp only [Bool.and_self, if_true, hl], rfl⟩
        · obtain rfl := hfit _ _ (decide_eq_true hk) (decide_eq_false hc)
          refine Sp.enter (n := 36) Try.func17 rfl rfl rfl (Hp.refl w) ?_
          repeat' (first
              | ((with_reducible refine is_build ?_); (first | refine ⟨_, Yl_build rfl (r_build3 _ _ _ _ _), ?_⟩ | refine ⟨_, Yl_build rfl (r_build2 _ _), ?_⟩ | refine ⟨_, Yl_build rfl r_build0, ?_⟩))
              | ((with_reducible refine ie_callf ?_); (first | ((with_reducible refine g_call 30 ?_); (first | refine Ef_callP rfl rfl ent_30 (fun w hp => hma w (hp.rd hr fun _ => List.not_mem_nil)) ?_))    | ((with_reducible refine g_call 31 ?_); (first | refine Ef_callP rfl rfl ent_31 (fun w hp => hcn w (hp.rd hr fun _ => List.not_mem_nil)) ?_))   | ((with_reducible refine g_call 20 ?_); (first | refine Ef_callP rfl rfl ent_20 (fun w _ => hli w) ?_))))
              | ((with_reducible refine g_draw ?_); (first | (((refine' T.draw (id := 4) [(0, true), (1, true), (2, true), (3, true), (4, true), (5, true), (6, false), (7, false), (8, false), (9, false), (10, false)] [.blk b1 (.cells (sV k y (A, cap) len) 24 (0, 0))] mixd ?q1 ?q2 ?_); (case q1 => kernel_rfl); (case q2 => (repeat (first | exact List.nil_sublist _ | refine List.Sublist.cons_cons _ ?_ | refine List.Sublist.cons _ ?_)))))))
              | refine w1 ?_
              | (refine w2 ?_ ?_ <;> intro hc)
              | (first | refine ⟨_, Yl_neqA rfl rfl (eqg_of rfl) (eqQ_t _ _ hxy).run, ?_⟩ | refine ⟨_, Yl_neqA rfl rfl (eqg_of rfl) (eqQ_f _ _ hxy).run, ?_⟩)
              | (refine w4 ?_; (first | ((fail_if_success have := b1); intro b1) | intro _))
              | (refine w5 ?_; (intro _ _))
              | refine w3 ?_ ?_
              | fail_if_success skip)
          exact ret_n [] (resC1 rfl rfl rfl (by (repeat (first | exact .head _ | apply List.Mem.tail))) (agg_of rfl)) (List.nil_sublist _) ⟨rfl, rfl⟩
      · obtain rfl := hfit _ _ (decide_eq_false hk) rfl
        refine Sp.enter (n := 36) Try.func17 rfl rfl rfl (Hp.refl w) ?_
        repeat' (first
            | ((with_reducible refine is_build ?_); (first | refine ⟨_, Yl_build rfl (r_build3 _ _ _ _ _), ?_⟩ | refine ⟨_, Yl_build rfl (r_build2 _ _), ?_⟩ | refine ⟨_, Yl_build rfl r_build0, ?_⟩))
            | ((with_reducible refine ie_callf ?_); (first | ((with_reducible refine g_call 30 ?_); (first | refine Ef_callP rfl rfl ent_30 (fun w hp => hma w (hp.rd hr fun _ => List.not_mem_nil)) ?_))    | ((with_reducible refine g_call 31 ?_); (first | refine Ef_callP rfl rfl ent_31 (fun w hp => hcn w (hp.rd hr fun _ => List.not_mem_nil)) ?_))   | ((with_reducible refine g_call 20 ?_); (first | refine Ef_callP rfl rfl ent_20 (fun w _ => hli w) ?_))))
            | ((with_reducible refine g_draw ?_); (first | (((refine' T.draw (id := 4) [(0, true), (1, true), (2, true), (3, true), (4, true), (5, true), (6, false), (7, false), (8, false), (9, false), (10, false)] [.blk b1 (.cells (sV k y (A, cap) len) 24 (0, 0))] mixd ?q1 ?q2 ?_); (case q1 => kernel_rfl); (case q2 => (repeat (first | exact List.nil_sublist _ | refine List.Sublist.cons_cons _ ?_ | refine List.Sublist.cons _ ?_)))))))
            | refine w1 ?_
            | (refine w2 ?_ ?_ <;> intro hc)
            | (first | refine ⟨_, Yl_neqA rfl rfl (eqg_of rfl) (eqQ_t _ _ hxy).run, ?_⟩ | refine ⟨_, Yl_neqA rfl rfl (eqg_of rfl) (eqQ_f _ _ hxy).run, ?_⟩)
            | (refine w4 ?_; (first | ((fail_if_success have := b1); intro b1) | intro _))
            | (refine w5 ?_; (intro _ _))
            | refine w3 ?_ ?_
            | fail_if_success skip)
        exact ret_n [] (resC1 rfl rfl rfl (by (repeat (first | exact .head _ | apply List.Mem.tail))) (agg_of rfl)) (List.nil_sublist _) ⟨by rw [Bool.false_and]; rfl, rfl⟩
end

section
variable (A : Option Addr) (len cap : Nat) (a : List Pr) (B : Option Addr) (lenb capb : Nat) (b : List Pr) (w : World) (hA : Rd w A len 2 (a.flatMap pE)) (hB : Rd w B lenb 2 (b.flatMap pE)) (hla : a.length = len) (hlb : b.length = lenb) (hle : len ≤ 9223372036854775807)
include hA hB hla hlb hle
set_option maxHeartbeats 2000000 in
theorem rsame_v (k y k' y' : Int) (r : Bool) (hres : decide (k = k' ∧ y = y' ∧ a = b) = r) : Sp Try.prog 33 [.agg (sV k y (A, cap) len), .agg (sV k' y' (B, capb) lenb)] w [] fun v N => v = .bool r ∧ N = [] := by
  by_cases h1 : k = k'
  · by_cases h2 : y = y'
    · by_cases h3 : len = lenb
      · subst h1 h2 h3
        refine Sp.enter (n := 45) Try.func33 rfl rfl rfl (Hp.refl w) ?_
        repeat' (first
            | ((with_reducible refine g_draw ?_); (first | (((refine' T.draw (id := 4) [(0, true), (1, true), (2, true), (3, true), (4, true), (5, true), (6, false), (7, false), (8, false), (9, false), (10, false)] [.blk b1 (.cells (sV k y (A, cap) len) 24 (0, 0))] mixd ?q1 ?q2 ?_); (case q1 => kernel_rfl); (case q2 => (repeat (first | exact List.nil_sublist _ | refine List.Sublist.cons_cons _ ?_ | refine List.Sublist.cons _ ?_))))) | (((with_reducible refine' T.drawM (id := 6) [(0, true), (1, true), (2, true), (3, true), (4, true), (5, true), (6, true), (7, false), (8, false), (9, false), (10, false)] mixd ?q1 ?_); (case q1 => kernel_rfl)))))
            | refine w1 ?_
            | (refine w2 ?_ ?_ <;> intro hc)
            | (first | refine ⟨_, Yl_neqA rfl rfl (eqg_of rfl) (eqQ_t _ _ hxy).run, ?_⟩ | refine ⟨_, Yl_neqA rfl rfl (eqg_of rfl) (eqQ_f _ _ hxy).run, ?_⟩)
            | (refine w4 ?_; (first | ((fail_if_success have := b1); intro b1) | ((fail_if_success have := b2); intro b2) | intro _))
            | (refine w5 ?_; (intro _ _))
            | refine w3 ?_ ?_
            | fail_if_success skip)
        refine T.loop (α := Nat) (fun i => [(2, .pointer (some ⟨b1, 0, none⟩)), (3, .pointer (some ⟨b2, 0, none⟩)), (5, .int .i64 (i : Int))]) (fun _ => [.blk b2 (.cells (sV k y (B, capb) len) 24 (0, 0)), .blk b1 (.cells (sV k y (A, cap) len) 24 (0, 0))]) (fun i => i ≤ len ∧ a.take i = b.take i) (fun i => len - i) 0 ?_ ?_ ?_ ?_
        · (repeat (first | exact Sub.nil | refine Sub.cons rfl ?_))
        · (repeat (first | exact List.nil_sublist _ | refine List.Sublist.cons_cons _ ?_ | refine List.Sublist.cons _ ?_))
        · exact ⟨Nat.zero_le _, rfl⟩
        · rintro i ⟨hi, hno⟩
          by_cases hlt : i < len
          · obtain ⟨x, hx⟩ := some_of_lt (l := a) (i := i) (by omega)
            obtain ⟨x', hy⟩ := some_of_lt (l := b) (i := i) (by omega)
            have eA := enc_atA pE_len hx
            have eB := enc_atA pE_len hy
            by_cases hxy : x = x'
            · repeat' (first
                | ((with_reducible refine g_draw ?_); (first | (((refine' T.draw (id := 4) [(0, true), (1, true), (2, true), (3, true), (4, true), (5, true), (6, false), (7, false), (8, false), (9, false), (10, false)] [.blk b1 (.cells (sV k y (A, cap) len) 24 (0, 0))] mixd ?q1 ?q2 ?_); (case q1 => kernel_rfl); (case q2 => (repeat (first | exact List.nil_sublist _ | refine List.Sublist.cons_cons _ ?_ | refine List.Sublist.cons _ ?_))))) | (((with_reducible refine' T.drawM (id := 6) [(0, true), (1, true), (2, true), (3, true), (4, true), (5, true), (6, true), (7, false), (8, false), (9, false), (10, false)] mixd ?q1 ?_); (case q1 => kernel_rfl)))))
                | refine w1 ?_
                | (refine w2 ?_ ?_ <;> intro hc)
                | (first | refine ⟨_, Yl_neqA rfl rfl (eqg_of rfl) (eqQ_t _ _ hxy).run, ?_⟩ | refine ⟨_, Yl_neqA rfl rfl (eqg_of rfl) (eqQ_f _ _ hxy).run, ?_⟩)
                | (refine w4 ?_; (first | ((fail_if_success have := b1); intro b1) | ((fail_if_success have := b2); intro b2) | intro _))
                | (refine w5 ?_; (intro _ _))
                | refine w3 ?_ ?_
                | fail_if_success skip)
              refine loopQ_n (i + 1) ?_ ?_ ⟨by (first | omega | (dsimp only; omega) | (simp; omega)), by rw [take_snoc hx, take_snoc hy, hno, hxy]⟩ (by (first | omega | (dsimp only; omega) | (simp; omega)))
              · (repeat (first | exact Sub.nil | refine Sub.cons rfl ?_))
              · (repeat (first | exact List.nil_sublist _ | refine List.Sublist.cons_cons _ ?_ | refine List.Sublist.cons _ ?_))
            · rw [decide_eq_false (fun h => ne_at hx hy hxy h.2.2)] at hres
              subst hres
              repeat' (first
                  | ((with_reducible refine g_draw ?_); (first | (((refine' T.draw (id := 4) [(0, true), (1, true), (2, true), (3, true), (4, true), (5, true), (6, false), (7, false), (8, false), (9, false), (10, false)] [.blk b1 (.cells (sV k y (A, cap) len) 24 (0, 0))] mixd ?q1 ?q2 ?_); (case q1 => kernel_rfl); (case q2 => (repeat (first | exact List.nil_sublist _ | refine List.Sublist.cons_cons _ ?_ | refine List.Sublist.cons _ ?_))))) | (((with_reducible refine' T.drawM (id := 6) [(0, true), (1, true), (2, true), (3, true), (4, true), (5, true), (6, true), (7, false), (8, false), (9, false), (10, false)] mixd ?q1 ?_); (case q1 => kernel_rfl)))))
                  | refine w1 ?_
                  | (refine w2 ?_ ?_ <;> intro hc)
                  | (first | refine ⟨_, Yl_neqA rfl rfl (eqg_of rfl) (eqQ_t _ _ hxy).run, ?_⟩ | refine ⟨_, Yl_neqA rfl rfl (eqg_of rfl) (eqQ_f _ _ hxy).run, ?_⟩)
                  | (refine w4 ?_; (first | ((fail_if_success have := b1); intro b1) | ((fail_if_success have := b2); intro b2) | intro _))
                  | (refine w5 ?_; (intro _ _))
                  | refine w3 ?_ ?_
                  | fail_if_success skip)
              exact ret_n [] (res1 rfl rfl) (List.nil_sublist _) ⟨rfl, rfl⟩
          · rw [decide_eq_true ⟨rfl, rfl, ext_take (by omega) hno (by omega)⟩] at hres
            subst hres
            repeat' (first
                | ((with_reducible refine g_draw ?_); (first | (((refine' T.draw (id := 4) [(0, true), (1, true), (2, true), (3, true), (4, true), (5, true), (6, false), (7, false), (8, false), (9, false), (10, false)] [.blk b1 (.cells (sV k y (A, cap) len) 24 (0, 0))] mixd ?q1 ?q2 ?_); (case q1 => kernel_rfl); (case q2 => (repeat (first | exact List.nil_sublist _ | refine List.Sublist.cons_cons _ ?_ | refine List.Sublist.cons _ ?_))))) | (((with_reducible refine' T.drawM (id := 6) [(0, true), (1, true), (2, true), (3, true), (4, true), (5, true), (6, true), (7, false), (8, false), (9, false), (10, false)] mixd ?q1 ?_); (case q1 => kernel_rfl)))))
                | refine w1 ?_
                | (refine w2 ?_ ?_ <;> intro hc)
                | (first | refine ⟨_, Yl_neqA rfl rfl (eqg_of rfl) (eqQ_t _ _ hxy).run, ?_⟩ | refine ⟨_, Yl_neqA rfl rfl (eqg_of rfl) (eqQ_f _ _ hxy).run, ?_⟩)
                | (refine w4 ?_; (first | ((fail_if_success have := b1); intro b1) | ((fail_if_success have := b2); intro b2) | intro _))
                | (refine w5 ?_; (intro _ _))
                | refine w3 ?_ ?_
                | fail_if_success skip)
            exact ret_n [] (res1 rfl rfl) (List.nil_sublist _) ⟨rfl, rfl⟩
      · rw [decide_eq_false (fun h => h3 (by rw [← hla, ← hlb, h.2.2]))] at hres
        subst hres
        refine Sp.enter (n := 45) Try.func33 rfl rfl rfl (Hp.refl w) ?_
        repeat' (first
            | ((with_reducible refine g_draw ?_); (first | (((refine' T.draw (id := 4) [(0, true), (1, true), (2, true), (3, true), (4, true), (5, true), (6, false), (7, false), (8, false), (9, false), (10, false)] [.blk b1 (.cells (sV k y (A, cap) len) 24 (0, 0))] mixd ?q1 ?q2 ?_); (case q1 => kernel_rfl); (case q2 => (repeat (first | exact List.nil_sublist _ | refine List.Sublist.cons_cons _ ?_ | refine List.Sublist.cons _ ?_))))) | (((with_reducible refine' T.drawM (id := 6) [(0, true), (1, true), (2, true), (3, true), (4, true), (5, true), (6, true), (7, false), (8, false), (9, false), (10, false)] mixd ?q1 ?_); (case q1 => kernel_rfl)))))
            | refine w1 ?_
            | (refine w2 ?_ ?_ <;> intro hc)
            | (first | refine ⟨_, Yl_neqA rfl rfl (eqg_of rfl) (eqQ_t _ _ hxy).run, ?_⟩ | refine ⟨_, Yl_neqA rfl rfl (eqg_of rfl) (eqQ_f _ _ hxy).run, ?_⟩)
            | (refine w4 ?_; (first | ((fail_if_success have := b1); intro b1) | ((fail_if_success have := b2); intro b2) | intro _))
            | (refine w5 ?_; (intro _ _))
            | refine w3 ?_ ?_
            | fail_if_success skip)
        exact ret_n [] (res1 rfl rfl) (List.nil_sublist _) ⟨rfl, rfl⟩
    · rw [decide_eq_false (fun h => h2 h.2.1)] at hres
      subst hres
      refine Sp.enter (n := 45) Try.func33 rfl rfl rfl (Hp.refl w) ?_
      repeat' (first
          | ((with_reducible refine g_draw ?_); (first | (((refine' T.draw (id := 4) [(0, true), (1, true), (2, true), (3, true), (4, true), (5, true), (6, false), (7, false), (8, false), (9, false), (10, false)] [.blk b1 (.cells (sV k y (A, cap) len) 24 (0, 0))] mixd ?q1 ?q2 ?_); (case q1 => kernel_rfl); (case q2 => (repeat (first | exact List.nil_sublist _ | refine List.Sublist.cons_cons _ ?_ | refine List.Sublist.cons _ ?_))))) | (((with_reducible refine' T.drawM (id := 6) [(0, true), (1, true), (2, true), (3, true), (4, true), (5, true), (6, true), (7, false), (8, false), (9, false), (10, false)] mixd ?q1 ?_); (case q1 => kernel_rfl)))))
          | refine w1 ?_
          | (refine w2 ?_ ?_ <;> intro hc)
          | (first | refine ⟨_, Yl_neqA rfl rfl (eqg_of rfl) (eqQ_t _ _ hxy).run, ?_⟩ | refine ⟨_, Yl_neqA rfl rfl (eqg_of rfl) (eqQ_f _ _ hxy).run, ?_⟩)
          | (refine w4 ?_; (first | ((fail_if_success have := b1); intro b1) | ((fail_if_success have := b2); intro b2) | intro _))
          | (refine w5 ?_; (intro _ _))
          | refine w3 ?_ ?_
          | fail_if_success skip)
      exact ret_n [] (res1 rfl rfl) (List.nil_sublist _) ⟨rfl, rfl⟩
  · rw [decide_eq_false (fun h => h1 h.1)] at hres
    subst hres
    refine Sp.enter (n := 45) Try.func33 rfl rfl rfl (Hp.refl w) ?_
    repeat' (first
        | ((with_reducible refine g_draw ?_); (first | (((refine' T.draw (id := 4) [(0, true), (1, true), (2, true), (3, true), (4, true), (5, true), (6, false), (7, false), (8, false), (9, false), (10, false)] [.blk b1 (.cells (sV k y (A, cap) len) 24 (0, 0))] mixd ?q1 ?q2 ?_); (case q1 => kernel_rfl); (case q2 => (repeat (first | exact List.nil_sublist _ | refine List.Sublist.cons_cons _ ?_ | refine List.Sublist.cons _ ?_))))) | (((with_reducible refine' T.drawM (id := 6) [(0, true), (1, true), (2, true), (3, true), (4, true), (5, true), (6, true), (7, false), (8, false), (9, false), (10, false)] mixd ?q1 ?_); (case q1 => kernel_rfl)))))
        | refine w1 ?_
        | (refine w2 ?_ ?_ <;> intro hc)
        | (first | refine ⟨_, Yl_neqA rfl rfl (eqg_of rfl) (eqQ_t _ _ hxy).run, ?_⟩ | refine ⟨_, Yl_neqA rfl rfl (eqg_of rfl) (eqQ_f _ _ hxy).run, ?_⟩)
        | (refine w4 ?_; (first | ((fail_if_success have := b1); intro b1) | ((fail_if_success have := b2); intro b2) | intro _))
        | (refine w5 ?_; (intro _ _))
        | refine w3 ?_ ?_
        | fail_if_success skip)
    exact ret_n [] (res1 rfl rfl) (List.nil_sublist _) ⟨rfl, rfl⟩
end
end Go.Proofs.Ytimmabejfigleaa
