/- What a client is told again: what a call comes to. -/
import Derived.Test.YthiacfpfgdoliaaT5
namespace Go.Proofs.Ythiacfpfgdoliaa
open Go.RowKit
set_option maxRecDepth 20000

section
variable (A : Option Addr) (len cap : Nat) (l : List Me) (t i : Int) (w : World) (hr : Rd w A len 77 (l.flatMap mE)) (hl : l.length = len) (hle : len ≤ 300) (hin : Ins w l) (h4 : ∀ x ∈ l, x.1.r.keys.length ≤ 400)
include hr hl hle hin h4
set_option maxHeartbeats 4000000 in
theorem ask_c : Sp Try.prog 15 [.slice A len cap, .int .i64 t, .int .i64 i] w [] fun v N => ∃ y : Hd, v = .tuple #[.agg (rE (Rl.askM l t i).1.1 y).toArray, .bool (Rl.askM l t i).2.1, .int .i64 (Rl.askM l t i).2.2] ∧ N = [kA (Rl.askM l t i).1.1 y] := by
  have hma := fun w h => may_v A len cap l w h hl (by omega) _ rfl
  have hft := fun w => fits_v t i _ w rfl
  have hof := fun w h => of_c A len cap l t w h hl (by omega)
  have hat := fun w h => at_c A len cap l t w h hl (by omega)
  unfold Rl.askM
  generalize Rl.may (l.map (·.1)) = m at hma
  cases m
  · refine Sp.enter (n := 41) Try.func15 rfl rfl rfl (Hp.refl w) ?_
    refine T.row0e 9 1 ?_
    repeat' (first
        | ((with_reducible refine is_load ?_); (first | ((refine' ⟨_, Yl_loadA_hp rfl ?qa ?qb ?ql ?qc, ?_⟩); (case qa => exact agg_of rfl); (case qb => (first | exact fun _ hp => hp.rd hr fun _ => List.not_mem_nil)); (case qc => assumption); (case ql => rfl))))
        | ((with_reducible refine is_build ?_); (first | refine ⟨_, Yl_build rfl z_build30, ?_⟩))
        | ((with_reducible refine ie_store ?_); (first | ((refine' Ef_storeA' rfl rfl ?q1 (rE_one _ _) ?q2 ?q3 ?_); (case q1 => exact siz_of rfl); (case q2 => (first | exact at0 | exact at1 | exact at2 | exact at3 | exact at4 | exact at5 | exact at6)); (case q3 => rfl))))
        | ((with_reducible refine ie_callf ?_); (first | ((with_reducible refine g_call 19 ?_); (first | refine Ef_callP rfl rfl ent_19 (fun w hp => hma w (hp.rd hr fun _ => List.not_mem_nil)) ?_)) | ((with_reducible refine g_call 27 ?_); (first | refine Ef_callP rfl rfl ent_27 (fun w _ => hft w) ?_)) | ((with_reducible refine g_call 18 ?_); (first | refine Ef_callP rfl rfl ent_18 (fun w hp => hof w (hp.rd hr fun _ => List.not_mem_nil)) ?_)) | ((with_reducible refine g_call 29 ?_); (first | refine Ef_callP rfl rfl ent_29 (fun w hp => hat w (hp.rd hr fun _ => List.not_mem_nil)) ?_)) | ((with_reducible refine g_call 28 ?_); (first | (refine Ef_callN rfl rfl ent_28 (fun w hp => hcp w (hp.in_old (hin x (mem_of_some hx)))) ?_; rintro ⟨A1, c1⟩)))))
        | refine w1 ?_
        | (refine w2 ?_ ?_ <;> intro hc)
        | (refine w4 ?_; (intro _))
        | (refine w5 ?_; (first | ((fail_if_success have := A1); intro A1 c1) | intro _ _))
        | refine w3 ?_ ?_
        | fail_if_success skip)
    exact ret_n [kA Rl.z (none, 0)] (resC2 rfl rfl rfl rfl (by (repeat (first | exact .head _ | apply List.Mem.tail))) (agg_of rfl)) (by (repeat (first | exact List.nil_sublist _ | refine List.Sublist.cons_cons _ ?_ | refine List.Sublist.cons _ ?_))) ⟨(none, 0), rfl, rfl⟩
  cases hf : Rl.fits t i
  · rw [hf] at hft
    refine Sp.enter (n := 41) Try.func15 rfl rfl rfl (Hp.refl w) ?_
    refine T.row0e 9 1 ?_
    repeat' (first
        | ((with_reducible refine is_load ?_); (first | ((refine' ⟨_, Yl_loadA_hp rfl ?qa ?qb ?ql ?qc, ?_⟩); (case qa => exact agg_of rfl); (case qb => (first | exact fun _ hp => hp.rd hr fun _ => List.not_mem_nil)); (case qc => assumption); (case ql => rfl))))
        | ((with_reducible refine is_build ?_); (first | refine ⟨_, Yl_build rfl z_build30, ?_⟩))
        | ((with_reducible refine ie_store ?_); (first | ((refine' Ef_storeA' rfl rfl ?q1 (rE_one _ _) ?q2 ?q3 ?_); (case q1 => exact siz_of rfl); (case q2 => (first | exact at0 | exact at1 | exact at2 | exact at3 | exact at4 | exact at5 | exact at6)); (case q3 => rfl))))
        | ((with_reducible refine ie_callf ?_); (first | ((with_reducible refine g_call 19 ?_); (first | refine Ef_callP rfl rfl ent_19 (fun w hp => hma w (hp.rd hr fun _ => List.not_mem_nil)) ?_)) | ((with_reducible refine g_call 27 ?_); (first | refine Ef_callP rfl rfl ent_27 (fun w _ => hft w) ?_)) | ((with_reducible refine g_call 18 ?_); (first | refine Ef_callP rfl rfl ent_18 (fun w hp => hof w (hp.rd hr fun _ => List.not_mem_nil)) ?_)) | ((with_reducible refine g_call 29 ?_); (first | refine Ef_callP rfl rfl ent_29 (fun w hp => hat w (hp.rd hr fun _ => List.not_mem_nil)) ?_)) | ((with_reducible refine g_call 28 ?_); (first | (refine Ef_callN rfl rfl ent_28 (fun w hp => hcp w (hp.in_old (hin x (mem_of_some hx)))) ?_; rintro ⟨A1, c1⟩)))))
        | refine w1 ?_
        | (refine w2 ?_ ?_ <;> intro hc)
        | (refine w4 ?_; (intro _))
        | (refine w5 ?_; (first | ((fail_if_success have := A1); intro A1 c1) | intro _ _))
        | refine w3 ?_ ?_
        | fail_if_success skip)
    exact ret_n [kA Rl.z (none, 0)] (resC2 rfl rfl rfl rfl (by (repeat (first | exact .head _ | apply List.Mem.tail))) (agg_of rfl)) (by (repeat (first | exact List.nil_sublist _ | refine List.Sublist.cons_cons _ ?_ | refine List.Sublist.cons _ ?_))) ⟨(none, 0), rfl, rfl⟩
  rw [hf] at hft
  have hf1 : 0 < i := by
    have := of_decide_eq_true hf
    omega
  rw [Bool.and_self, if_pos rfl]
  unfold Rl.ofM at hof
  rcases Rl.find_or l t with ⟨e1, e2⟩ | ⟨j, x, hx, e0, e1, e2⟩
  · rw [e1] at hof ⊢
    dsimp only [Option.getD_none, Option.isSome_none] at hof ⊢
    have e3 : Rl.zm.1.id < i := hf1
    refine Sp.enter (n := 41) Try.func15 rfl rfl rfl (Hp.refl w) ?_
    refine T.row0e 9 1 ?_
    repeat' (first
        | ((with_reducible refine is_load ?_); (first | ((refine' ⟨_, Yl_loadA_hp rfl ?qa ?qb ?ql ?qc, ?_⟩); (case qa => exact agg_of rfl); (case qb => (first | exact fun _ hp => hp.rd hr fun _ => List.not_mem_nil)); (case qc => assumption); (case ql => rfl))))
        | ((with_reducible refine is_build ?_); (first | refine ⟨_, Yl_build rfl z_build30, ?_⟩))
        | ((with_reducible refine ie_store ?_); (first | ((refine' Ef_storeA' rfl rfl ?q1 (rE_one _ _) ?q2 ?q3 ?_); (case q1 => exact siz_of rfl); (case q2 => (first | exact at0 | exact at1 | exact at2 | exact at3 | exact at4 | exact at5 | exact at6)); (case q3 => rfl))))
        | ((with_reducible refine ie_callf ?_); (first | ((with_reducible refine g_call 19 ?_); (first | refine Ef_callP rfl rfl ent_19 (fun w hp => hma w (hp.rd hr fun _ => List.not_mem_nil)) ?_)) | ((with_reducible refine g_call 27 ?_); (first | refine Ef_callP rfl rfl ent_27 (fun w _ => hft w) ?_)) | ((with_reducible refine g_call 18 ?_); (first | refine Ef_callP rfl rfl ent_18 (fun w hp => hof w (hp.rd hr fun _ => List.not_mem_nil)) ?_)) | ((with_reducible refine g_call 29 ?_); (first | refine Ef_callP rfl rfl ent_29 (fun w hp => hat w (hp.rd hr fun _ => List.not_mem_nil)) ?_)) | ((with_reducible refine g_call 28 ?_); (first | (refine Ef_callN rfl rfl ent_28 (fun w hp => hcp w (hp.in_old (hin x (mem_of_some hx)))) ?_; rintro ⟨A1, c1⟩)))))
        | refine w1 ?_
        | (refine w2 ?_ ?_ <;> intro hc)
        | (refine w4 ?_; (intro _))
        | (refine w5 ?_; (first | ((fail_if_success have := A1); intro A1 c1) | intro _ _))
        | refine w3 ?_ ?_
        | fail_if_success skip)
    exact ret_n [kA Rl.z (none, 0)] (resC2 rfl rfl rfl rfl (by (repeat (first | exact .head _ | apply List.Mem.tail))) (agg_of rfl)) (by (repeat (first | exact List.nil_sublist _ | refine List.Sublist.cons_cons _ ?_ | refine List.Sublist.cons _ ?_))) ⟨(none, 0), rfl, rfl⟩
  · rw [e1] at hof ⊢
    rw [e2] at hat
    dsimp only [Option.getD_some, Option.isSome_some] at hof ⊢
    have hj := lt_of_some hx
    have eA := mE_lk hx
    have hcp := fun w h => copied_c x.1.r x.2 w h (h4 x (mem_of_some hx))
    by_cases g1 : i < x.1.id
    · rw [if_pos g1]
      refine Sp.enter (n := 41) Try.func15 rfl rfl rfl (Hp.refl w) ?_
      refine T.row0e 9 1 ?_
      repeat' (first
          | ((with_reducible refine is_load ?_); (first | ((refine' ⟨_, Yl_loadA_hp rfl ?qa ?qb ?ql ?qc, ?_⟩); (case qa => exact agg_of rfl); (case qb => (first | exact fun _ hp => hp.rd hr fun _ => List.not_mem_nil)); (case qc => assumption); (case ql => rfl))))
          | ((with_reducible refine is_build ?_); (first | refine ⟨_, Yl_build rfl z_build30, ?_⟩))
          | ((with_reducible refine ie_store ?_); (first | ((refine' Ef_storeA' rfl rfl ?q1 (rE_one _ _) ?q2 ?q3 ?_); (case q1 => exact siz_of rfl); (case q2 => (first | exact at0 | exact at1 | exact at2 | exact at3 | exact at4 | exact at5 | exact at6)); (case q3 => rfl))))
          | ((with_reducible refine ie_callf ?_); (first | ((with_reducible refine g_call 19 ?_); (first | refine Ef_callP rfl rfl ent_19 (fun w hp => hma w (hp.rd hr fun _ => List.not_mem_nil)) ?_)) | ((with_reducible refine g_call 27 ?_); (first | refine Ef_callP rfl rfl ent_27 (fun w _ => hft w) ?_)) | ((with_reducible refine g_call 18 ?_); (first | refine Ef_callP rfl rfl ent_18 (fun w hp => hof w (hp.rd hr fun _ => List.not_mem_nil)) ?_)) | ((with_reducible refine g_call 29 ?_); (first | refine Ef_callP rfl rfl ent_29 (fun w hp => hat w (hp.rd hr fun _ => List.not_mem_nil)) ?_)) | ((with_reducible refine g_call 28 ?_); (first | (refine Ef_callN rfl rfl ent_28 (fun w hp => hcp w (hp.in_old (hin x (mem_of_some hx)))) ?_; rintro ⟨A1, c1⟩)))))
          | refine w1 ?_
          | (refine w2 ?_ ?_ <;> intro hc)
          | (refine w4 ?_; (intro _))
          | (refine w5 ?_; (first | ((fail_if_success have := A1); intro A1 c1) | intro _ _))
          | refine w3 ?_ ?_
          | fail_if_success skip)
      exact ret_n [kA Rl.z (none, 0)] (resC2 rfl rfl rfl rfl (by (repeat (first | exact .head _ | apply List.Mem.tail))) (agg_of rfl)) (by (repeat (first | exact List.nil_sublist _ | refine List.Sublist.cons_cons _ ?_ | refine List.Sublist.cons _ ?_))) ⟨(none, 0), rfl, rfl⟩
    · rw [if_neg g1]
      by_cases g2 : x.1.id = i
      · rw [if_pos g2]
        refine Sp.enter (n := 41) Try.func15 rfl rfl rfl (Hp.refl w) ?_
        repeat' (first
            | ((with_reducible refine is_load ?_); (first | ((refine' ⟨_, Yl_loadA_hp rfl ?qa ?qb ?ql ?qc, ?_⟩); (case qa => exact agg_of rfl); (case qb => (first | exact fun _ hp => hp.rd hr fun _ => List.not_mem_nil)); (case qc => assumption); (case ql => rfl))))
            | ((with_reducible refine is_build ?_); (first | refine ⟨_, Yl_build rfl z_build30, ?_⟩))
            | ((with_reducible refine ie_store ?_); (first | ((refine' Ef_storeA' rfl rfl ?q1 (rE_one _ _) ?q2 ?q3 ?_); (case q1 => exact siz_of rfl); (case q2 => (first | exact at0 | exact at1 | exact at2 | exact at3 | exact at4 | exact at5 | exact at6)); (case q3 => rfl))))
            | ((with_reducible refine ie_callf ?_); (first | ((with_reducible refine g_call 19 ?_); (first | refine Ef_callP rfl rfl ent_19 (fun w hp => hma w (hp.rd hr fun _ => List.not_mem_nil)) ?_)) | ((with_reducible refine g_call 27 ?_); (first | refine Ef_callP rfl rfl ent_27 (fun w _ => hft w) ?_)) | ((with_reducible refine g_call 18 ?_); (first | refine Ef_callP rfl rfl ent_18 (fun w hp => hof w (hp.rd hr fun _ => List.not_mem_nil)) ?_)) | ((with_reducible refine g_call 29 ?_); (first | refine Ef_callP rfl rfl ent_29 (fun w hp => hat w (hp.rd hr fun _ => List.not_mem_nil)) ?_)) | ((with_reducible refine g_call 28 ?_); (first | (refine Ef_callN rfl rfl ent_28 (fun w hp => hcp w (hp.in_old (hin x (mem_of_some hx)))) ?_; rintro ⟨A1, c1⟩)))))
            | refine w1 ?_
            | (refine w2 ?_ ?_ <;> intro hc)
            | (refine w4 ?_; (intro _))
            | (refine w5 ?_; (first | ((fail_if_success have := A1); intro A1 c1) | intro _ _))
            | refine w3 ?_ ?_
            | fail_if_success skip)
        exact ret_n [kA x.1.r (A1, c1)] (resC2 rfl rfl rfl rfl (by (repeat (first | exact .head _ | apply List.Mem.tail))) (agg_of rfl)) (by (repeat (first | exact List.nil_sublist _ | refine List.Sublist.cons_cons _ ?_ | refine List.Sublist.cons _ ?_))) ⟨(A1, c1), rfl, rfl⟩
      · rw [if_neg g2]
        refine Sp.enter (n := 41) Try.func15 rfl rfl rfl (Hp.refl w) ?_
        refine T.row0e 9 1 ?_
        repeat' (first
            | ((with_reducible refine is_load ?_); (first | ((refine' ⟨_, Yl_loadA_hp rfl ?qa ?qb ?ql ?qc, ?_⟩); (case qa => exact agg_of rfl); (case qb => (first | exact fun _ hp => hp.rd hr fun _ => List.not_mem_nil)); (case qc => assumption); (case ql => rfl))))
            | ((with_reducible refine is_build ?_); (first | refine ⟨_, Yl_build rfl z_build30, ?_⟩))
            | ((with_reducible refine ie_store ?_); (first | ((refine' Ef_storeA' rfl rfl ?q1 (rE_one _ _) ?q2 ?q3 ?_); (case q1 => exact siz_of rfl); (case q2 => (first | exact at0 | exact at1 | exact at2 | exact at3 | exact at4 | exact at5 | exact at6)); (case q3 => rfl))))
            | ((with_reducible refine ie_callf ?_); (first | ((with_reducible refine g_call 19 ?_); (first | refine Ef_callP rfl rfl ent_19 (fun w hp => hma w (hp.rd hr fun _ => List.not_mem_nil)) ?_)) | ((with_reducible refine g_call 27 ?_); (first | refine Ef_callP rfl rfl ent_27 (fun w _ => hft w) ?_)) | ((with_reducible refine g_call 18 ?_); (first | refine Ef_callP rfl rfl ent_18 (fun w hp => hof w (hp.rd hr fun _ => List.not_mem_nil)) ?_)) | ((with_reducible refine g_call 29 ?_); (first | refine Ef_callP rfl rfl ent_29 (fun w hp => hat w (hp.rd hr fun _ => List.not_mem_nil)) ?_)) | ((with_reducible refine g_call 28 ?_); (first | (refine Ef_callN rfl rfl ent_28 (fun w hp => hcp w (hp.in_old (hin x (mem_of_some hx)))) ?_; rintro ⟨A1, c1⟩)))))
            | refine w1 ?_
            | (refine w2 ?_ ?_ <;> intro hc)
            | (refine w4 ?_; (intro _))
            | (refine w5 ?_; (first | ((fail_if_success have := A1); intro A1 c1) | intro _ _))
            | refine w3 ?_ ?_
            | fail_if_success skip)
        exact ret_n [kA Rl.z (none, 0)] (resC2 rfl rfl rfl rfl (by (repeat (first | exact .head _ | apply List.Mem.tail))) (agg_of rfl)) (by (repeat (first | exact List.nil_sublist _ | refine List.Sublist.cons_cons _ ?_ | refine List.Sublist.cons _ ?_))) ⟨(none, 0), rfl, rfl⟩
end
end Go.Proofs.Ythiacfpfgdoliaa
