/- What the document's note makes of a table; the chapter's rows: what a call of each comes to. -/
import Derived.Test.YthiacfpfgdoliaaT8
namespace Go.Proofs.Ythiacfpfgdoliaa
open Go.RowKit
set_option maxRecDepth 20000

section
variable (A : Option Addr) (len cap : Nat) (l : List Me) (t i : Int) (r : Rp) (h : Hd) (w : World) (hr : Rd w A len 77 (l.flatMap mE)) (hl : l.length = len) (hle : len ≤ 200)
include hr hl hle
set_option maxHeartbeats 8000000 in
theorem rnote_c : Sp Try.prog 23 [.slice A len cap, .int .i64 t, .int .i64 i, .agg (rE r h).toArray] w [] fun v N => ∃ y : Hd, v = .tuple #[.slice y.1 (Rl.noteM l t i r h).1.length y.2, .int .i64 (Rl.noteM l t i r h).2] ∧ N = [rD (Rl.noteM l t i r h).1 y] := by
  have hma := fun w h => rmay_v A len cap l w h hl (by omega) _ rfl
  have hft := fun w => rfits_v t i _ w rfl
  have hfi := fun w h => rfind_c A len cap l t w h hl (by omega)
  unfold Rl.noteM
  cases hm : Rl.may (l.map (·.1))
  · rw [hm] at hma
    refine Sp.enter (n := 64) Try.func23 rfl rfl rfl (Hp.refl w) ?_
    refine T.row0e 44 77 ?_
    repeat' (first
        | ((with_reducible refine is_load ?_); (first | ((refine' ⟨_, Yl_loadA_at rfl ?qa ?qb ?ql ?qc, ?_⟩); (case qa => exact agg_of rfl); (case qb => (repeat (first | exact .head _ | apply List.Mem.tail))); (case qc => (first | exact mE_rE _)); (case ql => rfl))))
        | ((with_reducible refine is_build ?_); (first | refine ⟨_, Yl_build rfl (b_build44 _ _ _ _), ?_⟩))
        | ((with_reducible refine ie_store ?_); (first | ((refine' Ef_storeA' rfl rfl ?q1 (mE_one _) ?q2 ?q3 ?_); (case q1 => exact siz_of rfl); (case q2 => (first | exact at0 | exact at1 | exact at2 | exact at3 | exact at4 | exact at5 | exact at6)); (case q3 => rfl))))
        | ((with_reducible refine ie_callf ?_); (first | ((with_reducible refine g_call 20 ?_); (first | refine Ef_callP rfl rfl ent_20 (fun w hp => hma w (hp.rd hr fun _ => List.not_mem_nil)) ?_)) | ((with_reducible refine g_call 30 ?_); (first | refine Ef_callP rfl rfl ent_30 (fun w _ => hft w) ?_)) | ((with_reducible refine g_call 17 ?_); (first | refine Ef_callP rfl rfl ent_17 (fun w hp => hfi w (hp.rd hr fun _ => List.not_mem_nil)) ?_ | refine Ef_callP rfl rfl ent_17 (fun w hp => hfk w (hp.rd hr fun _ => List.not_mem_nil)) ?_))))
        | (first | ((((refine' Ef_appG_row (news := mE _) rfl rfl rfl ?q1 ?q2 ?q3 (mE_one _) ?q4 ?q5 ?_); (case q1 => exact app_of rfl); (case q2 => (first | exact at0 | exact at1 | exact at2 | exact at3 | exact at4 | exact at5 | exact at6)); (case q3 => (repeat (first | exact .head _ | apply List.Mem.tail))); (case q4 => omega); (case q5 => omega))); (first | ((fail_if_success have := A1); intro A1 c1) | ((fail_if_success have := A2); intro A2 c2) | intro _ _)))
        | refine w1 ?_
        | (refine w2 ?_ ?_ <;> intro hc)
        | (refine w4 ?_; (first | ((fail_if_success have := b1); intro b1) | intro _))
        | (refine w5 ?_; (first | ((fail_if_success have := A1); intro A1 c1) | ((fail_if_success have := A2); intro A2 c2) | intro _ _))
        | refine w3 ?_ ?_
        | fail_if_success skip)
    exact ret_n [rD [] (none, 0)] (res2 rfl rfl rfl) (by (repeat (first | exact List.nil_sublist _ | refine List.Sublist.cons_cons _ ?_ | refine List.Sublist.cons _ ?_))) ⟨(none, 0), rfl, rfl⟩
  rw [hm] at hma
  cases hf : Rl.fits t i
  · rw [hf] at hft
    refine Sp.enter (n := 64) Try.func23 rfl rfl rfl (Hp.refl w) ?_
    refine T.row0e 44 77 ?_
    repeat' (first
        | ((with_reducible refine is_load ?_); (first | ((refine' ⟨_, Yl_loadA_at rfl ?qa ?qb ?ql ?qc, ?_⟩); (case qa => exact agg_of rfl); (case qb => (repeat (first | exact .head _ | apply List.Mem.tail))); (case qc => (first | exact mE_rE _)); (case ql => rfl))))
        | ((with_reducible refine is_build ?_); (first | refine ⟨_, Yl_build rfl (b_build44 _ _ _ _), ?_⟩))
        | ((with_reducible refine ie_store ?_); (first | ((refine' Ef_storeA' rfl rfl ?q1 (mE_one _) ?q2 ?q3 ?_); (case q1 => exact siz_of rfl); (case q2 => (first | exact at0 | exact at1 | exact at2 | exact at3 | exact at4 | exact at5 | exact at6)); (case q3 => rfl))))
        | ((with_reducible refine ie_callf ?_); (first | ((with_reducible refine g_call 20 ?_); (first | refine Ef_callP rfl rfl ent_20 (fun w hp => hma w (hp.rd hr fun _ => List.not_mem_nil)) ?_)) | ((with_reducible refine g_call 30 ?_); (first | refine Ef_callP rfl rfl ent_30 (fun w _ => hft w) ?_)) | ((with_reducible refine g_call 17 ?_); (first | refine Ef_callP rfl rfl ent_17 (fun w hp => hfi w (hp.rd hr fun _ => List.not_mem_nil)) ?_ | refine Ef_callP rfl rfl ent_17 (fun w hp => hfk w (hp.rd hr fun _ => List.not_mem_nil)) ?_))))
        | (first | ((((refine' Ef_appG_row (news := mE _) rfl rfl rfl ?q1 ?q2 ?q3 (mE_one _) ?q4 ?q5 ?_); (case q1 => exact app_of rfl); (case q2 => (first | exact at0 | exact at1 | exact at2 | exact at3 | exact at4 | exact at5 | exact at6)); (case q3 => (repeat (first | exact .head _ | apply List.Mem.tail))); (case q4 => omega); (case q5 => omega))); (first | ((fail_if_success have := A1); intro A1 c1) | ((fail_if_success have := A2); intro A2 c2) | intro _ _)))
        | refine w1 ?_
        | (refine w2 ?_ ?_ <;> intro hc)
        | (refine w4 ?_; (first | ((fail_if_success have := b1); intro b1) | intro _))
        | (refine w5 ?_; (first | ((fail_if_success have := A1); intro A1 c1) | ((fail_if_success have := A2); intro A2 c2) | intro _ _))
        | refine w3 ?_ ?_
        | fail_if_success skip)
    exact ret_n [rD [] (none, 0)] (res2 rfl rfl rfl) (by (repeat (first | exact List.nil_sublist _ | refine List.Sublist.cons_cons _ ?_ | refine List.Sublist.cons _ ?_))) ⟨(none, 0), rfl, rfl⟩
  rw [hf] at hft
  rw [Bool.and_self, if_pos rfl]
  have hfb := of_decide_eq_true hf
  have hM := (Rl.may_iff _).1 hm
  by_cases g1 : i ≤ Rl.ofM l t
  · rw [if_pos g1]
    unfold Rl.ofM at g1
    cases hfd : Rl.find l t with
    | none =>
      rw [hfd] at g1
      have : i ≤ 0 := g1
      omega
    | some x =>
      rw [hfd] at g1 hfi
      dsimp only [Option.getD_some, Option.isSome_some] at g1 hfi
      refine Sp.enter (n := 64) Try.func23 rfl rfl rfl (Hp.refl w) ?_
      refine T.row0e 44 77 ?_
      repeat' (first
          | ((with_reducible refine is_load ?_); (first | ((refine' ⟨_, Yl_loadA_at rfl ?qa ?qb ?ql ?qc, ?_⟩); (case qa => exact agg_of rfl); (case qb => (repeat (first | exact .head _ | apply List.Mem.tail))); (case qc => (first | exact mE_rE _)); (case ql => rfl))))
          | ((with_reducible refine is_build ?_); (first | refine ⟨_, Yl_build rfl (b_build44 _ _ _ _), ?_⟩))
          | ((with_reducible refine ie_store ?_); (first | ((refine' Ef_storeA' rfl rfl ?q1 (mE_one _) ?q2 ?q3 ?_); (case q1 => exact siz_of rfl); (case q2 => (first | exact at0 | exact at1 | exact at2 | exact at3 | exact at4 | exact at5 | exact at6)); (case q3 => rfl))))
          | ((with_reducible refine ie_callf ?_); (first | ((with_reducible refine g_call 20 ?_); (first | refine Ef_callP rfl rfl ent_20 (fun w hp => hma w (hp.rd hr fun _ => List.not_mem_nil)) ?_)) | ((with_reducible refine g_call 30 ?_); (first | refine Ef_callP rfl rfl ent_30 (fun w _ => hft w) ?_)) | ((with_reducible refine g_call 17 ?_); (first | refine Ef_callP rfl rfl ent_17 (fun w hp => hfi w (hp.rd hr fun _ => List.not_mem_nil)) ?_ | refine Ef_callP rfl rfl ent_17 (fun w hp => hfk w (hp.rd hr fun _ => List.not_mem_nil)) ?_))))
          | (first | ((((refine' Ef_appG_row (news := mE _) rfl rfl rfl ?q1 ?q2 ?q3 (mE_one _) ?q4 ?q5 ?_); (case q1 => exact app_of rfl); (case q2 => (first | exact at0 | exact at1 | exact at2 | exact at3 | exact at4 | exact at5 | exact at6)); (case q3 => (repeat (first | exact .head _ | apply List.Mem.tail))); (case q4 => omega); (case q5 => omega))); (first | ((fail_if_success have := A1); intro A1 c1) | ((fail_if_success have := A2); intro A2 c2) | intro _ _)))
          | refine w1 ?_
          | (refine w2 ?_ ?_ <;> intro hc)
          | (refine w4 ?_; (first | ((fail_if_success have := b1); intro b1) | intro _))
          | (refine w5 ?_; (first | ((fail_if_success have := A1); intro A1 c1) | ((fail_if_success have := A2); intro A2 c2) | intro _ _))
          | refine w3 ?_ ?_
          | fail_if_success skip)
      exact ret_n [rD [] (none, 0)] (res2 rfl rfl rfl) (by (repeat (first | exact List.nil_sublist _ | refine List.Sublist.cons_cons _ ?_ | refine List.Sublist.cons _ ?_))) ⟨(none, 0), rfl, rfl⟩
  rw [if_neg g1]
  have hso : Rl.So Rl.fm l := by
    have h1 := hM.so
    rw [List.pairwise_map] at h1
    exact h1
  have hW := Rl.put_so Rl.fm (c := t) (a := ((⟨t, i, r⟩, h) : Me)) hso rfl
  have hWf := Rl.put_find Rl.fm (l := l) (a := ((⟨t, i, r⟩, h) : Me)) (c := t) rfl
  have hWb : ∀ x ∈ Rl.put Rl.fm l t ((⟨t, i, r⟩, h) : Me), 0 ≤ Rl.fm x ∧ Rl.fm x < 4 := fun x hx => by
    rcases Rl.put_mem Rl.fm hx with rfl | hx
    · exact ⟨hfb.1, hfb.2.1⟩
    · have := of_decide_eq_true (hM.ok x.1 (List.mem_map.2 ⟨x, hx, rfl⟩))
      exact ⟨this.1, this.2.1⟩
  have hWl : (Rl.put Rl.fm l t ((⟨t, i, r⟩, h) : Me)).length ≤ 401 := by
    have h1 : (Rl.lo Rl.fm l t).length ≤ l.length := List.length_filter_le _ _
    have h2 : (Rl.up Rl.fm l t).length ≤ l.length := List.length_filter_le _ _
    unfold Rl.put
    rw [List.length_append, List.length_cons]; omega
  generalize Rl.put Rl.fm l t ((⟨t, i, r⟩, h) : Me) = W at hW hWf hWb hWl ⊢
  have hlen : ∀ k, (Rl.lo Rl.fm W k).length ≤ 401 := fun k => Nat.le_trans (List.length_filter_le _ _) hWl
  have hsn := Rl.lo_snoc Rl.fm hW
  obtain ⟨xx, bb, hfi, gg⟩ : ∃ (xx : Me) (bb : Bool), (∀ w, Rd w A len 77 (l.flatMap mE) → Sp Try.prog 17 [.slice A len cap, .int .i64 t] w [] fun v N => v = .tuple #[.agg (mE xx).toArray, .bool bb] ∧ N = []) ∧ (bb = false ∨ (bb = true ∧ ¬ i ≤ xx.1.id)) := by
    refine ⟨_, _, hfi, ?_⟩
    unfold Rl.ofM at g1
    cases hfd : Rl.find l t with
    | none => exact .inl rfl
    | some x => exact .inr ⟨rfl, by rw [hfd] at g1; exact g1⟩
  clear g1
  rcases gg with rfl | ⟨rfl, gg⟩
  all_goals
    refine Sp.enter (n := 64) Try.func23 rfl rfl rfl (Hp.refl w) ?_
    refine T.row0e 44 77 ?_
    repeat' (first
        | ((with_reducible refine is_load ?_); (first | ((refine' ⟨_, Yl_loadA_at rfl ?qa ?qb ?ql ?qc, ?_⟩); (case qa => exact agg_of rfl); (case qb => (repeat (first | exact .head _ | apply List.Mem.tail))); (case qc => (first | exact mE_rE _)); (case ql => rfl))))
        | ((with_reducible refine is_build ?_); (first | refine ⟨_, Yl_build rfl (b_build44 _ _ _ _), ?_⟩))
        | ((with_reducible refine ie_store ?_); (first | ((refine' Ef_storeA' rfl rfl ?q1 (mE_one _) ?q2 ?q3 ?_); (case q1 => exact siz_of rfl); (case q2 => (first | exact at0 | exact at1 | exact at2 | exact at3 | exact at4 | exact at5 | exact at6)); (case q3 => rfl))))
        | ((with_reducible refine ie_callf ?_); (first | ((with_reducible refine g_call 20 ?_); (first | refine Ef_callP rfl rfl ent_20 (fun w hp => hma w (hp.rd hr fun _ => List.not_mem_nil)) ?_)) | ((with_reducible refine g_call 30 ?_); (first | refine Ef_callP rfl rfl ent_30 (fun w _ => hft w) ?_)) | ((with_reducible refine g_call 17 ?_); (first | refine Ef_callP rfl rfl ent_17 (fun w hp => hfi w (hp.rd hr fun _ => List.not_mem_nil)) ?_ | refine Ef_callP rfl rfl ent_17 (fun w hp => hfk w (hp.rd hr fun _ => List.not_mem_nil)) ?_))))
        | (first | ((((refine' Ef_appG_row (news := mE _) rfl rfl rfl ?q1 ?q2 ?q3 (mE_one _) ?q4 ?q5 ?_); (case q1 => exact app_of rfl); (case q2 => (first | exact at0 | exact at1 | exact at2 | exact at3 | exact at4 | exact at5 | exact at6)); (case q3 => (repeat (first | exact .head _ | apply List.Mem.tail))); (case q4 => omega); (case q5 => omega))); (first | ((fail_if_success have := A1); intro A1 c1) | ((fail_if_success have := A2); intro A2 c2) | intro _ _)))
        | refine w1 ?_
        | (refine w2 ?_ ?_ <;> intro hc)
        | (refine w4 ?_; (first | ((fail_if_success have := b1); intro b1) | intro _))
        | (refine w5 ?_; (first | ((fail_if_success have := A1); intro A1 c1) | ((fail_if_success have := A2); intro A2 c2) | intro _ _))
        | refine w3 ?_ ?_
        | fail_if_success skip)
    refine T.loop (α := Nat × Option Addr × Nat) (fun z => [(0, .slice A len cap), (1, .int .i64 t), (2, .int .i64 i), (7, .pointer (some ⟨b1, 0, none⟩)), (12, .slice z.2.1 (Rl.lo Rl.fm W z.1).length z.2.2), (13, .int .i64 (z.1 : Int))]) (fun z => [.blk b1 (.cells (rE r h).toArray 30 (0, 0)), .row 44 77 (.slice z.2.1 (Rl.lo Rl.fm W z.1).length z.2.2) (Rl.lo Rl.fm W z.1).length ((Rl.lo Rl.fm W z.1).flatMap mE)]) (fun z => z.1 ≤ 4) (fun z => 4 - z.1) (0, none, 0) ?_ ?_ ?_ ?_
    · dsimp only
      rw [Rl.lo_none Rl.fm (k := ((0 : Nat) : Int)) fun x hx => (hWb x hx).1]; (repeat (first | exact Sub.nil | refine Sub.cons rfl ?_))
    · dsimp only
      rw [Rl.lo_none Rl.fm (k := ((0 : Nat) : Int)) fun x hx => (hWb x hx).1]; (repeat (first | exact List.nil_sublist _ | refine List.Sublist.cons_cons _ ?_ | refine List.Sublist.cons _ ?_))
    · exact Nat.zero_le _
    · rintro ⟨k, A1, c1⟩ hi
      dsimp only at hi ⊢
      have hln := hlen k
      by_cases hlt : k < 4
      · have hs := hsn k
        have hfk := fun w h => rfind_c A len cap l (k : Int) w h hl (by omega)
        have hwk := hWf k
        by_cases hkt : (k : Int) = t
        · rw [if_pos hkt] at hwk
          rw [hwk] at hs
          repeat' (first
              | ((with_reducible refine is_load ?_); (first | ((refine' ⟨_, Yl_loadA_at rfl ?qa ?qb ?ql ?qc, ?_⟩); (case qa => exact agg_of rfl); (case qb => (repeat (first | exact .head _ | apply List.Mem.tail))); (case qc => (first | exact mE_rE _)); (case ql => rfl))))
              | ((with_reducible refine is_build ?_); (first | refine ⟨_, Yl_build rfl (b_build44 _ _ _ _), ?_⟩))
              | ((with_reducible refine ie_store ?_); (first | ((refine' Ef_storeA' rfl rfl ?q1 (mE_one _) ?q2 ?q3 ?_); (case q1 => exact siz_of rfl); (case q2 => (first | exact at0 | exact at1 | exact at2 | exact at3 | exact at4 | exact at5 | exact at6)); (case q3 => rfl))))
              | ((with_reducible refine ie_callf ?_); (first | ((with_reducible refine g_call 20 ?_); (first | refine Ef_callP rfl rfl ent_20 (fun w hp => hma w (hp.rd hr fun _ => List.not_mem_nil)) ?_)) | ((with_reducible refine g_call 30 ?_); (first | refine Ef_callP rfl rfl ent_30 (fun w _ => hft w) ?_)) | ((with_reducible refine g_call 17 ?_); (first | refine Ef_callP rfl rfl ent_17 (fun w hp => hfi w (hp.rd hr fun _ => List.not_mem_nil)) ?_ | refine Ef_callP rfl rfl ent_17 (fun w hp => hfk w (hp.rd hr fun _ => List.not_mem_nil)) ?_))))
              | (first | ((((refine' Ef_appG_row (news := mE _) rfl rfl rfl ?q1 ?q2 ?q3 (mE_one _) ?q4 ?q5 ?_); (case q1 => exact app_of rfl); (case q2 => (first | exact at0 | exact at1 | exact at2 | exact at3 | exact at4 | exact at5 | exact at6)); (case q3 => (repeat (first | exact .head _ | apply List.Mem.tail))); (case q4 => omega); (case q5 => omega))); (first | ((fail_if_success have := A1); intro A1 c1) | ((fail_if_success have := A2); intro A2 c2) | intro _ _)))
              | refine w1 ?_
              | (refine w2 ?_ ?_ <;> intro hc)
              | (refine w4 ?_; (first | ((fail_if_success have := b1); intro b1) | intro _))
              | (refine w5 ?_; (first | ((fail_if_success have := A1); intro A1 c1) | ((fail_if_success have := A2); intro A2 c2) | intro _ _))
              | refine w3 ?_ ?_
              | fail_if_success skip)
          refine loopQ_n (k + 1, A2, c2) ?_ ?_ (show k + 1 ≤ 4 by omega) (show 4 - (k + 1) < 4 - k by omega)
          · dsimp only
            rw [Int.natCast_succ, hs, List.length_append]; (repeat (first | exact Sub.nil | refine Sub.cons rfl ?_))
          · dsimp only
            rw [Int.natCast_succ, hs, List.length_append, List.flatMap_append]; (repeat (first | exact List.nil_sublist _ | refine List.Sublist.cons_cons _ ?_ | refine List.Sublist.cons _ ?_))
        · rw [if_neg hkt] at hwk
          rw [hwk] at hs
          have hfd : (l.find? fun x => decide (Rl.fm x = (k : Int))) = Rl.find l k := rfl
          rw [hfd] at hs
          cases hfx : Rl.find l k with
          | none =>
            rw [hfx] at hs hfk
            dsimp only [Option.getD_none, Option.isSome_none, Option.toList_none] at hs hfk
            rw [List.append_nil] at hs
            repeat' (first
                | ((with_reducible refine is_load ?_); (first | ((refine' ⟨_, Yl_loadA_at rfl ?qa ?qb ?ql ?qc, ?_⟩); (case qa => exact agg_of rfl); (case qb => (repeat (first | exact .head _ | apply List.Mem.tail))); (case qc => (first | exact mE_rE _)); (case ql => rfl))))
                | ((with_reducible refine is_build ?_); (first | refine ⟨_, Yl_build rfl (b_build44 _ _ _ _), ?_⟩))
                | ((with_reducible refine ie_store ?_); (first | ((refine' Ef_storeA' rfl rfl ?q1 (mE_one _) ?q2 ?q3 ?_); (case q1 => exact siz_of rfl); (case q2 => (first | exact at0 | exact at1 | exact at2 | exact at3 | exact at4 | exact at5 | exact at6)); (case q3 => rfl))))
                | ((with_reducible refine ie_callf ?_); (first | ((with_reducible refine g_call 20 ?_); (first | refine Ef_callP rfl rfl ent_20 (fun w hp => hma w (hp.rd hr fun _ => List.not_mem_nil)) ?_)) | ((with_reducible refine g_call 30 ?_); (first | refine Ef_callP rfl rfl ent_30 (fun w _ => hft w) ?_)) | ((with_reducible refine g_call 17 ?_); (first | refine Ef_callP rfl rfl ent_17 (fun w hp => hfi w (hp.rd hr fun _ => List.not_mem_nil)) ?_ | refine Ef_callP rfl rfl ent_17 (fun w hp => hfk w (hp.rd hr fun _ => List.not_mem_nil)) ?_))))
                | (first | ((((refine' Ef_appG_row (news := mE _) rfl rfl rfl ?q1 ?q2 ?q3 (mE_one _) ?q4 ?q5 ?_); (case q1 => exact app_of rfl); (case q2 => (first | exact at0 | exact at1 | exact at2 | exact at3 | exact at4 | exact at5 | exact at6)); (case q3 => (repeat (first | exact .head _ | apply List.Mem.tail))); (case q4 => omega); (case q5 => omega))); (first | ((fail_if_success have := A1); intro A1 c1) | ((fail_if_success have := A2); intro A2 c2) | intro _ _)))
                | refine w1 ?_
                | (refine w2 ?_ ?_ <;> intro hc)
                | (refine w4 ?_; (first | ((fail_if_success have := b1); intro b1) | intro _))
                | (refine w5 ?_; (first | ((fail_if_success have := A1); intro A1 c1) | ((fail_if_success have := A2); intro A2 c2) | intro _ _))
                | refine w3 ?_ ?_
                | fail_if_success skip)
            refine loopQ_n (k + 1, A1, c1) ?_ ?_ (show k + 1 ≤ 4 by omega) (show 4 - (k + 1) < 4 - k by omega)
            · dsimp only
              rw [Int.natCast_succ, hs]; (repeat (first | exact Sub.nil | refine Sub.cons rfl ?_))
            · dsimp only
              rw [Int.natCast_succ, hs]; (repeat (first | exact List.nil_sublist _ | refine List.Sublist.cons_cons _ ?_ | refine List.Sublist.cons _ ?_))
          | some x =>
            rw [hfx] at hs hfk
            dsimp only [Option.getD_some, Option.isSome_some] at hs hfk
            repeat' (first
                | ((with_reducible refine is_load ?_); (first | ((refine' ⟨_, Yl_loadA_at rfl ?qa ?qb ?ql ?qc, ?_⟩); (case qa => exact agg_of rfl); (case qb => (repeat (first | exact .head _ | apply List.Mem.tail))); (case qc => (first | exact mE_rE _)); (case ql => rfl))))
                | ((with_reducible refine is_build ?_); (first | refine ⟨_, Yl_build rfl (b_build44 _ _ _ _), ?_⟩))
                | ((with_reducible refine ie_store ?_); (first | ((refine' Ef_storeA' rfl rfl ?q1 (mE_one _) ?q2 ?q3 ?_); (case q1 => exact siz_of rfl); (case q2 => (first | exact at0 | exact at1 | exact at2 | exact at3 | exact at4 | exact at5 | exact at6)); (case q3 => rfl))))
                | ((with_reducible refine ie_callf ?_); (first | ((with_reducible refine g_call 20 ?_); (first | refine Ef_callP rfl rfl ent_20 (fun w hp => hma w (hp.rd hr fun _ => List.not_mem_nil)) ?_)) | ((with_reducible refine g_call 30 ?_); (first | refine Ef_callP rfl rfl ent_30 (fun w _ => hft w) ?_)) | ((with_reducible refine g_call 17 ?_); (first | refine Ef_callP rfl rfl ent_17 (fun w hp => hfi w (hp.rd hr fun _ => List.not_mem_nil)) ?_ | refine Ef_callP rfl rfl ent_17 (fun w hp => hfk w (hp.rd hr fun _ => List.not_mem_nil)) ?_))))
                | (first | ((((refine' Ef_appG_row (news := mE _) rfl rfl rfl ?q1 ?q2 ?q3 (mE_one _) ?q4 ?q5 ?_); (case q1 => exact app_of rfl); (case q2 => (first | exact at0 | exact at1 | exact at2 | exact at3 | exact at4 | exact at5 | exact at6)); (case q3 => (repeat (first | exact .head _ | apply List.Mem.tail))); (case q4 => omega); (case q5 => omega))); (first | ((fail_if_success have := A1); intro A1 c1) | ((fail_if_success have := A2); intro A2 c2) | intro _ _)))
                | refine w1 ?_
                | (refine w2 ?_ ?_ <;> intro hc)
                | (refine w4 ?_; (first | ((fail_if_success have := b1); intro b1) | intro _))
                | (refine w5 ?_; (first | ((fail_if_success have := A1); intro A1 c1) | ((fail_if_success have := A2); intro A2 c2) | intro _ _))
                | refine w3 ?_ ?_
                | fail_if_success skip)
            refine loopQ_n (k + 1, A2, c2) ?_ ?_ (show k + 1 ≤ 4 by omega) (show 4 - (k + 1) < 4 - k by omega)
            · dsimp only
              rw [Int.natCast_succ, hs, List.length_append]; (repeat (first | exact Sub.nil | refine Sub.cons rfl ?_))
            · dsimp only
              rw [Int.natCast_succ, hs, List.length_append, List.flatMap_append]; (repeat (first | exact List.nil_sublist _ | refine List.Sublist.cons_cons _ ?_ | refine List.Sublist.cons _ ?_))
      · have hk4 : k = 4 := by omega
        subst hk4
        have e4 : Rl.lo Rl.fm W ((4 : Nat) : Int) = W := Rl.lo_all Rl.fm fun x hx => (hWb x hx).2
        rw [e4]
        repeat' (first
            | ((with_reducible refine is_load ?_); (first | ((refine' ⟨_, Yl_loadA_at rfl ?qa ?qb ?ql ?qc, ?_⟩); (case qa => exact agg_of rfl); (case qb => (repeat (first | exact .head _ | apply List.Mem.tail))); (case qc => (first | exact mE_rE _)); (case ql => rfl))))
            | ((with_reducible refine is_build ?_); (first | refine ⟨_, Yl_build rfl (b_build44 _ _ _ _), ?_⟩))
            | ((with_reducible refine ie_store ?_); (first | ((refine' Ef_storeA' rfl rfl ?q1 (mE_one _) ?q2 ?q3 ?_); (case q1 => exact siz_of rfl); (case q2 => (first | exact at0 | exact at1 | exact at2 | exact at3 | exact at4 | exact at5 | exact at6)); (case q3 => rfl))))
            | ((with_reducible refine ie_callf ?_); (first | ((with_reducible refine g_call 20 ?_); (first | refine Ef_callP rfl rfl ent_20 (fun w hp => hma w (hp.rd hr fun _ => List.not_mem_nil)) ?_)) | ((with_reducible refine g_call 30 ?_); (first | refine Ef_callP rfl rfl ent_30 (fun w _ => hft w) ?_)) | ((with_reducible refine g_call 17 ?_); (first | refine Ef_callP rfl rfl ent_17 (fun w hp => hfi w (hp.rd hr fun _ => List.not_mem_nil)) ?_ | refine Ef_callP rfl rfl ent_17 (fun w hp => hfk w (hp.rd hr fun _ => List.not_mem_nil)) ?_))))
            | (first | ((((refine' Ef_appG_row (news := mE _) rfl rfl rfl ?q1 ?q2 ?q3 (mE_one _) ?q4 ?q5 ?_); (case q1 => exact app_of rfl); (case q2 => (first | exact at0 | exact at1 | exact at2 | exact at3 | exact at4 | exact at5 | exact at6)); (case q3 => (repeat (first | exact .head _ | apply List.Mem.tail))); (case q4 => omega); (case q5 => omega))); (first | ((fail_if_success have := A1); intro A1 c1) | ((fail_if_success have := A2); intro A2 c2) | intro _ _)))
            | refine w1 ?_
            | (refine w2 ?_ ?_ <;> intro hc)
            | (refine w4 ?_; (first | ((fail_if_success have := b1); intro b1) | intro _))
            | (refine w5 ?_; (first | ((fail_if_success have := A1); intro A1 c1) | ((fail_if_success have := A2); intro A2 c2) | intro _ _))
            | refine w3 ?_ ?_
            | fail_if_success skip)
        exact ret_n [rD W (A1, c1)] (res2 rfl rfl rfl) (by (repeat (first | exact List.nil_sublist _ | refine List.Sublist.cons_cons _ ?_ | refine List.Sublist.cons _ ?_))) ⟨(A1, c1), rfl, rfl⟩
end
end Go.Proofs.Ythiacfpfgdoliaa
