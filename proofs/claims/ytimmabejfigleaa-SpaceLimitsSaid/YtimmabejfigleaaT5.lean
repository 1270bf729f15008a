/- The document's Get, its pairs without a key, Put: what a call of each comes to. -/
import Derived.Test.YtimmabejfigleaaT4
import Derived.Test.YtimmabejfigleaaKt
namespace Go.Proofs.Ytimmabejfigleaa
open Go.RowKit
set_option maxRecDepth 20000

theorem q_build2 (a b : ByteArray) (w : World) : (Instr.build 67 #[(0, .string a), (1, .string b)]).run Try.prog w = .ok (.agg (pE (a, b)).toArray) w := by kernel_rfl
theorem r_build0 (w : World) : (Instr.build 24 #[]).run Try.prog w = .ok (.agg (sV 0 0 (none, 0) 0)) w := by kernel_rfl
theorem r_build2 (a b : Int) (w : World) : (Instr.build 24 #[(0, .int .i64 a), (1, .int .i64 b)]).run Try.prog w = .ok (.agg (sV a b (none, 0) 0)) w := by kernel_rfl
/-- A row of the document's pairs. -/
def rQ (l : List Pr) (z : Option Addr × Nat) : Asrt := .row 67 2 (.slice z.1 l.length z.2) l.length (l.flatMap pE)

section
variable (A : Option Addr) (len cap : Nat) (l : List Pr) (w : World) (hr : Rd w A len 2 (l.flatMap pE)) (hl : l.length = len) (hle : len ≤ 300)
include hr hl hle
set_option maxHeartbeats 2000000 in
theorem rget_c (k y : Int) (key : ByteArray) : Sp Try.prog 27 [.agg (sV k y (A, cap) len), .string key] w [] fun v N => v = .tuple #[.string (Ks.getR k y l key).1, .int .i64 (Ks.getR k y l key).2] ∧ N = [] := by
  cases h1 : Ks.may k y l with
  | false =>
    have en : Ks.getR k y l key = (Ks.e, 2) := by unfold Ks.getR; rw [h1]; rfl
    rw [en]
    have hma := fun w h => rmay_v A len cap l w h hl (by omega) k y false h1
    refine Sp.enter (n := 36) Try.func27 rfl rfl rfl (Hp.refl w) ?_
    repeat' (first    | ((with_reducible refine ie_callf ?_); (first | ((with_reducible refine g_call 30 ?_); (first | refine Ef_callP rfl rfl ent_30 (fun w hp => hma w (hp.rd hr fun _ => List.not_mem_nil)) ?_)) | ((with_reducible refine g_call 40 ?_); (first | refine Ef_callP rfl rfl ent_40 (fun w _ => hky w) ?_))))   | ((with_reducible refine g_draw ?_); (first | (((refine' T.drawB (id := 12) (.y 0 (.y 2 (.y 3 (.y 4 (.y 5 (.b 1 (.run [(6, false), (7, false), (8, true), (9, false)]) 6 (.run [(1, false), (7, false), (8, true), (9, false)]))))))) [rQ (Ks.rest l key) (A1, c1)] mixd ?q1 ?q2 ?_); (case q1 => kernel_rfl); (case q2 => (repeat (first | exact List.nil_sublist _ | refine List.Sublist.cons_cons _ ?_ | refine List.Sublist.cons _ ?_))))))) | refine w1 ?_ | (refine w2 ?_ ?_ <;> intro hc)  | (refine w4 ?_; (first | ((fail_if_success have := b1); intro b1) | intro _)) | (refine w5 ?_; (first | ((fail_if_success have := A1); intro A1 c1) | intro _ _)) | refine w3 ?_ ?_ | fail_if_success skip)
    exact ret_n [] (res2 rfl rfl rfl) (List.nil_sublist _) ⟨rfl, rfl⟩
  | true =>
    have hma := fun w h => rmay_v A len cap l w h hl (by omega) k y true h1
    have hso := ((Ks.may_iff _ _ _).1 h1).so
    by_cases hk : 1 ≤ key.size ∧ key.size ≤ 24
    · have hky := fun w => key_v key true w (decide_eq_true hk)
      have hpr : Ks.pr (key, Ks.e) = true := decide_eq_true ⟨hk.1, hk.2, show Ks.e.size ≤ 64 by decide⟩
      refine Sp.enter (n := 36) Try.func27 rfl rfl rfl (Hp.refl w) ?_
      repeat' (first    | ((with_reducible refine ie_callf ?_); (first | ((with_reducible refine g_call 30 ?_); (first | refine Ef_callP rfl rfl ent_30 (fun w hp => hma w (hp.rd hr fun _ => List.not_mem_nil)) ?_)) | ((with_reducible refine g_call 40 ?_); (first | refine Ef_callP rfl rfl ent_40 (fun w _ => hky w) ?_))))   | ((with_reducible refine g_draw ?_); (first | (((refine' T.drawB (id := 12) (.y 0 (.y 2 (.y 3 (.y 4 (.y 5 (.b 1 (.run [(6, false), (7, false), (8, true), (9, false)]) 6 (.run [(1, false), (7, false), (8, true), (9, false)]))))))) [rQ (Ks.rest l key) (A1, c1)] mixd ?q1 ?q2 ?_); (case q1 => kernel_rfl); (case q2 => (repeat (first | exact List.nil_sublist _ | refine List.Sublist.cons_cons _ ?_ | refine List.Sublist.cons _ ?_))))))) | refine w1 ?_ | (refine w2 ?_ ?_ <;> intro hc)  | (refine w4 ?_; (first | ((fail_if_success have := b1); intro b1) | intro _)) | (refine w5 ?_; (first | ((fail_if_success have := A1); intro A1 c1) | intro _ _)) | refine w3 ?_ ?_ | fail_if_success skip)
      refine T.loop (α := Nat) (fun i => [(1, .string key), (2, .pointer (some ⟨b1, 0, none⟩)), (6, .int .i64 (i : Int))]) (fun _ => [.blk b1 (.cells (sV k y (A, cap) len) 24 (0, 0))]) (fun i => i ≤ len ∧ ∀ x ∈ l.take i, ¬ x.1 = key) (fun i => len - i) 0 ?_ ?_ ?_ ?_
      · (repeat (first | exact Sub.nil | refine Sub.cons rfl ?_))
      · (repeat (first | exact List.nil_sublist _ | refine List.Sublist.cons_cons _ ?_ | refine List.Sublist.cons _ ?_))
      · exact ⟨Nat.zero_le _, by simp⟩
      · rintro i ⟨hi, hno⟩
        by_cases hlt : i < len
        · obtain ⟨x, hx⟩ := some_of_lt (l := l) (i := i) (by omega)
          have e0 := enc_at pE_len hx (j := 0) (by decide)
          have e1 := enc_at pE_len hx (j := 1) (by decide)
          by_cases hxk : x.1 = key
          · have en : Ks.getR k y l key = (x.2, 0) := by unfold Ks.getR; rw [h1, hpr, ← hxk, Ks.get_mem hso (mem_of_some hx)]; rfl
            rw [en]
            repeat' (first    | ((with_reducible refine ie_callf ?_); (first | ((with_reducible refine g_call 30 ?_); (first | refine Ef_callP rfl rfl ent_30 (fun w hp => hma w (hp.rd hr fun _ => List.not_mem_nil)) ?_)) | ((with_reducible refine g_call 40 ?_); (first | refine Ef_callP rfl rfl ent_40 (fun w _ => hky w) ?_))))   | ((with_reducible refine g_draw ?_); (first | (((refine' T.drawB (id := 12) (.y 0 (.y 2 (.y 3 (.y 4 (.y 5 (.b 1 (.run [(6, false), (7, false), (8, true), (9, false)]) 6 (.run [(1, false), (7, false), (8, true), (9, false)]))))))) [rQ (Ks.rest l key) (A1, c1)] mixd ?q1 ?q2 ?_); (case q1 => kernel_rfl); (case q2 => (repeat (first | exact List.nil_sublist _ | refine List.Sublist.cons_cons _ ?_ | refine List.Sublist.cons _ ?_))))))) | refine w1 ?_ | (refine w2 ?_ ?_ <;> intro hc)  | (refine w4 ?_; (first | ((fail_if_success have := b1); intro b1) | intro _)) | (refine w5 ?_; (first | ((fail_if_success have := A1); intro A1 c1) | intro _ _)) | refine w3 ?_ ?_ | fail_if_success skip)
            exact ret_n [] (res2 rfl rfl rfl) (List.nil_sublist _) ⟨rfl, rfl⟩
          · repeat' (first    | ((with_reducible refine ie_callf ?_); (first | ((with_reducible refine g_call 30 ?_); (first | refine Ef_callP rfl rfl ent_30 (fun w hp => hma w (hp.rd hr fun _ => List.not_mem_nil)) ?_)) | ((with_reducible refine g_call 40 ?_); (first | refine Ef_callP rfl rfl ent_40 (fun w _ => hky w) ?_))))   | ((with_reducible refine g_draw ?_); (first | (((refine' T.drawB (id := 12) (.y 0 (.y 2 (.y 3 (.y 4 (.y 5 (.b 1 (.run [(6, false), (7, false), (8, true), (9, false)]) 6 (.run [(1, false), (7, false), (8, true), (9, false)]))))))) [rQ (Ks.rest l key) (A1, c1)] mixd ?q1 ?q2 ?_); (case q1 => kernel_rfl); (case q2 => (repeat (first | exact List.nil_sublist _ | refine List.Sublist.cons_cons _ ?_ | refine List.Sublist.cons _ ?_))))))) | refine w1 ?_ | (refine w2 ?_ ?_ <;> intro hc)  | (refine w4 ?_; (first | ((fail_if_success have := b1); intro b1) | intro _)) | (refine w5 ?_; (first | ((fail_if_success have := A1); intro A1 c1) | intro _ _)) | refine w3 ?_ ?_ | fail_if_success skip)
            refine loopQ_n (i + 1) ?_ ?_ ⟨by (first | omega | (dsimp only; omega) | (simp; omega)), fun z hz => ?_⟩ (by (first | omega | (dsimp only; omega) | (simp; omega)))
            · (repeat (first | exact Sub.nil | refine Sub.cons rfl ?_))
            · (repeat (first | exact List.nil_sublist _ | refine List.Sublist.cons_cons _ ?_ | refine List.Sublist.cons _ ?_))
            · rw [take_snoc hx] at hz
              rcases List.mem_append.1 hz with hz | hz
              · exact hno z hz
              · rw [List.mem_singleton.1 hz]; exact hxk
        · rw [List.take_of_length_le (by omega)] at hno
          have en : Ks.getR k y l key = (Ks.e, 110) := by unfold Ks.getR; rw [h1, hpr, Ks.get_not hso hno]; rfl
          rw [en]
          repeat' (first    | ((with_reducible refine ie_callf ?_); (first | ((with_reducible refine g_call 30 ?_); (first | refine Ef_callP rfl rfl ent_30 (fun w hp => hma w (hp.rd hr fun _ => List.not_mem_nil)) ?_)) | ((with_reducible refine g_call 40 ?_); (first | refine Ef_callP rfl rfl ent_40 (fun w _ => hky w) ?_))))   | ((with_reducible refine g_draw ?_); (first | (((refine' T.drawB (id := 12) (.y 0 (.y 2 (.y 3 (.y 4 (.y 5 (.b 1 (.run [(6, false), (7, false), (8, true), (9, false)]) 6 (.run [(1, false), (7, false), (8, true), (9, false)]))))))) [rQ (Ks.rest l key) (A1, c1)] mixd ?q1 ?q2 ?_); (case q1 => kernel_rfl); (case q2 => (repeat (first | exact List.nil_sublist _ | refine List.Sublist.cons_cons _ ?_ | refine List.Sublist.cons _ ?_))))))) | refine w1 ?_ | (refine w2 ?_ ?_ <;> intro hc)  | (refine w4 ?_; (first | ((fail_if_success have := b1); intro b1) | intro _)) | (refine w5 ?_; (first | ((fail_if_success have := A1); intro A1 c1) | intro _ _)) | refine w3 ?_ ?_ | fail_if_success skip)
          exact ret_n [] (res2 rfl rfl rfl) (List.nil_sublist _) ⟨rfl, rfl⟩
    · have hky := fun w => key_v key false w (decide_eq_false hk)
      have en : Ks.getR k y l key = (Ks.e, 2) := by unfold Ks.getR Ks.pr; rw [decide_eq_false (fun h => hk ⟨h.1, h.2.1⟩), Bool.and_false]; rfl
      rw [en]
      refine Sp.enter (n := 36) Try.func27 rfl rfl rfl (Hp.refl w) ?_
      repeat' (first    | ((with_reducible refine ie_callf ?_); (first | ((with_reducible refine g_call 30 ?_); (first | refine Ef_callP rfl rfl ent_30 (fun w hp => hma w (hp.rd hr fun _ => List.not_mem_nil)) ?_)) | ((with_reducible refine g_call 40 ?_); (first | refine Ef_callP rfl rfl ent_40 (fun w _ => hky w) ?_))))   | ((with_reducible refine g_draw ?_); (first | (((refine' T.drawB (id := 12) (.y 0 (.y 2 (.y 3 (.y 4 (.y 5 (.b 1 (.run [(6, false), (7, false), (8, true), (9, false)]) 6 (.run [(1, false), (7, false), (8, true), (9, false)]))))))) [rQ (Ks.rest l key) (A1, c1)] mixd ?q1 ?q2 ?_); (case q1 => kernel_rfl); (case q2 => (repeat (first | exact List.nil_sublist _ | refine List.Sublist.cons_cons _ ?_ | refine List.Sublist.cons _ ?_))))))) | refine w1 ?_ | (refine w2 ?_ ?_ <;> intro hc)  | (refine w4 ?_; (first | ((fail_if_success have := b1); intro b1) | intro _)) | (refine w5 ?_; (first | ((fail_if_success have := A1); intro A1 c1) | intro _ _)) | refine w3 ?_ ?_ | fail_if_success skip)
      exact ret_n [] (res2 rfl rfl rfl) (List.nil_sublist _) ⟨rfl, rfl⟩

theorem without_c (key : ByteArray) (hso : l.Pairwise fun a b => Ks.lt a.1 b.1 = true) : Sp Try.prog 42 [.slice A len cap, .string key] w [] fun v N => ∃ z : Option Addr × Nat, v = .slice z.1 (Ks.rest l key).length z.2 ∧ N = [rQ (Ks.rest l key) z] := by
  rw [← Ks.rest_filter hso]
  generalize hf : (fun p : Pr => !decide (p.1 = key)) = f
  refine Sp.enter (n := 28) Try.func42 rfl rfl rfl (Hp.refl w) ?_
  refine T.row0e 67 2 ?_
  repeat' (first       | ((with_reducible refine g_draw ?_); (first | (((refine' T.drawB (id := 12) (.y 0 (.y 2 (.y 3 (.y 4 (.y 5 (.b 1 (.run [(6, false), (7, false), (8, true), (9, false)]) 6 (.run [(1, false), (7, false), (8, true), (9, false)]))))))) [rQ (Ks.rest l key) (A1, c1)] mixd ?q1 ?q2 ?_); (case q1 => kernel_rfl); (case q2 => (repeat (first | exact List.nil_sublist _ | refine List.Sublist.cons_cons _ ?_ | refine List.Sublist.cons _ ?_))))))) | refine w1 ?_ | (refine w2 ?_ ?_ <;> intro hc)  | (refine w4 ?_; (intro _)) | (refine w5 ?_; (first | ((fail_if_success have := A1); intro A1 c1) | ((fail_if_success have := A2); intro A2 c2) | intro _ _)) | refine w3 ?_ ?_ | fail_if_success skip)
  refine T.loop (α := Nat × Option Addr × Nat) (fun z => [(0, .slice A len cap), (1, .string key), (5, .slice z.2.1 ((l.take z.1).filter f).length z.2.2), (6, .int .i64 (z.1 : Int))]) (fun z => [rQ ((l.take z.1).filter f) z.2]) (fun z => z.1 ≤ len) (fun z => len - z.1) (0, none, 0) ?_ ?_ ?_ ?_
  · (repeat (first | exact Sub.nil | refine Sub.cons rfl ?_))
  · (repeat (first | exact List.nil_sublist _ | refine List.Sublist.cons_cons _ ?_ | refine List.Sublist.cons _ ?_))
  · exact Nat.zero_le _
  · rintro ⟨i, A1, c1⟩ hi
    dsimp only at hi ⊢
    have hfl : ((l.take i).filter f).length ≤ i := Nat.le_trans (List.length_filter_le _ _) (by rw [List.length_take]; omega)
    by_cases hlt : i < len
    · obtain ⟨x, hx⟩ := some_of_lt (l := l) (i := i) (by omega)
      have e0 := enc_at pE_len hx (j := 0) (by decide)
      have eA := enc_atA pE_len hx
      have oX := pE_one x
      by_cases hxk : x.1 = key
      · have e1 : (l.take (i + 1)).filter f = (l.take i).filter f := by rw [take_snoc hx, List.filter_append, ← hf]; simp [hxk]
        repeat' (first       | ((with_reducible refine g_draw ?_); (first | (((refine' T.drawB (id := 12) (.y 0 (.y 2 (.y 3 (.y 4 (.y 5 (.b 1 (.run [(6, false), (7, false), (8, true), (9, false)]) 6 (.run [(1, false), (7, false), (8, true), (9, false)]))))))) [rQ (Ks.rest l key) (A1, c1)] mixd ?q1 ?q2 ?_); (case q1 => kernel_rfl); (case q2 => (repeat (first | exact List.nil_sublist _ | refine List.Sublist.cons_cons _ ?_ | refine List.Sublist.cons _ ?_))))))) | refine w1 ?_ | (refine w2 ?_ ?_ <;> intro hc)  | (refine w4 ?_; (intro _)) | (refine w5 ?_; (first | ((fail_if_success have := A1); intro A1 c1) | ((fail_if_success have := A2); intro A2 c2) | intro _ _)) | refine w3 ?_ ?_ | fail_if_success skip)
        refine loopQ_n (i + 1, A1, c1) ?_ ?_ (show i + 1 ≤ len by omega) (show len - (i + 1) < len - i by omega)
        · rw [e1]; (repeat (first | exact Sub.nil | refine Sub.cons rfl ?_))
        · rw [e1]; (repeat (first | exact List.nil_sublist _ | refine List.Sublist.cons_cons _ ?_ | refine List.Sublist.cons _ ?_))
      · have e1 : (l.take (i + 1)).filter f = (l.take i).filter f ++ [x] := by rw [take_snoc hx, List.filter_append, ← hf]; simp [hxk]
        repeat' (first       | ((with_reducible refine g_draw ?_); (first | (((refine' T.drawB (id := 12) (.y 0 (.y 2 (.y 3 (.y 4 (.y 5 (.b 1 (.run [(6, false), (7, false), (8, true), (9, false)]) 6 (.run [(1, false), (7, false), (8, true), (9, false)]))))))) [rQ (Ks.rest l key) (A1, c1)] mixd ?q1 ?q2 ?_); (case q1 => kernel_rfl); (case q2 => (repeat (first | exact List.nil_sublist _ | refine List.Sublist.cons_cons _ ?_ | refine List.Sublist.cons _ ?_))))))) | refine w1 ?_ | (refine w2 ?_ ?_ <;> intro hc)  | (refine w4 ?_; (intro _)) | (refine w5 ?_; (first | ((fail_if_success have := A1); intro A1 c1) | ((fail_if_success have := A2); intro A2 c2) | intro _ _)) | refine w3 ?_ ?_ | fail_if_success skip)
        refine loopQ_n (i + 1, A2, c2) ?_ ?_ (show i + 1 ≤ len by omega) (show len - (i + 1) < len - i by omega)
        · rw [e1, List.length_append]; (repeat (first | exact Sub.nil | refine Sub.cons rfl ?_))
        · unfold rQ
          rw [e1, List.length_append, pE_snoc]; (repeat (first | exact List.nil_sublist _ | refine List.Sublist.cons_cons _ ?_ | refine List.Sublist.cons _ ?_))
    · rw [List.take_of_length_le (by omega)]
      repeat' (first       | ((with_reducible refine g_draw ?_); (first | (((refine' T.drawB (id := 12) (.y 0 (.y 2 (.y 3 (.y 4 (.y 5 (.b 1 (.run [(6, false), (7, false), (8, true), (9, false)]) 6 (.run [(1, false), (7, false), (8, true), (9, false)]))))))) [rQ (Ks.rest l key) (A1, c1)] mixd ?q1 ?q2 ?_); (case q1 => kernel_rfl); (case q2 => (repeat (first | exact List.nil_sublist _ | refine List.Sublist.cons_cons _ ?_ | refine List.Sublist.cons _ ?_))))))) | refine w1 ?_ | (refine w2 ?_ ?_ <;> intro hc)  | (refine w4 ?_; (intro _)) | (refine w5 ?_; (first | ((fail_if_success have := A1); intro A1 c1) | ((fail_if_success have := A2); intro A2 c2) | intro _ _)) | refine w3 ?_ ?_ | fail_if_success skip)
      exact ret_n [rQ (l.filter f) (A1, c1)] (res1 rfl rfl) (by (repeat (first | exact List.nil_sublist _ | refine List.Sublist.cons_cons _ ?_ | refine List.Sublist.cons _ ?_))) ⟨(A1, c1), rfl, rfl⟩

set_option maxHeartbeats 4000000 in
theorem rput_c (k y : Int) (key v : ByteArray) : Sp Try.prog 22 [.agg (sV k y (A, cap) len), .string key, .string v] w [] fun r N => ∃ z : Option Addr × Nat, r = .tuple #[.agg (sV (Ks.putR k y l key v).1 (Ks.putR k y l key v).2.1 z (Ks.putR k y l key v).2.2.1.length), .int .i64 (Ks.putR k y l key v).2.2.2] ∧ N = [rQ (Ks.putR k y l key v).2.2.1 z] := by
  by_cases hbad : Ks.may k y l = false ∨ (Ks.may k y l = true ∧ ¬ (1 ≤ key.size ∧ key.size ≤ 24)) ∨ (Ks.may k y l = true ∧ (1 ≤ key.size ∧ key.size ≤ 24) ∧ ¬ v.size ≤ 64)
  · have en : Ks.putR k y l key v = (0, 0, [], 2) := by
      unfold Ks.putR Ks.pr
      rcases hbad with h | ⟨h, h2⟩ | ⟨h, h2, h3⟩
      · rw [h]; rfl
      · rw [decide_eq_false (fun h => h2 ⟨h.1, h.2.1⟩), Bool.and_false]; rfl
      · rw [decide_eq_false (fun h => h3 h.2.2), Bool.and_false]; rfl
    rw [en]
    rcases hbad with h | ⟨h, h2⟩ | ⟨h, h2, h3⟩
    · have hma := fun w h2 => rmay_v A len cap l w h2 hl (by omega) k y false h
      refine Sp.enter (n := 95) Try.func22 rfl rfl rfl (Hp.refl w) ?_
      refine T.row0e 67 2 ?_
      repeat' (first
          | ((with_reducible refine is_build ?_); (first | refine ⟨_, Yl_build rfl (q_build2 _ _), ?_⟩ | refine ⟨_, Yl_build rfl (r_build2 _ _), ?_⟩ | refine ⟨_, Yl_build rfl r_build0, ?_⟩))
          | ((with_reducible refine ie_store ?_); (first | ((refine' Ef_storeC (C' := sV k y (A4, c4) (m + 1 + 1)) rfl rfl ?q1 ?q2 ?q3 ?q4 ?q5 ?_); (case q1 => rfl); (case q2 => exact siz_of rfl); (case q3 => (first | exact at0 | exact at1 | exact at2 | exact at3 | exact at4 | exact at5 | exact at6)); (case q4 => exact Nat.le_of_ble_eq_true rfl); (case q5 => rfl)) | ((refine' Ef_storeC (C' := sV k y (A3, c3) (m + 1)) rfl rfl ?q1 ?q2 ?q3 ?q4 ?q5 ?_); (case q1 => rfl); (case q2 => exact siz_of rfl); (case q3 => (first | exact at0 | exact at1 | exact at2 | exact at3 | exact at4 | exact at5 | exact at6)); (case q4 => exact Nat.le_of_ble_eq_true rfl); (case q5 => rfl))))
          | ((with_reducible refine ie_callf ?_); (first | ((with_reducible refine g_call 30 ?_); (first | refine Ef_callP rfl rfl ent_30 (fun w hp => hma w (hp.rd hr fun _ => List.not_mem_nil)) ?_)) | ((with_reducible refine g_call 40 ?_); (first | refine Ef_callP rfl rfl ent_40 (fun w _ => hky w) ?_)) | ((with_reducible refine g_call 41 ?_); (first | refine Ef_callP rfl rfl ent_41 (fun w _ => hva w) ?_)) | ((with_reducible refine g_call 42 ?_); (first | (refine Ef_callN rfl rfl ent_42 (fun w hp => hwo w (hp.rd hr fun _ => List.not_mem_nil)) ?_; rintro ⟨A1, c1⟩))) | ((with_reducible refine g_call 31 ?_); (first | ((refine' Ef_callP rfl rfl ent_31 (fun w hp => hcn _ _ w (hp.rowOf ?q1)) ?_); (case q1 => (repeat (first | exact .head _ | apply List.Mem.tail))))))))
          | ((with_reducible refine g_draw ?_); (first | (((refine' T.drawB (id := 12) (.y 0 (.y 2 (.y 3 (.y 4 (.y 5 (.b 1 (.run [(6, false), (7, false), (8, true), (9, false)]) 6 (.run [(1, false), (7, false), (8, true), (9, false)]))))))) [rQ (Ks.rest l key) (A1, c1)] mixd ?q1 ?q2 ?_); (case q1 => kernel_rfl); (case q2 => (repeat (first | exact List.nil_sublist _ | refine List.Sublist.cons_cons _ ?_ | refine List.Sublist.cons _ ?_))))) | (((with_reducible refine' T.drawM (id := 15) [(0, true), (1, true), (2, true), (3, false), (4, false), (5, false), (6, false), (7, true), (8, true), (10, true), (11, true), (9, false), (12, false), (13, false)] mixd ?q1 ?_); (case q1 => kernel_rfl)))))
          | refine w1 ?_
          | (refine w2 ?_ ?_ <;> intro hc)
          | (refine w4 ?_; (first | ((fail_if_success have := b1); intro b1) | ((fail_if_success have := b2); intro b2) | ((fail_if_success have := b3); intro b3) | intro _))
          | (refine w5 ?_; (first | ((fail_if_success have := A1); intro A1 c1) | ((fail_if_success have := A2); intro A2 c2) | ((fail_if_success have := A3); intro A3 c3) | ((fail_if_success have := A4); intro A4 c4) | intro _ _))
          | refine w3 ?_ ?_
          | fail_if_success skip)
      exact ret_n [rQ [] (none, 0)] (resC1 rfl rfl rfl (by (repeat (first | exact .head _ | apply List.Mem.tail))) (agg_of rfl)) (by (repeat (first | exact List.nil_sublist _ | refine List.Sublist.cons_cons _ ?_ | refine List.Sublist.cons _ ?_))) ⟨(none, 0), rfl, rfl⟩
    · have hma := fun w h2 => rmay_v A len cap l w h2 hl (by omega) k y true h
      have hky := fun w => key_v key false w (decide_eq_false h2)
      refine Sp.enter (n := 95) Try.func22 rfl rfl rfl (Hp.refl w) ?_
      refine T.row0e 67 2 ?_
      repeat' (first
          | ((with_reducible refine is_build ?_); (first | refine ⟨_, Yl_build rfl (q_build2 _ _), ?_⟩ | refine ⟨_, Yl_build rfl (r_build2 _ _), ?_⟩ | refine ⟨_, Yl_build rfl r_build0, ?_⟩))
          | ((with_reducible refine ie_store ?_); (first | ((refine' Ef_storeC (C' := sV k y (A4, c4) (m + 1 + 1)) rfl rfl ?q1 ?q2 ?q3 ?q4 ?q5 ?_); (case q1 => rfl); (case q2 => exact siz_of rfl); (case q3 => (first | exact at0 | exact at1 | exact at2 | exact at3 | exact at4 | exact at5 | exact at6)); (case q4 => exact Nat.le_of_ble_eq_true rfl); (case q5 => rfl)) | ((refine' Ef_storeC (C' := sV k y (A3, c3) (m + 1)) rfl rfl ?q1 ?q2 ?q3 ?q4 ?q5 ?_); (case q1 => rfl); (case q2 => exact siz_of rfl); (case q3 => (first | exact at0 | exact at1 | exact at2 | exact at3 | exact at4 | exact at5 | exact at6)); (case q4 => exact Nat.le_of_ble_eq_true rfl); (case q5 => rfl))))
          | ((with_reducible refine ie_callf ?_); (first | ((with_reducible refine g_call 30 ?_); (first | refine Ef_callP rfl rfl ent_30 (fun w hp => hma w (hp.rd hr fun _ => List.not_mem_nil)) ?_)) | ((with_reducible refine g_call 40 ?_); (first | refine Ef_callP rfl rfl ent_40 (fun w _ => hky w) ?_)) | ((with_reducible refine g_call 41 ?_); (first | refine Ef_callP rfl rfl ent_41 (fun w _ => hva w) ?_)) | ((with_reducible refine g_call 42 ?_); (first | (refine Ef_callN rfl rfl ent_42 (fun w hp => hwo w (hp.rd hr fun _ => List.not_mem_nil)) ?_; rintro ⟨A1, c1⟩))) | ((with_reducible refine g_call 31 ?_); (first | ((refine' Ef_callP rfl rfl ent_31 (fun w hp => hcn _ _ w (hp.rowOf ?q1)) ?_); (case q1 => (repeat (first | exact .head _ | apply List.Mem.tail))))))))
          | ((with_reducible refine g_draw ?_); (first | (((refine' T.drawB (id := 12) (.y 0 (.y 2 (.y 3 (.y 4 (.y 5 (.b 1 (.run [(6, false), (7, false), (8, true), (9, false)]) 6 (.run [(1, false), (7, false), (8, true), (9, false)]))))))) [rQ (Ks.rest l key) (A1, c1)] mixd ?q1 ?q2 ?_); (case q1 => kernel_rfl); (case q2 => (repeat (first | exact List.nil_sublist _ | refine List.Sublist.cons_cons _ ?_ | refine List.Sublist.cons _ ?_))))) | (((with_reducible refine' T.drawM (id := 15) [(0, true), (1, true), (2, true), (3, false), (4, false), (5, false), (6, false), (7, true), (8, true), (10, true), (11, true), (9, false), (12, false), (13, false)] mixd ?q1 ?_); (case q1 => kernel_rfl)))))
          | refine w1 ?_
          | (refine w2 ?_ ?_ <;> intro hc)
          | (refine w4 ?_; (first | ((fail_if_success have := b1); intro b1) | ((fail_if_success have := b2); intro b2) | ((fail_if_success have := b3); intro b3) | intro _))
          | (refine w5 ?_; (first | ((fail_if_success have := A1); intro A1 c1) | ((fail_if_success have := A2); intro A2 c2) | ((fail_if_success have := A3); intro A3 c3) | ((fail_if_success have := A4); intro A4 c4) | intro _ _))
          | refine w3 ?_ ?_
          | fail_if_success skip)
      exact ret_n [rQ [] (none, 0)] (resC1 rfl rfl rfl (by (repeat (first | exact .head _ | apply List.Mem.tail))) (agg_of rfl)) (by (repeat (first | exact List.nil_sublist _ | refine List.Sublist.cons_cons _ ?_ | refine List.Sublist.cons _ ?_))) ⟨(none, 0), rfl, rfl⟩
    · have hma := fun w h2 => rmay_v A len cap l w h2 hl (by omega) k y true h
      have hky := fun w => key_v key true w (decide_eq_true h2)
      have hva := fun w => val_v v false w (decide_eq_false h3)
      refine Sp.enter (n := 95) Try.func22 rfl rfl rfl (Hp.refl w) ?_
      refine T.row0e 67 2 ?_
      repeat' (first
          | ((with_reducible refine is_build ?_); (first | refine ⟨_, Yl_build rfl (q_build2 _ _), ?_⟩ | refine ⟨_, Yl_build rfl (r_build2 _ _), ?_⟩ | refine ⟨_, Yl_build rfl r_build0, ?_⟩))
          | ((with_reducible refine ie_store ?_); (first | ((refine' Ef_storeC (C' := sV k y (A4, c4) (m + 1 + 1)) rfl rfl ?q1 ?q2 ?q3 ?q4 ?q5 ?_); (case q1 => rfl); (case q2 => exact siz_of rfl); (case q3 => (first | exact at0 | exact at1 | exact at2 | exact at3 | exact at4 | exact at5 | exact at6)); (case q4 => exact Nat.le_of_ble_eq_true rfl); (case q5 => rfl)) | ((refine' Ef_storeC (C' := sV k y (A3, c3) (m + 1)) rfl rfl ?q1 ?q2 ?q3 ?q4 ?q5 ?_); (case q1 => rfl); (case q2 => exact siz_of rfl); (case q3 => (first | exact at0 | exact at1 | exact at2 | exact at3 | exact at4 | exact at5 | exact at6)); (case q4 => exact Nat.le_of_ble_eq_true rfl); (case q5 => rfl))))
          | ((with_reducible refine ie_callf ?_); (first | ((with_reducible refine g_call 30 ?_); (first | refine Ef_callP rfl rfl ent_30 (fun w hp => hma w (hp.rd hr fun _ => List.not_mem_nil)) ?_)) | ((with_reducible refine g_call 40 ?_); (first | refine Ef_callP rfl rfl ent_40 (fun w _ => hky w) ?_)) | ((with_reducible refine g_call 41 ?_); (first | refine Ef_callP rfl rfl ent_41 (fun w _ => hva w) ?_)) | ((with_reducible refine g_call 42 ?_); (first | (refine Ef_callN rfl rfl ent_42 (fun w hp => hwo w (hp.rd hr fun _ => List.not_mem_nil)) ?_; rintro ⟨A1, c1⟩))) | ((with_reducible refine g_call 31 ?_); (first | ((refine' Ef_callP rfl rfl ent_31 (fun w hp => hcn _ _ w (hp.rowOf ?q1)) ?_); (case q1 => (repeat (first | exact .head _ | apply List.Mem.tail))))))))
          | ((with_reducible refine g_draw ?_); (first | (((refine' T.drawB (id := 12) (.y 0 (.y 2 (.y 3 (.y 4 (.y 5 (.b 1 (.run [(6, false), (7, false), (8, true), (9, false)]) 6 (.run [(1, false), (7, false), (8, true), (9, false)]))))))) [rQ (Ks.rest l key) (A1, c1)] mixd ?q1 ?q2 ?_); (case q1 => kernel_rfl); (case q2 => (repeat (first | exact List.nil_sublist _ | refine List.Sublist.cons_cons _ ?_ | refine List.Sublist.cons _ ?_))))) | (((with_reducible refine' T.drawM (id := 15) [(0, true), (1, true), (2, true), (3, false), (4, false), (5, false), (6, false), (7, true), (8, true), (10, true), (11, true), (9, false), (12, false), (13, false)] mixd ?q1 ?_); (case q1 => kernel_rfl)))))
          | refine w1 ?_
          | (refine w2 ?_ ?_ <;> intro hc)
          | (refine w4 ?_; (first | ((fail_if_success have := b1); intro b1) | ((fail_if_success have := b2); intro b2) | ((fail_if_success have := b3); intro b3) | intro _))
          | (refine w5 ?_; (first | ((fail_if_success have := A1); intro A1 c1) | ((fail_if_success have := A2); intro A2 c2) | ((fail_if_success have := A3); intro A3 c3) | ((fail_if_success have := A4); intro A4 c4) | intro _ _))
          | refine w3 ?_ ?_
          | fail_if_success skip)
      exact ret_n [rQ [] (none, 0)] (resC1 rfl rfl rfl (by (repeat (first | exact .head _ | apply List.Mem.tail))) (agg_of rfl)) (by (repeat (first | exact List.nil_sublist _ | refine List.Sublist.cons_cons _ ?_ | refine List.Sublist.cons _ ?_))) ⟨(none, 0), rfl, rfl⟩
  have h1 : Ks.may k y l = true := by
    cases h : Ks.may k y l with
    | true => rfl
    | false => exact absurd (.inl h) hbad
  have h2 : 1 ≤ key.size ∧ key.size ≤ 24 := Classical.byContradiction fun h => hbad (.inr (.inl ⟨h1, h⟩))
  have h3 : v.size ≤ 64 := Classical.byContradiction fun h => hbad (.inr (.inr ⟨h1, h2, h⟩))
  clear hbad
  have hM := (Ks.may_iff _ _ _).1 h1
  have hma := fun w h2 => rmay_v A len cap l w h2 hl (by omega) k y true h1
  have hky := fun w => key_v key true w (decide_eq_true h2)
  have hva := fun w => val_v v true w (decide_eq_true h3)
  have hpr : Ks.pr (key, v) = true := decide_eq_true ⟨h2.1, h2.2, h3⟩
  have hwo := fun w h => without_c A len cap l w h hl hle key hM.so
  have e0 : Ks.putR k y l key v = Ks.fitR k y (Ks.put l key v) := by unfold Ks.putR; rw [h1, hpr]; rfl
  rw [e0]
  obtain ⟨g1, g2, g3⟩ := Ks.put_len l key v
  have hpall : ∀ x ∈ Ks.put l key v, Ks.pr x = true := fun x hx => by
    rcases List.mem_append.1 hx with hx | hx
    · exact hM.pr x (Ks.mem_lo.1 hx).1
    · rcases List.mem_cons.1 hx with rfl | hx
      · exact hpr
      · exact hM.pr x (Ks.mem_up.1 hx).1
  have hcb := Ks.cnt_pr hpall
  refine Sp.enter (n := 95) Try.func22 rfl rfl rfl (Hp.refl w) ?_
  refine T.row0e 67 2 ?_
  repeat' (first
      | ((with_reducible refine is_build ?_); (first | refine ⟨_, Yl_build rfl (q_build2 _ _), ?_⟩ | refine ⟨_, Yl_build rfl (r_build2 _ _), ?_⟩ | refine ⟨_, Yl_build rfl r_build0, ?_⟩))
      | ((with_reducible refine ie_store ?_); (first | ((refine' Ef_storeC (C' := sV k y (A4, c4) (m + 1 + 1)) rfl rfl ?q1 ?q2 ?q3 ?q4 ?q5 ?_); (case q1 => rfl); (case q2 => exact siz_of rfl); (case q3 => (first | exact at0 | exact at1 | exact at2 | exact at3 | exact at4 | exact at5 | exact at6)); (case q4 => exact Nat.le_of_ble_eq_true rfl); (case q5 => rfl)) | ((refine' Ef_storeC (C' := sV k y (A3, c3) (m + 1)) rfl rfl ?q1 ?q2 ?q3 ?q4 ?q5 ?_); (case q1 => rfl); (case q2 => exact siz_of rfl); (case q3 => (first | exact at0 | exact at1 | exact at2 | exact at3 | exact at4 | exact at5 | exact at6)); (case q4 => exact Nat.le_of_ble_eq_true rfl); (case q5 => rfl))))
      | ((with_reducible refine ie_callf ?_); (first | ((with_reducible refine g_call 30 ?_); (first | refine Ef_callP rfl rfl ent_30 (fun w hp => hma w (hp.rd hr fun _ => List.not_mem_nil)) ?_)) | ((with_reducible refine g_call 40 ?_); (first | refine Ef_callP rfl rfl ent_40 (fun w _ => hky w) ?_)) | ((with_reducible refine g_call 41 ?_); (first | refine Ef_callP rfl rfl ent_41 (fun w _ => hva w) ?_)) | ((with_reducible refine g_call 42 ?_); (first | (refine Ef_callN rfl rfl ent_42 (fun w hp => hwo w (hp.rd hr fun _ => List.not_mem_nil)) ?_; rintro ⟨A1, c1⟩))) | ((with_reducible refine g_call 31 ?_); (first | ((refine' Ef_callP rfl rfl ent_31 (fun w hp => hcn _ _ w (hp.rowOf ?q1)) ?_); (case q1 => (repeat (first | exact .head _ | apply List.Mem.tail))))))))
      | ((with_reducible refine g_draw ?_); (first | (((refine' T.drawB (id := 12) (.y 0 (.y 2 (.y 3 (.y 4 (.y 5 (.b 1 (.run [(6, false), (7, false), (8, true), (9, false)]) 6 (.run [(1, false), (7, false), (8, true), (9, false)]))))))) [rQ (Ks.rest l key) (A1, c1)] mixd ?q1 ?q2 ?_); (case q1 => kernel_rfl); (case q2 => (repeat (first | exact List.nil_sublist _ | refine List.Sublist.cons_cons _ ?_ | refine List.Sublist.cons _ ?_))))) | (((with_reducible refine' T.drawM (id := 15) [(0, true), (1, true), (2, true), (3, false), (4, false), (5, false), (6, false), (7, true), (8, true), (10, true), (11, true), (9, false), (12, false), (13, false)] mixd ?q1 ?_); (case q1 => kernel_rfl)))))
      | refine w1 ?_
      | (refine w2 ?_ ?_ <;> intro hc)
      | (refine w4 ?_; (first | ((fail_if_success have := b1); intro b1) | ((fail_if_success have := b2); intro b2) | ((fail_if_success have := b3); intro b3) | intro _))
      | (refine w5 ?_; (first | ((fail_if_success have := A1); intro A1 c1) | ((fail_if_success have := A2); intro A2 c2) | ((fail_if_success have := A3); intro A3 c3) | ((fail_if_success have := A4); intro A4 c4) | intro _ _))
      | refine w3 ?_ ?_
      | fail_if_success skip)
  refine T.part (M' := [.row 67 2 (.slice none 0 0) 0 [], .blk b3 (.cells (sV k y (none, 0) 0) 24 (0, 0)), rQ (Ks.rest l key) (A1, c1), .blk b2 (.cells (sV 0 0 (none, 0) 0) 24 (0, 0)), .blk b1 (.cells (sV k y (A, cap) len) 24 (0, 0))]) (by (repeat (first | exact Part.nil | refine Part.p0 ?_ | refine Part.p1 ?_ | refine Part.p2 ?_ | refine Part.p3 ?_ | refine Part.p4 ?_ | refine Part.p5 ?_ | refine Part.p6 ?_))) ?_
  refine T.loop (α := Nat × Nat × Bool × Option Addr × Nat) (fun z => [(1, .string key), (2, .string v), (3, .pointer (some ⟨b1, 0, none⟩)), (6, .pointer (some ⟨b2, 0, none⟩)), (8, .slice A1 (Ks.rest l key).length c1), (9, .pointer (some ⟨b3, 0, none⟩)), (10, .bool z.2.2.1), (11, .int .i64 (z.1 : Int))]) (fun z => [.row 67 2 (.slice z.2.2.2.1 z.2.1 z.2.2.2.2) z.2.1 (((Ks.put l key v).take z.2.1).flatMap pE), .blk b3 (.cells (sV k y z.2.2.2 z.2.1) 24 (0, 0)), rQ (Ks.rest l key) (A1, c1), .blk b2 (.cells (sV 0 0 (none, 0) 0) 24 (0, 0)), .blk b1 (.cells (sV k y (A, cap) len) 24 (0, 0))])
    (fun z => z.1 ≤ (Ks.rest l key).length ∧ ((z.2.2.1 = false ∧ z.2.1 = z.1 ∧ z.1 ≤ (Ks.lo l key).length) ∨ (z.2.2.1 = true ∧ z.2.1 = z.1 + 1 ∧ (Ks.lo l key).length < z.1))) (fun z => (Ks.rest l key).length - z.1) (0, 0, false, none, 0) ?_ ?_ ?_ ?_
  · (repeat (first | exact Sub.nil | refine Sub.cons rfl ?_))
  · (repeat (first | exact List.nil_sublist _ | refine List.Sublist.cons_cons _ ?_ | refine List.Sublist.cons _ ?_))
  · exact ⟨Nat.zero_le _, .inl ⟨rfl, rfl, Nat.zero_le _⟩⟩
  · rintro ⟨i, m, d, A2, c2⟩ ⟨hi, hd⟩
    dsimp only at hi hd ⊢
    by_cases hlt : i < (Ks.rest l key).length
    · obtain ⟨x, hx⟩ := some_of_lt (l := Ks.rest l key) (i := i) hlt
      have e0 := enc_at pE_len hx (j := 0) (by decide)
      have eA := enc_atA pE_len hx
      have oX := pE_one x
      have oK := pE_one (key, v)
      rcases hd with ⟨rfl, rfl, hq⟩ | ⟨rfl, rfl, hq⟩
      · by_cases hqi : m < (Ks.lo l key).length
        · rw [Ks.rest_put (v := v) hqi] at hx
          have hkx : Ks.lt key x.1 = false := Ks.lt_as (Ks.lo_at hqi hx)
          repeat' (first
              | ((with_reducible refine is_build ?_); (first | refine ⟨_, Yl_build rfl (q_build2 _ _), ?_⟩ | refine ⟨_, Yl_build rfl (r_build2 _ _), ?_⟩ | refine ⟨_, Yl_build rfl r_build0, ?_⟩))
              | ((with_reducible refine ie_store ?_); (first | ((refine' Ef_storeC (C' := sV k y (A4, c4) (m + 1 + 1)) rfl rfl ?q1 ?q2 ?q3 ?q4 ?q5 ?_); (case q1 => rfl); (case q2 => exact siz_of rfl); (case q3 => (first | exact at0 | exact at1 | exact at2 | exact at3 | exact at4 | exact at5 | exact at6)); (case q4 => exact Nat.le_of_ble_eq_true rfl); (case q5 => rfl)) | ((refine' Ef_storeC (C' := sV k y (A3, c3) (m + 1)) rfl rfl ?q1 ?q2 ?q3 ?q4 ?q5 ?_); (case q1 => rfl); (case q2 => exact siz_of rfl); (case q3 => (first | exact at0 | exact at1 | exact at2 | exact at3 | exact at4 | exact at5 | exact at6)); (case q4 => exact Nat.le_of_ble_eq_true rfl); (case q5 => rfl))))
              | ((with_reducible refine ie_callf ?_); (first | ((with_reducible refine g_call 30 ?_); (first | refine Ef_callP rfl rfl ent_30 (fun w hp => hma w (hp.rd hr fun _ => List.not_mem_nil)) ?_)) | ((with_reducible refine g_call 40 ?_); (first | refine Ef_callP rfl rfl ent_40 (fun w _ => hky w) ?_)) | ((with_reducible refine g_call 41 ?_); (first | refine Ef_callP rfl rfl ent_41 (fun w _ => hva w) ?_)) | ((with_reducible refine g_call 42 ?_); (first | (refine Ef_callN rfl rfl ent_42 (fun w hp => hwo w (hp.rd hr fun _ => List.not_mem_nil)) ?_; rintro ⟨A1, c1⟩))) | ((with_reducible refine g_call 31 ?_); (first | ((refine' Ef_callP rfl rfl ent_31 (fun w hp => hcn _ _ w (hp.rowOf ?q1)) ?_); (case q1 => (repeat (first | exact .head _ | apply List.Mem.tail))))))))
              | ((with_reducible refine g_draw ?_); (first | (((refine' T.drawB (id := 12) (.y 0 (.y 2 (.y 3 (.y 4 (.y 5 (.b 1 (.run [(6, false), (7, false), (8, true), (9, false)]) 6 (.run [(1, false), (7, false), (8, true), (9, false)]))))))) [rQ (Ks.rest l key) (A1, c1)] mixd ?q1 ?q2 ?_); (case q1 => kernel_rfl); (case q2 => (repeat (first | exact List.nil_sublist _ | refine List.Sublist.cons_cons _ ?_ | refine List.Sublist.cons _ ?_))))) | (((with_reducible refine' T.drawM (id := 15) [(0, true), (1, true), (2, true), (3, false), (4, false), (5, false), (6, false), (7, true), (8, true), (10, true), (11, true), (9, false), (12, false), (13, false)] mixd ?q1 ?_); (case q1 => kernel_rfl)))))
              | refine w1 ?_
              | (refine w2 ?_ ?_ <;> intro hc)
              | (refine w4 ?_; (first | ((fail_if_success have := b1); intro b1) | ((fail_if_success have := b2); intro b2) | ((fail_if_success have := b3); intro b3) | intro _))
              | (refine w5 ?_; (first | ((fail_if_success have := A1); intro A1 c1) | ((fail_if_success have := A2); intro A2 c2) | ((fail_if_success have := A3); intro A3 c3) | ((fail_if_success have := A4); intro A4 c4) | intro _ _))
              | refine w3 ?_ ?_
              | fail_if_success skip)
          all_goals
            refine loopQ_n (m + 1, m + 1, false, A3, c3) ?_ ?_ ⟨by (first | omega | (dsimp only; omega) | (simp; omega)), .inl ⟨rfl, rfl, by (first | omega | (dsimp only; omega) | (simp; omega))⟩⟩ (by (first | omega | (dsimp only; omega) | (simp; omega)))
            · (repeat (first | exact Sub.nil | refine Sub.cons rfl ?_))
            · rw [take_snoc hx, pE_snoc]
              (repeat (first | exact List.nil_sublist _ | refine List.Sublist.cons_cons _ ?_ | refine List.Sublist.cons _ ?_))
        · obtain rfl : m = (Ks.lo l key).length := by omega
          rw [Ks.rest_put2 (v := v) (Nat.le_refl _)] at hx
          have hkx : Ks.lt key x.1 = true := Ks.up_at (Nat.le_refl _) hx
          have hmd := Ks.put_mid l key v
          generalize (Ks.lo l key).length = m at hi hlt hx hmd e0 eA hq hqi g2 ⊢
          repeat' (first
              | ((with_reducible refine is_build ?_); (first | refine ⟨_, Yl_build rfl (q_build2 _ _), ?_⟩ | refine ⟨_, Yl_build rfl (r_build2 _ _), ?_⟩ | refine ⟨_, Yl_build rfl r_build0, ?_⟩))
              | ((with_reducible refine ie_store ?_); (first | ((refine' Ef_storeC (C' := sV k y (A4, c4) (m + 1 + 1)) rfl rfl ?q1 ?q2 ?q3 ?q4 ?q5 ?_); (case q1 => rfl); (case q2 => exact siz_of rfl); (case q3 => (first | exact at0 | exact at1 | exact at2 | exact at3 | exact at4 | exact at5 | exact at6)); (case q4 => exact Nat.le_of_ble_eq_true rfl); (case q5 => rfl)) | ((refine' Ef_storeC (C' := sV k y (A3, c3) (m + 1)) rfl rfl ?q1 ?q2 ?q3 ?q4 ?q5 ?_); (case q1 => rfl); (case q2 => exact siz_of rfl); (case q3 => (first | exact at0 | exact at1 | exact at2 | exact at3 | exact at4 | exact at5 | exact at6)); (case q4 => exact Nat.le_of_ble_eq_true rfl); (case q5 => rfl))))
              | ((with_reducible refine ie_callf ?_); (first | ((with_reducible refine g_call 30 ?_); (first | refine Ef_callP rfl rfl ent_30 (fun w hp => hma w (hp.rd hr fun _ => List.not_mem_nil)) ?_)) | ((with_reducible refine g_call 40 ?_); (first | refine Ef_callP rfl rfl ent_40 (fun w _ => hky w) ?_)) | ((with_reducible refine g_call 41 ?_); (first | refine Ef_callP rfl rfl ent_41 (fun w _ => hva w) ?_)) | ((with_reducible refine g_call 42 ?_); (first | (refine Ef_callN rfl rfl ent_42 (fun w hp => hwo w (hp.rd hr fun _ => List.not_mem_nil)) ?_; rintro ⟨A1, c1⟩))) | ((with_reducible refine g_call 31 ?_); (first | ((refine' Ef_callP rfl rfl ent_31 (fun w hp => hcn _ _ w (hp.rowOf ?q1)) ?_); (case q1 => (repeat (first | exact .head _ | apply List.Mem.tail))))))))
              | ((with_reducible refine g_draw ?_); (first | (((refine' T.drawB (id := 12) (.y 0 (.y 2 (.y 3 (.y 4 (.y 5 (.b 1 (.run [(6, false), (7, false), (8, true), (9, false)]) 6 (.run [(1, false), (7, false), (8, true), (9, false)]))))))) [rQ (Ks.rest l key) (A1, c1)] mixd ?q1 ?q2 ?_); (case q1 => kernel_rfl); (case q2 => (repeat (first | exact List.nil_sublist _ | refine List.Sublist.cons_cons _ ?_ | refine List.Sublist.cons _ ?_))))) | (((with_reducible refine' T.drawM (id := 15) [(0, true), (1, true), (2, true), (3, false), (4, false), (5, false), (6, false), (7, true), (8, true), (10, true), (11, true), (9, false), (12, false), (13, false)] mixd ?q1 ?_); (case q1 => kernel_rfl)))))
              | refine w1 ?_
              | (refine w2 ?_ ?_ <;> intro hc)
              | (refine w4 ?_; (first | ((fail_if_success have := b1); intro b1) | ((fail_if_success have := b2); intro b2) | ((fail_if_success have := b3); intro b3) | intro _))
              | (refine w5 ?_; (first | ((fail_if_success have := A1); intro A1 c1) | ((fail_if_success have := A2); intro A2 c2) | ((fail_if_success have := A3); intro A3 c3) | ((fail_if_success have := A4); intro A4 c4) | intro _ _))
              | refine w3 ?_ ?_
              | fail_if_success skip)
          all_goals
            refine loopQ_n (m + 1, m + 1 + 1, true, A4, c4) ?_ ?_ ⟨by (first | omega | (dsimp only; omega) | (simp; omega)), .inr ⟨rfl, rfl, by (first | omega | (dsimp only; omega) | (simp; omega))⟩⟩ (by (first | omega | (dsimp only; omega) | (simp; omega)))
            · (repeat (first | exact Sub.nil | refine Sub.cons rfl ?_))
            · rw [take_snoc hx, take_snoc hmd, pE_snoc, pE_snoc]
              (repeat (first | exact List.nil_sublist _ | refine List.Sublist.cons_cons _ ?_ | refine List.Sublist.cons _ ?_))
      · rw [Ks.rest_put2 (v := v) (by omega)] at hx
        generalize hmi : i + 1 = m at hx ⊢
        repeat' (first
            | ((with_reducible refine is_build ?_); (first | refine ⟨_, Yl_build rfl (q_build2 _ _), ?_⟩ | refine ⟨_, Yl_build rfl (r_build2 _ _), ?_⟩ | refine ⟨_, Yl_build rfl r_build0, ?_⟩))
            | ((with_reducible refine ie_store ?_); (first | ((refine' Ef_storeC (C' := sV k y (A4, c4) (m + 1 + 1)) rfl rfl ?q1 ?q2 ?q3 ?q4 ?q5 ?_); (case q1 => rfl); (case q2 => exact siz_of rfl); (case q3 => (first | exact at0 | exact at1 | exact at2 | exact at3 | exact at4 | exact at5 | exact at6)); (case q4 => exact Nat.le_of_ble_eq_true rfl); (case q5 => rfl)) | ((refine' Ef_storeC (C' := sV k y (A3, c3) (m + 1)) rfl rfl ?q1 ?q2 ?q3 ?q4 ?q5 ?_); (case q1 => rfl); (case q2 => exact siz_of rfl); (case q3 => (first | exact at0 | exact at1 | exact at2 | exact at3 | exact at4 | exact at5 | exact at6)); (case q4 => exact Nat.le_of_ble_eq_true rfl); (case q5 => rfl))))
            | ((with_reducible refine ie_callf ?_); (first | ((with_reducible refine g_call 30 ?_); (first | refine Ef_callP rfl rfl ent_30 (fun w hp => hma w (hp.rd hr fun _ => List.not_mem_nil)) ?_)) | ((with_reducible refine g_call 40 ?_); (first | refine Ef_callP rfl rfl ent_40 (fun w _ => hky w) ?_)) | ((with_reducible refine g_call 41 ?_); (first | refine Ef_callP rfl rfl ent_41 (fun w _ => hva w) ?_)) | ((with_reducible refine g_call 42 ?_); (first | (refine Ef_callN rfl rfl ent_42 (fun w hp => hwo w (hp.rd hr fun _ => List.not_mem_nil)) ?_; rintro ⟨A1, c1⟩))) | ((with_reducible refine g_call 31 ?_); (first | ((refine' Ef_callP rfl rfl ent_31 (fun w hp => hcn _ _ w (hp.rowOf ?q1)) ?_); (case q1 => (repeat (first | exact .head _ | apply List.Mem.tail))))))))
            | ((with_reducible refine g_draw ?_); (first | (((refine' T.drawB (id := 12) (.y 0 (.y 2 (.y 3 (.y 4 (.y 5 (.b 1 (.run [(6, false), (7, false), (8, true), (9, false)]) 6 (.run [(1, false), (7, false), (8, true), (9, false)]))))))) [rQ (Ks.rest l key) (A1, c1)] mixd ?q1 ?q2 ?_); (case q1 => kernel_rfl); (case q2 => (repeat (first | exact List.nil_sublist _ | refine List.Sublist.cons_cons _ ?_ | refine List.Sublist.cons _ ?_))))) | (((with_reducible refine' T.drawM (id := 15) [(0, true), (1, true), (2, true), (3, false), (4, false), (5, false), (6, false), (7, true), (8, true), (10, true), (11, true), (9, false), (12, false), (13, false)] mixd ?q1 ?_); (case q1 => kernel_rfl)))))
            | refine w1 ?_
            | (refine w2 ?_ ?_ <;> intro hc)
            | (refine w4 ?_; (first | ((fail_if_success have := b1); intro b1) | ((fail_if_success have := b2); intro b2) | ((fail_if_success have := b3); intro b3) | intro _))
            | (refine w5 ?_; (first | ((fail_if_success have := A1); intro A1 c1) | ((fail_if_success have := A2); intro A2 c2) | ((fail_if_success have := A3); intro A3 c3) | ((fail_if_success have := A4); intro A4 c4) | intro _ _))
            | refine w3 ?_ ?_
            | fail_if_success skip)
        all_goals
          refine loopQ_n (i + 1, m + 1, true, A3, c3) ?_ ?_ ⟨by (first | omega | (dsimp only; omega) | (simp; omega)), .inr ⟨rfl, by (first | omega | (dsimp only; omega) | (simp; omega)), by (first | omega | (dsimp only; omega) | (simp; omega))⟩⟩ (by (first | omega | (dsimp only; omega) | (simp; omega)))
          · (repeat (first | exact Sub.nil | refine Sub.cons rfl ?_))
          · rw [take_snoc hx, pE_snoc]
            (repeat (first | exact List.nil_sublist _ | refine List.Sublist.cons_cons _ ?_ | refine List.Sublist.cons _ ?_))
    · have hfit : ∀ a b, decide (((Ks.put l key v).length : Int) ≤ k) = a → decide ((Ks.cnt (Ks.put l key v) : Int) ≤ y) = b → Ks.fitR k y (Ks.put l key v) = if (a && b) = true then (k, y, Ks.put l key v, 0) else (0, 0, [], 120) := fun a b ha hb => by
        subst ha hb
        rfl
      have hcn0 := fun A' c' w h => rcount_c A' (Ks.put l key v).length c' (Ks.put l key v) w h rfl (by omega) (by omega)
      refine T.row0e 67 2 ?_
      rcases hd with ⟨rfl, rfl, hq⟩ | ⟨rfl, rfl, hq⟩
      · obtain rfl : m = (Ks.lo l key).length := by omega
        have hmd := Ks.put_mid l key v
        have hpl : (Ks.put l key v).length = (Ks.lo l key).length + 1 := by omega
        generalize (Ks.lo l key).length = m at hi hlt hmd hpl hq g2 ⊢
        have e9 : (Ks.put l key v).flatMap pE = ((Ks.put l key v).take m).flatMap pE ++ pE (key, v) := by
          rw [← pE_snoc, ← take_snoc hmd, List.take_of_length_le (by omega)]
        have oK := pE_one (key, v)
        have hcn : ∀ (A' : Option Addr) (c' : Nat) (w : World), Rd w A' (m + 1) 2 (((Ks.put l key v).take m).flatMap pE ++ pE (key, v)) → Sp Try.prog 31 [.slice A' (m + 1) c'] w [] fun r N => r = .int .i64 (Ks.cnt (Ks.put l key v) : Int) ∧ N = [] := by
          rw [← e9, ← hpl]; exact hcn0
        by_cases hk : ((Ks.put l key v).length : Int) ≤ k
        · by_cases hc : (Ks.cnt (Ks.put l key v) : Int) ≤ y
          · rw [hfit _ _ (decide_eq_true hk) (decide_eq_true hc)]
            repeat' (first
                | ((with_reducible refine is_build ?_); (first | refine ⟨_, Yl_build rfl (q_build2 _ _), ?_⟩ | refine ⟨_, Yl_build rfl (r_build2 _ _), ?_⟩ | refine ⟨_, Yl_build rfl r_build0, ?_⟩))
                | ((with_reducible refine ie_store ?_); (first | ((refine' Ef_storeC (C' := sV k y (A4, c4) (m + 1 + 1)) rfl rfl ?q1 ?q2 ?q3 ?q4 ?q5 ?_); (case q1 => rfl); (case q2 => exact siz_of rfl); (case q3 => (first | exact at0 | exact at1 | exact at2 | exact at3 | exact at4 | exact at5 | exact at6)); (case q4 => exact Nat.le_of_ble_eq_true rfl); (case q5 => rfl)) | ((refine' Ef_storeC (C' := sV k y (A3, c3) (m + 1)) rfl rfl ?q1 ?q2 ?q3 ?q4 ?q5 ?_); (case q1 => rfl); (case q2 => exact siz_of rfl); (case q3 => (first | exact at0 | exact at1 | exact at2 | exact at3 | exact at4 | exact at5 | exact at6)); (case q4 => exact Nat.le_of_ble_eq_true rfl); (case q5 => rfl))))
                | ((with_reducible refine ie_callf ?_); (first | ((with_reducible refine g_call 30 ?_); (first | refine Ef_callP rfl rfl ent_30 (fun w hp => hma w (hp.rd hr fun _ => List.not_mem_nil)) ?_)) | ((with_reducible refine g_call 40 ?_); (first | refine Ef_callP rfl rfl ent_40 (fun w _ => hky w) ?_)) | ((with_reducible refine g_call 41 ?_); (first | refine Ef_callP rfl rfl ent_41 (fun w _ => hva w) ?_)) | ((with_reducible refine g_call 42 ?_); (first | (refine Ef_callN rfl rfl ent_42 (fun w hp => hwo w (hp.rd hr fun _ => List.not_mem_nil)) ?_; rintro ⟨A1, c1⟩))) | ((with_reducible refine g_call 31 ?_); (first | ((refine' Ef_callP rfl rfl ent_31 (fun w hp => hcn _ _ w (hp.rowOf ?q1)) ?_); (case q1 => (repeat (first | exact .head _ | apply List.Mem.tail))))))))
                | ((with_reducible refine g_draw ?_); (first | (((refine' T.drawB (id := 12) (.y 0 (.y 2 (.y 3 (.y 4 (.y 5 (.b 1 (.run [(6, false), (7, false), (8, true), (9, false)]) 6 (.run [(1, false), (7, false), (8, true), (9, false)]))))))) [rQ (Ks.rest l key) (A1, c1)] mixd ?q1 ?q2 ?_); (case q1 => kernel_rfl); (case q2 => (repeat (first | exact List.nil_sublist _ | refine List.Sublist.cons_cons _ ?_ | refine List.Sublist.cons _ ?_))))) | (((with_reducible refine' T.drawM (id := 15) [(0, true), (1, true), (2, true), (3, false), (4, false), (5, false), (6, false), (7, true), (8, true), (10, true), (11, true), (9, false), (12, false), (13, false)] mixd ?q1 ?_); (case q1 => kernel_rfl)))))
                | refine w1 ?_
                | (refine w2 ?_ ?_ <;> intro hc)
                | (refine w4 ?_; (first | ((fail_if_success have := b1); intro b1) | ((fail_if_success have := b2); intro b2) | ((fail_if_success have := b3); intro b3) | intro _))
                | (refine w5 ?_; (first | ((fail_if_success have := A1); intro A1 c1) | ((fail_if_success have := A2); intro A2 c2) | ((fail_if_success have := A3); intro A3 c3) | ((fail_if_success have := A4); intro A4 c4) | intro _ _))
                | refine w3 ?_ ?_
                | fail_if_success skip)
            exact ret_n [rQ (Ks.put l key v) (A3, c3)] (resC1 rfl rfl rfl (by (repeat (first | exact .head _ | apply List.Mem.tail))) (agg_of rfl)) (by unfold rQ; rw [e9, hpl]; (repeat (first | exact List.nil_sublist _ | refine List.Sublist.cons_cons _ ?_ | refine List.Sublist.cons _ ?_))) ⟨(A3, c3), by simp only [Bool.and_self, if_true, hpl], rfl⟩
          · rw [hfit _ _ (decide_eq_true hk) (decide_eq_false hc)]
            repeat' (first
                | ((with_reducible refine is_build ?_); (first | refine ⟨_, Yl_build rfl (q_build2 _ _), ?_⟩ | refine ⟨_, Yl_build rfl (r_build2 _ _), ?_⟩ | refine ⟨_, Yl_build rfl r_build0, ?_⟩))
                | ((with_reducible refine ie_store ?_); (first | ((refine' Ef_storeC (C' := sV k y (A4, c4) (m + 1 + 1)) rfl rfl ?q1 ?q2 ?q3 ?q4 ?q5 ?_); (case q1 => rfl); (case q2 => exact siz_of rfl); (case q3 => (first | exact at0 | exact at1 | exact at2 | exact at3 | exact at4 | exact at5 | exact at6)); (case q4 => exact Nat.le_of_ble_eq_true rfl); (case q5 => rfl)) | ((refine' Ef_storeC (C' := sV k y (A3, c3) (m + 1)) rfl rfl ?q1 ?q2 ?q3 ?q4 ?q5 ?_); (case q1 => rfl); (case q2 => exact siz_of rfl); (case q3 => (first | exact at0 | exact at1 | exact at2 | exact at3 | exact at4 | exact at5 | exact at6)); (case q4 => exact Nat.le_of_ble_eq_true rfl); (case q5 => rfl))))
                | ((with_reducible refine ie_callf ?_); (first | ((with_reducible refine g_call 30 ?_); (first | refine Ef_callP rfl rfl ent_30 (fun w hp => hma w (hp.rd hr fun _ => List.not_mem_nil)) ?_)) | ((with_reducible refine g_call 40 ?_); (first | refine Ef_callP rfl rfl ent_40 (fun w _ => hky w) ?_)) | ((with_reducible refine g_call 41 ?_); (first | refine Ef_callP rfl rfl ent_41 (fun w _ => hva w) ?_)) | ((with_reducible refine g_call 42 ?_); (first | (refine Ef_callN rfl rfl ent_42 (fun w hp => hwo w (hp.rd hr fun _ => List.not_mem_nil)) ?_; rintro ⟨A1, c1⟩))) | ((with_reducible refine g_call 31 ?_); (first | ((refine' Ef_callP rfl rfl ent_31 (fun w hp => hcn _ _ w (hp.rowOf ?q1)) ?_); (case q1 => (repeat (first | exact .head _ | apply List.Mem.tail))))))))
                | ((with_reducible refine g_draw ?_); (first | (((refine' T.drawB (id := 12) (.y 0 (.y 2 (.y 3 (.y 4 (.y 5 (.b 1 (.run [(6, false), (7, false), (8, true), (9, false)]) 6 (.run [(1, false), (7, false), (8, true), (9, false)]))))))) [rQ (Ks.rest l key) (A1, c1)] mixd ?q1 ?q2 ?_); (case q1 => kernel_rfl); (case q2 => (repeat (first | exact List.nil_sublist _ | refine List.Sublist.cons_cons _ ?_ | refine List.Sublist.cons _ ?_))))) | (((with_reducible refine' T.drawM (id := 15) [(0, true), (1, true), (2, true), (3, false), (4, false), (5, false), (6, false), (7, true), (8, true), (10, true), (11, true), (9, false), (12, false), (13, false)] mixd ?q1 ?_); (case q1 => kernel_rfl)))))
                | refine w1 ?_
                | (refine w2 ?_ ?_ <;> intro hc)
                | (refine w4 ?_; (first | ((fail_if_success have := b1); intro b1) | ((fail_if_success have := b2); intro b2) | ((fail_if_success have := b3); intro b3) | intro _))
                | (refine w5 ?_; (first | ((fail_if_success have := A1); intro A1 c1) | ((fail_if_success have := A2); intro A2 c2) | ((fail_if_success have := A3); intro A3 c3) | ((fail_if_success have := A4); intro A4 c4) | intro _ _))
                | refine w3 ?_ ?_
                | fail_if_success skip)
            exact ret_n [rQ [] (none, 0)] (resC1 rfl rfl rfl (by (repeat (first | exact .head _ | apply List.Mem.tail))) (agg_of rfl)) (by (repeat (first | exact List.nil_sublist _ | refine List.Sublist.cons_cons _ ?_ | refine List.Sublist.cons _ ?_))) ⟨(none, 0), rfl, rfl⟩
        · rw [hfit _ _ (decide_eq_false hk) rfl, Bool.false_and]
          repeat' (first
              | ((with_reducible refine is_build ?_); (first | refine ⟨_, Yl_build rfl (q_build2 _ _), ?_⟩ | refine ⟨_, Yl_build rfl (r_build2 _ _), ?_⟩ | refine ⟨_, Yl_build rfl r_build0, ?_⟩))
              | ((with_reducible refine ie_store ?_); (first | ((refine' Ef_storeC (C' := sV k y (A4, c4) (m + 1 + 1)) rfl rfl ?q1 ?q2 ?q3 ?q4 ?q5 ?_); (case q1 => rfl); (case q2 => exact siz_of rfl); (case q3 => (first | exact at0 | exact at1 | exact at2 | exact at3 | exact at4 | exact at5 | exact at6)); (case q4 => exact Nat.le_of_ble_eq_true rfl); (case q5 => rfl)) | ((refine' Ef_storeC (C' := sV k y (A3, c3) (m + 1)) rfl rfl ?q1 ?q2 ?q3 ?q4 ?q5 ?_); (case q1 => rfl); (case q2 => exact siz_of rfl); (case q3 => (first | exact at0 | exact at1 | exact at2 | exact at3 | exact at4 | exact at5 | exact at6)); (case q4 => exact Nat.le_of_ble_eq_true rfl); (case q5 => rfl))))
              | ((with_reducible refine ie_callf ?_); (first | ((with_reducible refine g_call 30 ?_); (first | refine Ef_callP rfl rfl ent_30 (fun w hp => hma w (hp.rd hr fun _ => List.not_mem_nil)) ?_)) | ((with_reducible refine g_call 40 ?_); (first | refine Ef_callP rfl rfl ent_40 (fun w _ => hky w) ?_)) | ((with_reducible refine g_call 41 ?_); (first | refine Ef_callP rfl rfl ent_41 (fun w _ => hva w) ?_)) | ((with_reducible refine g_call 42 ?_); (first | (refine Ef_callN rfl rfl ent_42 (fun w hp => hwo w (hp.rd hr fun _ => List.not_mem_nil)) ?_; rintro ⟨A1, c1⟩))) | ((with_reducible refine g_call 31 ?_); (first | ((refine' Ef_callP rfl rfl ent_31 (fun w hp => hcn _ _ w (hp.rowOf ?q1)) ?_); (case q1 => (repeat (first | exact .head _ | apply List.Mem.tail))))))))
              | ((with_reducible refine g_draw ?_); (first | (((refine' T.drawB (id := 12) (.y 0 (.y 2 (.y 3 (.y 4 (.y 5 (.b 1 (.run [(6, false), (7, false), (8, true), (9, false)]) 6 (.run [(1, false), (7, false), (8, true), (9, false)]))))))) [rQ (Ks.rest l key) (A1, c1)] mixd ?q1 ?q2 ?_); (case q1 => kernel_rfl); (case q2 => (repeat (first | exact List.nil_sublist _ | refine List.Sublist.cons_cons _ ?_ | refine List.Sublist.cons _ ?_))))) | (((with_reducible refine' T.drawM (id := 15) [(0, true), (1, true), (2, true), (3, false), (4, false), (5, false), (6, false), (7, true), (8, true), (10, true), (11, true), (9, false), (12, false), (13, false)] mixd ?q1 ?_); (case q1 => kernel_rfl)))))
              | refine w1 ?_
              | (refine w2 ?_ ?_ <;> intro hc)
              | (refine w4 ?_; (first | ((fail_if_success have := b1); intro b1) | ((fail_if_success have := b2); intro b2) | ((fail_if_success have := b3); intro b3) | intro _))
              | (refine w5 ?_; (first | ((fail_if_success have := A1); intro A1 c1) | ((fail_if_success have := A2); intro A2 c2) | ((fail_if_success have := A3); intro A3 c3) | ((fail_if_success have := A4); intro A4 c4) | intro _ _))
              | refine w3 ?_ ?_
              | fail_if_success skip)
          exact ret_n [rQ [] (none, 0)] (resC1 rfl rfl rfl (by (repeat (first | exact .head _ | apply List.Mem.tail))) (agg_of rfl)) (by (repeat (first | exact List.nil_sublist _ | refine List.Sublist.cons_cons _ ?_ | refine List.Sublist.cons _ ?_))) ⟨(none, 0), rfl, rfl⟩
      · have hpl : (Ks.put l key v).length = i + 1 := by omega
        have hcn : ∀ (A' : Option Addr) (c' : Nat) (w : World), Rd w A' (i + 1) 2 ((Ks.put l key v).flatMap pE) → Sp Try.prog 31 [.slice A' (i + 1) c'] w [] fun r N => r = .int .i64 (Ks.cnt (Ks.put l key v) : Int) ∧ N = [] := by
          rw [← hpl]; exact hcn0
        rw [List.take_of_length_le (by omega)]
        by_cases hk : ((Ks.put l key v).length : Int) ≤ k
        · by_cases hc : (Ks.cnt (Ks.put l key v) : Int) ≤ y
          · rw [hfit _ _ (decide_eq_true hk) (decide_eq_true hc)]
            repeat' (first
                | ((with_reducible refine is_build ?_); (first | refine ⟨_, Yl_build rfl (q_build2 _ _), ?_⟩ | refine ⟨_, Yl_build rfl (r_build2 _ _), ?_⟩ | refine ⟨_, Yl_build rfl r_build0, ?_⟩))
                | ((with_reducible refine ie_store ?_); (first | ((refine' Ef_storeC (C' := sV k y (A4, c4) (m + 1 + 1)) rfl rfl ?q1 ?q2 ?q3 ?q4 ?q5 ?_); (case q1 => rfl); (case q2 => exact siz_of rfl); (case q3 => (first | exact at0 | exact at1 | exact at2 | exact at3 | exact at4 | exact at5 | exact at6)); (case q4 => exact Nat.le_of_ble_eq_true rfl); (case q5 => rfl)) | ((refine' Ef_storeC (C' := sV k y (A3, c3) (m + 1)) rfl rfl ?q1 ?q2 ?q3 ?q4 ?q5 ?_); (case q1 => rfl); (case q2 => exact siz_of rfl); (case q3 => (first | exact at0 | exact at1 | exact at2 | exact at3 | exact at4 | exact at5 | exact at6)); (case q4 => exact Nat.le_of_ble_eq_true rfl); (case q5 => rfl))))
                | ((with_reducible refine ie_callf ?_); (first | ((with_reducible refine g_call 30 ?_); (first | refine Ef_callP rfl rfl ent_30 (fun w hp => hma w (hp.rd hr fun _ => List.not_mem_nil)) ?_)) | ((with_reducible refine g_call 40 ?_); (first | refine Ef_callP rfl rfl ent_40 (fun w _ => hky w) ?_)) | ((with_reducible refine g_call 41 ?_); (first | refine Ef_callP rfl rfl ent_41 (fun w _ => hva w) ?_)) | ((with_reducible refine g_call 42 ?_); (first | (refine Ef_callN rfl rfl ent_42 (fun w hp => hwo w (hp.rd hr fun _ => List.not_mem_nil)) ?_; rintro ⟨A1, c1⟩))) | ((with_reducible refine g_call 31 ?_); (first | ((refine' Ef_callP rfl rfl ent_31 (fun w hp => hcn _ _ w (hp.rowOf ?q1)) ?_); (case q1 => (repeat (first | exact .head _ | apply List.Mem.tail))))))))
                | ((with_reducible refine g_draw ?_); (first | (((refine' T.drawB (id := 12) (.y 0 (.y 2 (.y 3 (.y 4 (.y 5 (.b 1 (.run [(6, false), (7, false), (8, true), (9, false)]) 6 (.run [(1, false), (7, false), (8, true), (9, false)]))))))) [rQ (Ks.rest l key) (A1, c1)] mixd ?q1 ?q2 ?_); (case q1 => kernel_rfl); (case q2 => (repeat (first | exact List.nil_sublist _ | refine List.Sublist.cons_cons _ ?_ | refine List.Sublist.cons _ ?_))))) | (((with_reducible refine' T.drawM (id := 15) [(0, true), (1, true), (2, true), (3, false), (4, false), (5, false), (6, false), (7, true), (8, true), (10, true), (11, true), (9, false), (12, false), (13, false)] mixd ?q1 ?_); (case q1 => kernel_rfl)))))
                | refine w1 ?_
                | (refine w2 ?_ ?_ <;> intro hc)
                | (refine w4 ?_; (first | ((fail_if_success have := b1); intro b1) | ((fail_if_success have := b2); intro b2) | ((fail_if_success have := b3); intro b3) | intro _))
                | (refine w5 ?_; (first | ((fail_if_success have := A1); intro A1 c1) | ((fail_if_success have := A2); intro A2 c2) | ((fail_if_success have := A3); intro A3 c3) | ((fail_if_success have := A4); intro A4 c4) | intro _ _))
                | refine w3 ?_ ?_
                | fail_if_success skip)
            exact ret_n [rQ (Ks.put l key v) (A2, c2)] (resC1 rfl rfl rfl (by (repeat (first | exact .head _ | apply List.Mem.tail))) (agg_of rfl)) (by unfold rQ; rw [hpl]; (repeat (first | exact List.nil_sublist _ | refine List.Sublist.cons_cons _ ?_ | refine List.Sublist.cons _ ?_))) ⟨(A2, c2), by simp only [Bool.and_self, if_true, hpl], rfl⟩
          · rw [hfit _ _ (decide_eq_true hk) (decide_eq_false hc)]
            repeat' (first
                | ((with_reducible refine is_build ?_); (first | refine ⟨_, Yl_build rfl (q_build2 _ _), ?_⟩ | refine ⟨_, Yl_build rfl (r_build2 _ _), ?_⟩ | refine ⟨_, Yl_build rfl r_build0, ?_⟩))
                | ((with_reducible refine ie_store ?_); (first | ((refine' Ef_storeC (C' := sV k y (A4, c4) (m + 1 + 1)) rfl rfl ?q1 ?q2 ?q3 ?q4 ?q5 ?_); (case q1 => rfl); (case q2 => exact siz_of rfl); (case q3 => (first | exact at0 | exact at1 | exact at2 | exact at3 | exact at4 | exact at5 | exact at6)); (case q4 => exact Nat.le_of_ble_eq_true rfl); (case q5 => rfl)) | ((refine' Ef_storeC (C' := sV k y (A3, c3) (m + 1)) rfl rfl ?q1 ?q2 ?q3 ?q4 ?q5 ?_); (case q1 => rfl); (case q2 => exact siz_of rfl); (case q3 => (first | exact at0 | exact at1 | exact at2 | exact at3 | exact at4 | exact at5 | exact at6)); (case q4 => exact Nat.le_of_ble_eq_true rfl); (case q5 => rfl))))
                | ((with_reducible refine ie_callf ?_); (first | ((with_reducible refine g_call 30 ?_); (first | refine Ef_callP rfl rfl ent_30 (fun w hp => hma w (hp.rd hr fun _ => List.not_mem_nil)) ?_)) | ((with_reducible refine g_call 40 ?_); (first | refine Ef_callP rfl rfl ent_40 (fun w _ => hky w) ?_)) | ((with_reducible refine g_call 41 ?_); (first | refine Ef_callP rfl rfl ent_41 (fun w _ => hva w) ?_)) | ((with_reducible refine g_call 42 ?_); (first | (refine Ef_callN rfl rfl ent_42 (fun w hp => hwo w (hp.rd hr fun _ => List.not_mem_nil)) ?_; rintro ⟨A1, c1⟩))) | ((with_reducible refine g_call 31 ?_); (first | ((refine' Ef_callP rfl rfl ent_31 (fun w hp => hcn _ _ w (hp.rowOf ?q1)) ?_); (case q1 => (repeat (first | exact .head _ | apply List.Mem.tail))))))))
                | ((with_reducible refine g_draw ?_); (first | (((refine' T.drawB (id := 12) (.y 0 (.y 2 (.y 3 (.y 4 (.y 5 (.b 1 (.run [(6, false), (7, false), (8, true), (9, false)]) 6 (.run [(1, false), (7, false), (8, true), (9, false)]))))))) [rQ (Ks.rest l key) (A1, c1)] mixd ?q1 ?q2 ?_); (case q1 => kernel_rfl); (case q2 => (repeat (first | exact List.nil_sublist _ | refine List.Sublist.cons_cons _ ?_ | refine List.Sublist.cons _ ?_))))) | (((with_reducible refine' T.drawM (id := 15) [(0, true), (1, true), (2, true), (3, false), (4, false), (5, false), (6, false), (7, true), (8, true), (10, true), (11, true), (9, false), (12, false), (13, false)] mixd ?q1 ?_); (case q1 => kernel_rfl)))))
                | refine w1 ?_
                | (refine w2 ?_ ?_ <;> intro hc)
                | (refine w4 ?_; (first | ((fail_if_success have := b1); intro b1) | ((fail_if_success have := b2); intro b2) | ((fail_if_success have := b3); intro b3) | intro _))
                | (refine w5 ?_; (first | ((fail_if_success have := A1); intro A1 c1) | ((fail_if_success have := A2); intro A2 c2) | ((fail_if_success have := A3); intro A3 c3) | ((fail_if_success have := A4); intro A4 c4) | intro _ _))
                | refine w3 ?_ ?_
                | fail_if_success skip)
            exact ret_n [rQ [] (none, 0)] (resC1 rfl rfl rfl (by (repeat (first | exact .head _ | apply List.Mem.tail))) (agg_of rfl)) (by (repeat (first | exact List.nil_sublist _ | refine List.Sublist.cons_cons _ ?_ | refine List.Sublist.cons _ ?_))) ⟨(none, 0), rfl, rfl⟩
        · rw [hfit _ _ (decide_eq_false hk) rfl, Bool.false_and]
          repeat' (first
              | ((with_reducible refine is_build ?_); (first | refine ⟨_, Yl_build rfl (q_build2 _ _), ?_⟩ | refine ⟨_, Yl_build rfl (r_build2 _ _), ?_⟩ | refine ⟨_, Yl_build rfl r_build0, ?_⟩))
              | ((with_reducible refine ie_store ?_); (first | ((refine' Ef_storeC (C' := sV k y (A4, c4) (m + 1 + 1)) rfl rfl ?q1 ?q2 ?q3 ?q4 ?q5 ?_); (case q1 => rfl); (case q2 => exact siz_of rfl); (case q3 => (first | exact at0 | exact at1 | exact at2 | exact at3 | exact at4 | exact at5 | exact at6)); (case q4 => exact Nat.le_of_ble_eq_true rfl); (case q5 => rfl)) | ((refine' Ef_storeC (C' := sV k y (A3, c3) (m + 1)) rfl rfl ?q1 ?q2 ?q3 ?q4 ?q5 ?_); (case q1 => rfl); (case q2 => exact siz_of rfl); (case q3 => (first | exact at0 | exact at1 | exact at2 | exact at3 | exact at4 | exact at5 | exact at6)); (case q4 => exact Nat.le_of_ble_eq_true rfl); (case q5 => rfl))))
              | ((with_reducible refine ie_callf ?_); (first | ((with_reducible refine g_call 30 ?_); (first | refine Ef_callP rfl rfl ent_30 (fun w hp => hma w (hp.rd hr fun _ => List.not_mem_nil)) ?_)) | ((with_reducible refine g_call 40 ?_); (first | refine Ef_callP rfl rfl ent_40 (fun w _ => hky w) ?_)) | ((with_reducible refine g_call 41 ?_); (first | refine Ef_callP rfl rfl ent_41 (fun w _ => hva w) ?_)) | ((with_reducible refine g_call 42 ?_); (first | (refine Ef_callN rfl rfl ent_42 (fun w hp => hwo w (hp.rd hr fun _ => List.not_mem_nil)) ?_; rintro ⟨A1, c1⟩))) | ((with_reducible refine g_call 31 ?_); (first | ((refine' Ef_callP rfl rfl ent_31 (fun w hp => hcn _ _ w (hp.rowOf ?q1)) ?_); (case q1 => (repeat (first | exact .head _ | apply List.Mem.tail))))))))
              | ((with_reducible refine g_draw ?_); (first | (((refine' T.drawB (id := 12) (.y 0 (.y 2 (.y 3 (.y 4 (.y 5 (.b 1 (.run [(6, false), (7, false), (8, true), (9, false)]) 6 (.run [(1, false), (7, false), (8, true), (9, false)]))))))) [rQ (Ks.rest l key) (A1, c1)] mixd ?q1 ?q2 ?_); (case q1 => kernel_rfl); (case q2 => (repeat (first | exact List.nil_sublist _ | refine List.Sublist.cons_cons _ ?_ | refine List.Sublist.cons _ ?_))))) | (((with_reducible refine' T.drawM (id := 15) [(0, true), (1, true), (2, true), (3, false), (4, false), (5, false), (6, false), (7, true), (8, true), (10, true), (11, true), (9, false), (12, false), (13, false)] mixd ?q1 ?_); (case q1 => kernel_rfl)))))
              | refine w1 ?_
              | (refine w2 ?_ ?_ <;> intro hc)
              | (refine w4 ?_; (first | ((fail_if_success have := b1); intro b1) | ((fail_if_success have := b2); intro b2) | ((fail_if_success have := b3); intro b3) | intro _))
              | (refine w5 ?_; (first | ((fail_if_success have := A1); intro A1 c1) | ((fail_if_success have := A2); intro A2 c2) | ((fail_if_success have := A3); intro A3 c3) | ((fail_if_success have := A4); intro A4 c4) | intro _ _))
              | refine w3 ?_ ?_
              | fail_if_success skip)
          exact ret_n [rQ [] (none, 0)] (resC1 rfl rfl rfl (by (repeat (first | exact .head _ | apply List.Mem.tail))) (agg_of rfl)) (by (repeat (first | exact List.nil_sublist _ | refine List.Sublist.cons_cons _ ?_ | refine List.Sublist.cons _ ?_))) ⟨(none, 0), rfl, rfl⟩
end
end Go.Proofs.Ytimmabejfigleaa
