/- What may be: what a call of each comes to. -/
import Derived.Test.YthiacfpfgdoliaaT2
namespace Go.Proofs.Ythiacfpfgdoliaa
open Go.RowKit
set_option maxRecDepth 20000

theorem fits_v (c i : Int) (q : Bool) (w : World) (hq : Rl.fits c i = q) : Sp Try.prog 27 [.int .i64 c, .int .i64 i] w [] fun v N => v = .bool q ∧ N = [] := by
  subst hq
  refine Sp.enter (n := 19) Try.func27 rfl rfl rfl (Hp.refl w) ?_
  repeat' (first  | refine w1 ?_ | (refine w2 ?_ ?_ <;> intro hc)  | (refine w4 ?_; (intro _)) | (refine w5 ?_; (intro _ _)) | refine w3 ?_ ?_ | fail_if_success skip)
  all_goals exact ret_n [] (res1 rfl rfl) (List.nil_sublist _) ⟨congrArg Value.bool (by unfold Rl.fits; symm; first | exact decide_eq_true (by omega) | exact decide_eq_false (by omega)), rfl⟩
theorem rfits_v (c i : Int) (q : Bool) (w : World) (hq : Rl.fits c i = q) : Sp Try.prog 30 [.int .i64 c, .int .i64 i] w [] fun v N => v = .bool q ∧ N = [] := by
  subst hq
  refine Sp.enter (n := 19) Try.func30 rfl rfl rfl (Hp.refl w) ?_
  repeat' (first  | refine w1 ?_ | (refine w2 ?_ ?_ <;> intro hc)  | (refine w4 ?_; (intro _)) | (refine w5 ?_; (intro _ _)) | refine w3 ?_ ?_ | fail_if_success skip)
  all_goals exact ret_n [] (res1 rfl rfl) (List.nil_sublist _) ⟨congrArg Value.bool (by unfold Rl.fits; symm; first | exact decide_eq_true (by omega) | exact decide_eq_false (by omega)), rfl⟩

section
variable (A : Option Addr) (len cap : Nat) (l : List Me) (w : World) (hr : Rd w A len 77 (l.flatMap mE)) (hl : l.length = len) (hle : len ≤ 9223372036854775806)
include hr hl hle
set_option maxHeartbeats 4000000 in
theorem may_v (b : Bool) (hb : Rl.may (l.map (·.1)) = b) : Sp Try.prog 19 [.slice A len cap] w [] fun v N => v = .bool b ∧ N = [] := by
  subst hb
  refine Sp.enter (n := 40) Try.func19 rfl rfl rfl (Hp.refl w) ?_
  repeat' (first    | ((with_reducible refine ie_callf ?_); (first | ((with_reducible refine g_call 27 ?_); (first | refine Ef_callP rfl rfl ent_27 (fun w _ => hft w) ?_))))   | ((with_reducible refine g_draw ?_); (first | (((with_reducible refine' T.drawM (id := 4) [(0, true), (1, true), (2, true), (3, true), (4, true), (5, true), (6, false), (7, false), (8, false), (9, false), (10, false), (11, false), (12, false), (13, false), (14, false), (15, false), (16, true), (17, true), (18, true), (19, true), (20, true), (21, true), (22, true), (23, false), (24, false), (25, false), (26, false), (27, false), (28, false), (29, false)] mixd ?q1 ?_); (case q1 => kernel_rfl))))) | refine w1 ?_ | (refine w2 ?_ ?_ <;> intro hc)  | (refine w4 ?_; (intro _)) | (refine w5 ?_; (intro _ _)) | refine w3 ?_ ?_ | fail_if_success skip)
  refine T.loop (α := Nat) (fun i => [(0, .slice A len cap), (5, .int .i64 (len : Int)), (6, .int .i64 (i : Int))]) (fun _ => []) (fun i => i ≤ len ∧ Rl.okAll (l.map (·.1)) i = true) (fun i => len - i) 0 ?_ ?_ ?_ ?_
  · (repeat (first | exact Sub.nil | refine Sub.cons rfl ?_))
  · (repeat (first | exact List.nil_sublist _ | refine List.Sublist.cons_cons _ ?_ | refine List.Sublist.cons _ ?_))
  · exact ⟨Nat.zero_le _, rfl⟩
  · rintro i ⟨hi, hm⟩
    by_cases hlt : i < len
    · obtain ⟨x, hx⟩ := some_of_lt (l := l) (i := i) (by omega)
      have e0 : (l.flatMap mE)[i * 77 + 0]? = some (.int .i64 x.1.c) := enc_at mE_len hx (j := 0) (by decide)
      have e1 : (l.flatMap mE)[i * 77 + 1]? = some (.int .i64 x.1.id) := enc_at mE_len hx (j := 1) (by decide)
      have hft := fun w => fits_v x.1.c x.1.id _ w rfl
      cases hf : Rl.fits x.1.c x.1.id with
      | false =>
        rw [hf] at hft
        rw [Rl.may_no (map_at hx) (by unfold Rl.okB; rw [hf]; rfl)]
        repeat' (first    | ((with_reducible refine ie_callf ?_); (first | ((with_reducible refine g_call 27 ?_); (first | refine Ef_callP rfl rfl ent_27 (fun w _ => hft w) ?_))))   | ((with_reducible refine g_draw ?_); (first | (((with_reducible refine' T.drawM (id := 4) [(0, true), (1, true), (2, true), (3, true), (4, true), (5, true), (6, false), (7, false), (8, false), (9, false), (10, false), (11, false), (12, false), (13, false), (14, false), (15, false), (16, true), (17, true), (18, true), (19, true), (20, true), (21, true), (22, true), (23, false), (24, false), (25, false), (26, false), (27, false), (28, false), (29, false)] mixd ?q1 ?_); (case q1 => kernel_rfl))))) | refine w1 ?_ | (refine w2 ?_ ?_ <;> intro hc)  | (refine w4 ?_; (intro _)) | (refine w5 ?_; (intro _ _)) | refine w3 ?_ ?_ | fail_if_success skip)
        exact ret_n [] (res1 rfl rfl) (List.nil_sublist _) ⟨rfl, rfl⟩
      | true =>
        rw [hf] at hft
        by_cases hi0 : i = 0
        · have hok : Rl.okB (l.map (·.1)) i x.1 = true := by unfold Rl.okB; rw [hf]; simp [hi0]
          repeat' (first    | ((with_reducible refine ie_callf ?_); (first | ((with_reducible refine g_call 27 ?_); (first | refine Ef_callP rfl rfl ent_27 (fun w _ => hft w) ?_))))   | ((with_reducible refine g_draw ?_); (first | (((with_reducible refine' T.drawM (id := 4) [(0, true), (1, true), (2, true), (3, true), (4, true), (5, true), (6, false), (7, false), (8, false), (9, false), (10, false), (11, false), (12, false), (13, false), (14, false), (15, false), (16, true), (17, true), (18, true), (19, true), (20, true), (21, true), (22, true), (23, false), (24, false), (25, false), (26, false), (27, false), (28, false), (29, false)] mixd ?q1 ?_); (case q1 => kernel_rfl))))) | refine w1 ?_ | (refine w2 ?_ ?_ <;> intro hc)  | (refine w4 ?_; (intro _)) | (refine w5 ?_; (intro _ _)) | refine w3 ?_ ?_ | fail_if_success skip)
          refine loopQ_n (i + 1) ?_ ?_ ⟨by (first | omega | (dsimp only; omega) | (simp; omega)), Rl.okAll_step hm (map_at hx) hok⟩ (by (first | omega | (dsimp only; omega) | (simp; omega)))
          · (repeat (first | exact Sub.nil | refine Sub.cons rfl ?_))
          · (repeat (first | exact List.nil_sublist _ | refine List.Sublist.cons_cons _ ?_ | refine List.Sublist.cons _ ?_))
        · obtain ⟨a, ha⟩ := some_of_lt (l := l) (i := i - 1) (by omega)
          have e3 : (l.flatMap mE)[((i : Int) - 1).toNat * 77 + 0]? = some (.int .i64 a.1.c) := by
            rw [show ((i : Int) - 1).toNat = i - 1 by omega]
            exact enc_at mE_len ha (by omega)
          by_cases hu : a.1.c < x.1.c
          · have hok : Rl.okB (l.map (·.1)) i x.1 = true := by unfold Rl.okB; rw [hf, map_at ha]; simp [hu]
            repeat' (first    | ((with_reducible refine ie_callf ?_); (first | ((with_reducible refine g_call 27 ?_); (first | refine Ef_callP rfl rfl ent_27 (fun w _ => hft w) ?_))))   | ((with_reducible refine g_draw ?_); (first | (((with_reducible refine' T.drawM (id := 4) [(0, true), (1, true), (2, true), (3, true), (4, true), (5, true), (6, false), (7, false), (8, false), (9, false), (10, false), (11, false), (12, false), (13, false), (14, false), (15, false), (16, true), (17, true), (18, true), (19, true), (20, true), (21, true), (22, true), (23, false), (24, false), (25, false), (26, false), (27, false), (28, false), (29, false)] mixd ?q1 ?_); (case q1 => kernel_rfl))))) | refine w1 ?_ | (refine w2 ?_ ?_ <;> intro hc)  | (refine w4 ?_; (intro _)) | (refine w5 ?_; (intro _ _)) | refine w3 ?_ ?_ | fail_if_success skip)
            refine loopQ_n (i + 1) ?_ ?_ ⟨by (first | omega | (dsimp only; omega) | (simp; omega)), Rl.okAll_step hm (map_at hx) hok⟩ (by (first | omega | (dsimp only; omega) | (simp; omega)))
            · (repeat (first | exact Sub.nil | refine Sub.cons rfl ?_))
            · (repeat (first | exact List.nil_sublist _ | refine List.Sublist.cons_cons _ ?_ | refine List.Sublist.cons _ ?_))
          · rw [Rl.may_no (map_at hx) (by unfold Rl.okB; rw [hf, map_at ha]; simp [hu, hi0])]
            repeat' (first    | ((with_reducible refine ie_callf ?_); (first | ((with_reducible refine g_call 27 ?_); (first | refine Ef_callP rfl rfl ent_27 (fun w _ => hft w) ?_))))   | ((with_reducible refine g_draw ?_); (first | (((with_reducible refine' T.drawM (id := 4) [(0, true), (1, true), (2, true), (3, true), (4, true), (5, true), (6, false), (7, false), (8, false), (9, false), (10, false), (11, false), (12, false), (13, false), (14, false), (15, false), (16, true), (17, true), (18, true), (19, true), (20, true), (21, true), (22, true), (23, false), (24, false), (25, false), (26, false), (27, false), (28, false), (29, false)] mixd ?q1 ?_); (case q1 => kernel_rfl))))) | refine w1 ?_ | (refine w2 ?_ ?_ <;> intro hc)  | (refine w4 ?_; (intro _)) | (refine w5 ?_; (intro _ _)) | refine w3 ?_ ?_ | fail_if_success skip)
            exact ret_n [] (res1 rfl rfl) (List.nil_sublist _) ⟨rfl, rfl⟩
    · have e : Rl.may (l.map (·.1)) = true := by unfold Rl.may; rw [List.length_map, hl, show len = i by omega]; exact hm
      rw [e]
      repeat' (first    | ((with_reducible refine ie_callf ?_); (first | ((with_reducible refine g_call 27 ?_); (first | refine Ef_callP rfl rfl ent_27 (fun w _ => hft w) ?_))))   | ((with_reducible refine g_draw ?_); (first | (((with_reducible refine' T.drawM (id := 4) [(0, true), (1, true), (2, true), (3, true), (4, true), (5, true), (6, false), (7, false), (8, false), (9, false), (10, false), (11, false), (12, false), (13, false), (14, false), (15, false), (16, true), (17, true), (18, true), (19, true), (20, true), (21, true), (22, true), (23, false), (24, false), (25, false), (26, false), (27, false), (28, false), (29, false)] mixd ?q1 ?_); (case q1 => kernel_rfl))))) | refine w1 ?_ | (refine w2 ?_ ?_ <;> intro hc)  | (refine w4 ?_; (intro _)) | (refine w5 ?_; (intro _ _)) | refine w3 ?_ ?_ | fail_if_success skip)
      exact ret_n [] (res1 rfl rfl) (List.nil_sublist _) ⟨rfl, rfl⟩
set_option maxHeartbeats 4000000 in
theorem rmay_v (b : Bool) (hb : Rl.may (l.map (·.1)) = b) : Sp Try.prog 20 [.slice A len cap] w [] fun v N => v = .bool b ∧ N = [] := by
  subst hb
  refine Sp.enter (n := 40) Try.func20 rfl rfl rfl (Hp.refl w) ?_
  repeat' (first    | ((with_reducible refine ie_callf ?_); (first  | ((with_reducible refine g_call 30 ?_); (first | refine Ef_callP rfl rfl ent_30 (fun w _ => hft w) ?_))))   | ((with_reducible refine g_draw ?_); (first  | (((with_reducible refine' T.drawM (id := 4) [(0, true), (1, true), (2, true), (3, true), (4, true), (5, true), (6, false), (7, false), (8, false), (9, false), (10, false), (11, false), (12, false), (13, false), (14, false), (15, false), (16, true), (17, true), (18, true), (19, true), (20, true), (21, true), (22, false), (23, false), (24, false), (25, false), (26, false), (27, false), (28, false), (29, false)] mixd ?q1 ?_); (case q1 => kernel_rfl))))) | refine w1 ?_ | (refine w2 ?_ ?_ <;> intro hc)  | (refine w4 ?_; (intro _)) | (refine w5 ?_; (intro _ _)) | refine w3 ?_ ?_ | fail_if_success skip)
  refine T.loop (α := Nat) (fun i => [(0, .slice A len cap), (3, .int .i64 (i : Int))]) (fun _ => []) (fun i => i ≤ len ∧ Rl.okAll (l.map (·.1)) i = true) (fun i => len - i) 0 ?_ ?_ ?_ ?_
  · (repeat (first | exact Sub.nil | refine Sub.cons rfl ?_))
  · (repeat (first | exact List.nil_sublist _ | refine List.Sublist.cons_cons _ ?_ | refine List.Sublist.cons _ ?_))
  · exact ⟨Nat.zero_le _, rfl⟩
  · rintro i ⟨hi, hm⟩
    by_cases hlt : i < len
    · obtain ⟨x, hx⟩ := some_of_lt (l := l) (i := i) (by omega)
      have e0 : (l.flatMap mE)[i * 77 + 0]? = some (.int .i64 x.1.c) := enc_at mE_len hx (j := 0) (by decide)
      have e1 : (l.flatMap mE)[i * 77 + 1]? = some (.int .i64 x.1.id) := enc_at mE_len hx (j := 1) (by decide)
      have hft := fun w => rfits_v x.1.c x.1.id _ w rfl
      cases hf : Rl.fits x.1.c x.1.id with
      | false =>
        rw [hf] at hft
        rw [Rl.may_no (map_at hx) (by unfold Rl.okB; rw [hf]; rfl)]
        repeat' (first    | ((with_reducible refine ie_callf ?_); (first  | ((with_reducible refine g_call 30 ?_); (first | refine Ef_callP rfl rfl ent_30 (fun w _ => hft w) ?_))))   | ((with_reducible refine g_draw ?_); (first  | (((with_reducible refine' T.drawM (id := 4) [(0, true), (1, true), (2, true), (3, true), (4, true), (5, true), (6, false), (7, false), (8, false), (9, false), (10, false), (11, false), (12, false), (13, false), (14, false), (15, false), (16, true), (17, true), (18, true), (19, true), (20, true), (21, true), (22, false), (23, false), (24, false), (25, false), (26, false), (27, false), (28, false), (29, false)] mixd ?q1 ?_); (case q1 => kernel_rfl))))) | refine w1 ?_ | (refine w2 ?_ ?_ <;> intro hc)  | (refine w4 ?_; (intro _)) | (refine w5 ?_; (intro _ _)) | refine w3 ?_ ?_ | fail_if_success skip)
        exact ret_n [] (res1 rfl rfl) (List.nil_sublist _) ⟨rfl, rfl⟩
      | true =>
        rw [hf] at hft
        by_cases hi0 : i = 0
        · have hok : Rl.okB (l.map (·.1)) i x.1 = true := by unfold Rl.okB; rw [hf]; simp [hi0]
          repeat' (first    | ((with_reducible refine ie_callf ?_); (first  | ((with_reducible refine g_call 30 ?_); (first | refine Ef_callP rfl rfl ent_30 (fun w _ => hft w) ?_))))   | ((with_reducible refine g_draw ?_); (first  | (((with_reducible refine' T.drawM (id := 4) [(0, true), (1, true), (2, true), (3, true), (4, true), (5, true), (6, false), (7, false), (8, false), (9, false), (10, false), (11, false), (12, false), (13, false), (14, false), (15, false), (16, true), (17, true), (18, true), (19, true), (20, true), (21, true), (22, false), (23, false), (24, false), (25, false), (26, false), (27, false), (28, false), (29, false)] mixd ?q1 ?_); (case q1 => kernel_rfl))))) | refine w1 ?_ | (refine w2 ?_ ?_ <;> intro hc)  | (refine w4 ?_; (intro _)) | (refine w5 ?_; (intro _ _)) | refine w3 ?_ ?_ | fail_if_success skip)
          refine loopQ_n (i + 1) ?_ ?_ ⟨by (first | omega | (dsimp only; omega) | (simp; omega)), Rl.okAll_step hm (map_at hx) hok⟩ (by (first | omega | (dsimp only; omega) | (simp; omega)))
          · (repeat (first | exact Sub.nil | refine Sub.cons rfl ?_))
          · (repeat (first | exact List.nil_sublist _ | refine List.Sublist.cons_cons _ ?_ | refine List.Sublist.cons _ ?_))
        · obtain ⟨a, ha⟩ := some_of_lt (l := l) (i := i - 1) (by omega)
          have e3 : (l.flatMap mE)[((i : Int) - 1).toNat * 77 + 0]? = some (.int .i64 a.1.c) := by
            rw [show ((i : Int) - 1).toNat = i - 1 by omega]
            exact enc_at mE_len ha (by omega)
          by_cases hu : a.1.c < x.1.c
          · have hok : Rl.okB (l.map (·.1)) i x.1 = true := by unfold Rl.okB; rw [hf, map_at ha]; simp [hu]
            repeat' (first    | ((with_reducible refine ie_callf ?_); (first  | ((with_reducible refine g_call 30 ?_); (first | refine Ef_callP rfl rfl ent_30 (fun w _ => hft w) ?_))))   | ((with_reducible refine g_draw ?_); (first  | (((with_reducible refine' T.drawM (id := 4) [(0, true), (1, true), (2, true), (3, true), (4, true), (5, true), (6, false), (7, false), (8, false), (9, false), (10, false), (11, false), (12, false), (13, false), (14, false), (15, false), (16, true), (17, true), (18, true), (19, true), (20, true), (21, true), (22, false), (23, false), (24, false), (25, false), (26, false), (27, false), (28, false), (29, false)] mixd ?q1 ?_); (case q1 => kernel_rfl))))) | refine w1 ?_ | (refine w2 ?_ ?_ <;> intro hc)  | (refine w4 ?_; (intro _)) | (refine w5 ?_; (intro _ _)) | refine w3 ?_ ?_ | fail_if_success skip)
            refine loopQ_n (i + 1) ?_ ?_ ⟨by (first | omega | (dsimp only; omega) | (simp; omega)), Rl.okAll_step hm (map_at hx) hok⟩ (by (first | omega | (dsimp only; omega) | (simp; omega)))
            · (repeat (first | exact Sub.nil | refine Sub.cons rfl ?_))
            · (repeat (first | exact List.nil_sublist _ | refine List.Sublist.cons_cons _ ?_ | refine List.Sublist.cons _ ?_))
          · rw [Rl.may_no (map_at hx) (by unfold Rl.okB; rw [hf, map_at ha]; simp [hu, hi0])]
            repeat' (first    | ((with_reducible refine ie_callf ?_); (first  | ((with_reducible refine g_call 30 ?_); (first | refine Ef_callP rfl rfl ent_30 (fun w _ => hft w) ?_))))   | ((with_reducible refine g_draw ?_); (first  | (((with_reducible refine' T.drawM (id := 4) [(0, true), (1, true), (2, true), (3, true), (4, true), (5, true), (6, false), (7, false), (8, false), (9, false), (10, false), (11, false), (12, false), (13, false), (14, false), (15, false), (16, true), (17, true), (18, true), (19, true), (20, true), (21, true), (22, false), (23, false), (24, false), (25, false), (26, false), (27, false), (28, false), (29, false)] mixd ?q1 ?_); (case q1 => kernel_rfl))))) | refine w1 ?_ | (refine w2 ?_ ?_ <;> intro hc)  | (refine w4 ?_; (intro _)) | (refine w5 ?_; (intro _ _)) | refine w3 ?_ ?_ | fail_if_success skip)
            exact ret_n [] (res1 rfl rfl) (List.nil_sublist _) ⟨rfl, rfl⟩
    · have e : Rl.may (l.map (·.1)) = true := by unfold Rl.may; rw [List.length_map, hl, show len = i by omega]; exact hm
      rw [e]
      repeat' (first    | ((with_reducible refine ie_callf ?_); (first  | ((with_reducible refine g_call 30 ?_); (first | refine Ef_callP rfl rfl ent_30 (fun w _ => hft w) ?_))))   | ((with_reducible refine g_draw ?_); (first  | (((with_reducible refine' T.drawM (id := 4) [(0, true), (1, true), (2, true), (3, true), (4, true), (5, true), (6, false), (7, false), (8, false), (9, false), (10, false), (11, false), (12, false), (13, false), (14, false), (15, false), (16, true), (17, true), (18, true), (19, true), (20, true), (21, true), (22, false), (23, false), (24, false), (25, false), (26, false), (27, false), (28, false), (29, false)] mixd ?q1 ?_); (case q1 => kernel_rfl))))) | refine w1 ?_ | (refine w2 ?_ ?_ <;> intro hc)  | (refine w4 ?_; (intro _)) | (refine w5 ?_; (intro _ _)) | refine w3 ?_ ?_ | fail_if_success skip)
      exact ret_n [] (res1 rfl rfl) (List.nil_sublist _) ⟨rfl, rfl⟩
end
end Go.Proofs.Ythiacfpfgdoliaa
