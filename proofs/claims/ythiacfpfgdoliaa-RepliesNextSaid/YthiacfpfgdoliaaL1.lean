/- Laws: whether tables and replies are the same; what is next: what a call of each comes to. -/
import Derived.Test.YthiacfpfgdoliaaT11
namespace Go.Proofs.Ythiacfpfgdoliaa
open Go.RowKit
set_option maxRecDepth 20000

theorem wrap_mod (i m : Int) (h0 : 0 < m) (h1 : m ≤ 100000) : IntKind.wrap .i64 (IntKind.wrap .u64 i % m) = IntKind.wrap .u64 i % m := by
  have h2 := Int.emod_nonneg (IntKind.wrap .u64 i) (show m ≠ 0 by omega)
  have h3 := Int.emod_lt_of_pos (IntKind.wrap .u64 i) h0
  exact IntWalk.i64_in _ (by omega)

section
variable (A : Option Addr) (c : Nat) (l : List Me) (w : World) (ha : Rd w A l.length 77 (l.flatMap mE)) (hia : Ins w l) (hle : l.length ≤ 140737488355328) (hlk : ∀ x ∈ l, x.1.r.keys.length ≤ 140737488355328)
include ha hia hle hlk
section
variable (B : Option Addr) (d : Nat) (m : List Me) (r : Rp) (h : Hd) (s : Rp) (g : Hd) (hb : Rd w B m.length 77 (m.flatMap mE)) (hib : Ins w m) (hle2 : m.length ≤ 140737488355328) (hlk2 : ∀ x ∈ m, x.1.r.keys.length ≤ 140737488355328) (hr : In w r h) (hs : In w s g) (hkr : r.keys.length ≤ 140737488355328)
include hb hib hle2 hlk2 hr hs hkr
set_option maxHeartbeats 8000000 in
theorem same_law : Sp Try.prog 3 [.slice A l.length c, .slice B m.length d, .agg (rE r h).toArray, .agg (rE s g).toArray] w [] fun v N => v = .bool true ∧ N = [] := by
  have hkr : r.keys.length ≤ 9223372036854775806 := by omega
  have hg1 := fun w h => great_v A c l w h (by omega) hlk _ rfl
  have hg2 := fun w h => great_v B d m w h (by omega) hlk2 _ rfl
  cases h1 : Rl.big l
  · rw [h1] at hg1
    cases h2 : Rl.big m
    · rw [h2] at hg2
      obtain ⟨b1, b2⟩ := Rl.big_no h1
      obtain ⟨b3, b4⟩ := Rl.big_no h2
      have hl4 : (l.map (·.1)).length ≤ 400 := by rw [List.length_map]; omega
      have hk4 := keys_la b2
      have to1 := fun w h hi => to_c A l.length c l w h rfl (by omega) hi b2
      have to2 := fun w h hi => to_c B m.length d m w h rfl (by omega) hi b4
      obtain ⟨q1, hq1⟩ : ∃ q, Rl.same (l.map (·.1)) (m.map (·.1)) = q := ⟨_, rfl⟩
      obtain ⟨q2, hq2⟩ : ∃ q, Rl.eqR r s = q := ⟨_, rfl⟩
      clear b1 b2 b3 b4 h1 h2
      cases q1 <;> cases q2
      all_goals
        refine Sp.enter (n := 60) Try.func3 rfl rfl rfl (Hp.refl w) ?_
        repeat' (first
            | ((with_reducible refine ie_callf ?_); (first
            | ((with_reducible refine g_call 8 ?_); (first | refine Ef_callP rfl rfl ent_8 (fun w hp => hg1 w (hp.rd ha fun _ => List.not_mem_nil)) ?_ | refine Ef_callP rfl rfl ent_8 (fun w hp => hg2 w (hp.rd hb fun _ => List.not_mem_nil)) ?_))
            | ((with_reducible refine g_call 10 ?_); (first | (refine Ef_callNX rfl rfl ent_10 (fun w hp => to1 w (hp.rd ha fun _ => List.not_mem_nil) (hp.ins_old hia)) ?_; (first | ((fail_if_success have := m1); rintro ⟨⟨A1, c1⟩, m1⟩ hm1) | ((fail_if_success have := m3); rintro ⟨⟨A3, c3⟩, m3⟩ hm3) | rintro ⟨⟨A4, c4⟩, m4⟩ hm4)) | (refine Ef_callNX rfl rfl ent_10 (fun w hp => to2 w (hp.rd hb fun _ => List.not_mem_nil) (hp.ins_old hib)) ?_; rintro ⟨⟨A2, c2⟩, m2⟩ hm2)))
            | ((with_reducible refine g_call 9 ?_); (first | ((refine' Ef_callP rfl rfl ent_9 (fun w hp => same_q A1 c1 m1 A2 c2 m2 w hm1 hm2 (hp.rowOf ?q1) (hp.rowOf ?q2) (hp.ins_bag ?q3) (hp.ins_bag ?q4) hl4 hk4 _ hq1) ?_); (case q1 => (repeat (first | exact .head _ | apply List.Mem.tail))); (case q2 => (repeat (first | exact .head _ | apply List.Mem.tail))); (case q3 => (repeat (first | exact .head _ | apply List.Mem.tail))); (case q4 => (repeat (first | exact .head _ | apply List.Mem.tail)))) | ((refine' Ef_callP rfl rfl ent_9 (fun w hp => same_q A3 c3 m3 A4 c4 m4 w hm3 hm4 (hp.rowOf ?q1) (hp.rowOf ?q2) (hp.ins_bag ?q3) (hp.ins_bag ?q4) hl4 hk4 _ (Rl.same_self _)) ?_); (case q1 => (repeat (first | exact .head _ | apply List.Mem.tail))); (case q2 => (repeat (first | exact .head _ | apply List.Mem.tail))); (case q3 => (repeat (first | exact .head _ | apply List.Mem.tail))); (case q4 => (repeat (first | exact .head _ | apply List.Mem.tail))))))
            | ((with_reducible refine g_call 11 ?_); (first | refine Ef_callP rfl rfl ent_11 (fun w hp => rsame_q A c l B d m w rfl rfl (hp.rd ha fun _ => List.not_mem_nil) (hp.rd hb fun _ => List.not_mem_nil) (hp.ins_old hia) (hp.ins_old hib) hl4 hk4 _ hq1) ?_))
            | ((with_reducible refine g_call 12 ?_); (first | refine Ef_callP rfl rfl ent_12 (fun w hp => sreply_v r s h g w (hp.in_old hr) (hp.in_old hs) hkr _ hq2) ?_ | refine Ef_callP rfl rfl ent_12 (fun w hp => sreply_v r r h h w (hp.in_old hr) (hp.in_old hr) hkr _ (Rl.eqR_self _)) ?_))
            | ((with_reducible refine g_call 13 ?_); (first | refine Ef_callP rfl rfl ent_13 (fun w hp => rsreply_v r s h g w (hp.in_old hr) (hp.in_old hs) hkr _ hq2) ?_))
            | ((with_reducible refine g_call 14 ?_); (first | refine Ef_callP rfl rfl ent_14 (fun w _ => awake_v w) ?_))))
            | ((with_reducible refine g_draw ?_); (first | (((with_reducible refine' T.drawM (id := 3) [(0, true), (2, true), (5, true), (6, true), (1, false), (3, false), (4, false), (7, false), (8, false), (9, false), (10, true), (12, true), (11, false), (13, false), (14, false), (15, false), (16, false), (17, true), (18, true), (20, true), (21, true), (19, false), (22, false), (23, false), (24, false), (25, false), (26, true), (27, false), (28, false), (29, false), (30, false), (31, false), (32, false), (33, false)] mixd ?q1 ?_); (case q1 => kernel_rfl)))))
            | refine w1 ?_
            | (refine w2 ?_ ?_ <;> intro hc)
            | (first | ((refine' ⟨_, Yl_convW (k := .i64) (k' := .u64) rfl ?q1 ?q2, ?_⟩); (case q1 => exact und_of rfl); (case q2 => exact und_of rfl)) | ((refine' ⟨_, Yl_convI (k := .u64) (k' := .i64) rfl ?q1 ?q2 hmod1, ?_⟩); (case q1 => exact und_of rfl); (case q2 => exact und_of rfl)) | ((refine' ⟨_, Yl_convI (k := .u64) (k' := .i64) rfl ?q1 ?q2 hmod2, ?_⟩); (case q1 => exact und_of rfl); (case q2 => exact und_of rfl)) | ((refine' ⟨_, Yl_remE rfl rfl ?q1 ?q2 hn1, ?_⟩); (case q1 => exact wrap_u64_lo _); (case q2 => decide)) | ((refine' ⟨_, Yl_remE rfl rfl ?q1 ?q2 hn2, ?_⟩); (case q1 => exact wrap_u64_lo _); (case q2 => decide)))
            | (refine w4 ?_; (first | ((fail_if_success have := b1); intro b1) | ((fail_if_success have := b2); intro b2) | ((fail_if_success have := b3); intro b3) | ((fail_if_success have := b4); intro b4) | intro _))
            | (refine w5 ?_; (first | ((fail_if_success have := A1); intro A1 c1) | ((fail_if_success have := A2); intro A2 c2) | ((fail_if_success have := A3); intro A3 c3) | ((fail_if_success have := A4); intro A4 c4) | intro _ _))
            | refine w3 ?_ ?_
            | fail_if_success skip)
        all_goals exact ret_n [] (res1 rfl rfl) (List.nil_sublist _) ⟨rfl, rfl⟩
    · rw [h2] at hg2
      refine Sp.enter (n := 60) Try.func3 rfl rfl rfl (Hp.refl w) ?_
      repeat' (first
          | ((with_reducible refine ie_callf ?_); (first
          | ((with_reducible refine g_call 8 ?_); (first | refine Ef_callP rfl rfl ent_8 (fun w hp => hg1 w (hp.rd ha fun _ => List.not_mem_nil)) ?_ | refine Ef_callP rfl rfl ent_8 (fun w hp => hg2 w (hp.rd hb fun _ => List.not_mem_nil)) ?_))
          | ((with_reducible refine g_call 10 ?_); (first | (refine Ef_callNX rfl rfl ent_10 (fun w hp => to1 w (hp.rd ha fun _ => List.not_mem_nil) (hp.ins_old hia)) ?_; (first | ((fail_if_success have := m1); rintro ⟨⟨A1, c1⟩, m1⟩ hm1) | ((fail_if_success have := m3); rintro ⟨⟨A3, c3⟩, m3⟩ hm3) | rintro ⟨⟨A4, c4⟩, m4⟩ hm4)) | (refine Ef_callNX rfl rfl ent_10 (fun w hp => to2 w (hp.rd hb fun _ => List.not_mem_nil) (hp.ins_old hib)) ?_; rintro ⟨⟨A2, c2⟩, m2⟩ hm2)))
          | ((with_reducible refine g_call 9 ?_); (first | ((refine' Ef_callP rfl rfl ent_9 (fun w hp => same_q A1 c1 m1 A2 c2 m2 w hm1 hm2 (hp.rowOf ?q1) (hp.rowOf ?q2) (hp.ins_bag ?q3) (hp.ins_bag ?q4) hl4 hk4 _ hq1) ?_); (case q1 => (repeat (first | exact .head _ | apply List.Mem.tail))); (case q2 => (repeat (first | exact .head _ | apply List.Mem.tail))); (case q3 => (repeat (first | exact .head _ | apply List.Mem.tail))); (case q4 => (repeat (first | exact .head _ | apply List.Mem.tail)))) | ((refine' Ef_callP rfl rfl ent_9 (fun w hp => same_q A3 c3 m3 A4 c4 m4 w hm3 hm4 (hp.rowOf ?q1) (hp.rowOf ?q2) (hp.ins_bag ?q3) (hp.ins_bag ?q4) hl4 hk4 _ (Rl.same_self _)) ?_); (case q1 => (repeat (first | exact .head _ | apply List.Mem.tail))); (case q2 => (repeat (first | exact .head _ | apply List.Mem.tail))); (case q3 => (repeat (first | exact .head _ | apply List.Mem.tail))); (case q4 => (repeat (first | exact .head _ | apply List.Mem.tail))))))
          | ((with_reducible refine g_call 11 ?_); (first | refine Ef_callP rfl rfl ent_11 (fun w hp => rsame_q A c l B d m w rfl rfl (hp.rd ha fun _ => List.not_mem_nil) (hp.rd hb fun _ => List.not_mem_nil) (hp.ins_old hia) (hp.ins_old hib) hl4 hk4 _ hq1) ?_))
          | ((with_reducible refine g_call 12 ?_); (first | refine Ef_callP rfl rfl ent_12 (fun w hp => sreply_v r s h g w (hp.in_old hr) (hp.in_old hs) hkr _ hq2) ?_ | refine Ef_callP rfl rfl ent_12 (fun w hp => sreply_v r r h h w (hp.in_old hr) (hp.in_old hr) hkr _ (Rl.eqR_self _)) ?_))
          | ((with_reducible refine g_call 13 ?_); (first | refine Ef_callP rfl rfl ent_13 (fun w hp => rsreply_v r s h g w (hp.in_old hr) (hp.in_old hs) hkr _ hq2) ?_))
          | ((with_reducible refine g_call 14 ?_); (first | refine Ef_callP rfl rfl ent_14 (fun w _ => awake_v w) ?_))))
          | ((with_reducible refine g_draw ?_); (first | (((with_reducible refine' T.drawM (id := 3) [(0, true), (2, true), (5, true), (6, true), (1, false), (3, false), (4, false), (7, false), (8, false), (9, false), (10, true), (12, true), (11, false), (13, false), (14, false), (15, false), (16, false), (17, true), (18, true), (20, true), (21, true), (19, false), (22, false), (23, false), (24, false), (25, false), (26, true), (27, false), (28, false), (29, false), (30, false), (31, false), (32, false), (33, false)] mixd ?q1 ?_); (case q1 => kernel_rfl)))))
          | refine w1 ?_
          | (refine w2 ?_ ?_ <;> intro hc)
          | (first | ((refine' ⟨_, Yl_convW (k := .i64) (k' := .u64) rfl ?q1 ?q2, ?_⟩); (case q1 => exact und_of rfl); (case q2 => exact und_of rfl)) | ((refine' ⟨_, Yl_convI (k := .u64) (k' := .i64) rfl ?q1 ?q2 hmod1, ?_⟩); (case q1 => exact und_of rfl); (case q2 => exact und_of rfl)) | ((refine' ⟨_, Yl_convI (k := .u64) (k' := .i64) rfl ?q1 ?q2 hmod2, ?_⟩); (case q1 => exact und_of rfl); (case q2 => exact und_of rfl)) | ((refine' ⟨_, Yl_remE rfl rfl ?q1 ?q2 hn1, ?_⟩); (case q1 => exact wrap_u64_lo _); (case q2 => decide)) | ((refine' ⟨_, Yl_remE rfl rfl ?q1 ?q2 hn2, ?_⟩); (case q1 => exact wrap_u64_lo _); (case q2 => decide)))
          | (refine w4 ?_; (first | ((fail_if_success have := b1); intro b1) | ((fail_if_success have := b2); intro b2) | ((fail_if_success have := b3); intro b3) | ((fail_if_success have := b4); intro b4) | intro _))
          | (refine w5 ?_; (first | ((fail_if_success have := A1); intro A1 c1) | ((fail_if_success have := A2); intro A2 c2) | ((fail_if_success have := A3); intro A3 c3) | ((fail_if_success have := A4); intro A4 c4) | intro _ _))
          | refine w3 ?_ ?_
          | fail_if_success skip)
      all_goals exact ret_n [] (res1 rfl rfl) (List.nil_sublist _) ⟨rfl, rfl⟩
  · rw [h1] at hg1
    refine Sp.enter (n := 60) Try.func3 rfl rfl rfl (Hp.refl w) ?_
    repeat' (first
        | ((with_reducible refine ie_callf ?_); (first
        | ((with_reducible refine g_call 8 ?_); (first | refine Ef_callP rfl rfl ent_8 (fun w hp => hg1 w (hp.rd ha fun _ => List.not_mem_nil)) ?_ | refine Ef_callP rfl rfl ent_8 (fun w hp => hg2 w (hp.rd hb fun _ => List.not_mem_nil)) ?_))
        | ((with_reducible refine g_call 10 ?_); (first | (refine Ef_callNX rfl rfl ent_10 (fun w hp => to1 w (hp.rd ha fun _ => List.not_mem_nil) (hp.ins_old hia)) ?_; (first | ((fail_if_success have := m1); rintro ⟨⟨A1, c1⟩, m1⟩ hm1) | ((fail_if_success have := m3); rintro ⟨⟨A3, c3⟩, m3⟩ hm3) | rintro ⟨⟨A4, c4⟩, m4⟩ hm4)) | (refine Ef_callNX rfl rfl ent_10 (fun w hp => to2 w (hp.rd hb fun _ => List.not_mem_nil) (hp.ins_old hib)) ?_; rintro ⟨⟨A2, c2⟩, m2⟩ hm2)))
        | ((with_reducible refine g_call 9 ?_); (first | ((refine' Ef_callP rfl rfl ent_9 (fun w hp => same_q A1 c1 m1 A2 c2 m2 w hm1 hm2 (hp.rowOf ?q1) (hp.rowOf ?q2) (hp.ins_bag ?q3) (hp.ins_bag ?q4) hl4 hk4 _ hq1) ?_); (case q1 => (repeat (first | exact .head _ | apply List.Mem.tail))); (case q2 => (repeat (first | exact .head _ | apply List.Mem.tail))); (case q3 => (repeat (first | exact .head _ | apply List.Mem.tail))); (case q4 => (repeat (first | exact .head _ | apply List.Mem.tail)))) | ((refine' Ef_callP rfl rfl ent_9 (fun w hp => same_q A3 c3 m3 A4 c4 m4 w hm3 hm4 (hp.rowOf ?q1) (hp.rowOf ?q2) (hp.ins_bag ?q3) (hp.ins_bag ?q4) hl4 hk4 _ (Rl.same_self _)) ?_); (case q1 => (repeat (first | exact .head _ | apply List.Mem.tail))); (case q2 => (repeat (first | exact .head _ | apply List.Mem.tail))); (case q3 => (repeat (first | exact .head _ | apply List.Mem.tail))); (case q4 => (repeat (first | exact .head _ | apply List.Mem.tail))))))
        | ((with_reducible refine g_call 11 ?_); (first | refine Ef_callP rfl rfl ent_11 (fun w hp => rsame_q A c l B d m w rfl rfl (hp.rd ha fun _ => List.not_mem_nil) (hp.rd hb fun _ => List.not_mem_nil) (hp.ins_old hia) (hp.ins_old hib) hl4 hk4 _ hq1) ?_))
        | ((with_reducible refine g_call 12 ?_); (first | refine Ef_callP rfl rfl ent_12 (fun w hp => sreply_v r s h g w (hp.in_old hr) (hp.in_old hs) hkr _ hq2) ?_ | refine Ef_callP rfl rfl ent_12 (fun w hp => sreply_v r r h h w (hp.in_old hr) (hp.in_old hr) hkr _ (Rl.eqR_self _)) ?_))
        | ((with_reducible refine g_call 13 ?_); (first | refine Ef_callP rfl rfl ent_13 (fun w hp => rsreply_v r s h g w (hp.in_old hr) (hp.in_old hs) hkr _ hq2) ?_))
        | ((with_reducible refine g_call 14 ?_); (first | refine Ef_callP rfl rfl ent_14 (fun w _ => awake_v w) ?_))))
        | ((with_reducible refine g_draw ?_); (first | (((with_reducible refine' T.drawM (id := 3) [(0, true), (2, true), (5, true), (6, true), (1, false), (3, false), (4, false), (7, false), (8, false), (9, false), (10, true), (12, true), (11, false), (13, false), (14, false), (15, false), (16, false), (17, true), (18, true), (20, true), (21, true), (19, false), (22, false), (23, false), (24, false), (25, false), (26, true), (27, false), (28, false), (29, false), (30, false), (31, false), (32, false), (33, false)] mixd ?q1 ?_); (case q1 => kernel_rfl)))))
        | refine w1 ?_
        | (refine w2 ?_ ?_ <;> intro hc)
        | (first | ((refine' ⟨_, Yl_convW (k := .i64) (k' := .u64) rfl ?q1 ?q2, ?_⟩); (case q1 => exact und_of rfl); (case q2 => exact und_of rfl)) | ((refine' ⟨_, Yl_convI (k := .u64) (k' := .i64) rfl ?q1 ?q2 hmod1, ?_⟩); (case q1 => exact und_of rfl); (case q2 => exact und_of rfl)) | ((refine' ⟨_, Yl_convI (k := .u64) (k' := .i64) rfl ?q1 ?q2 hmod2, ?_⟩); (case q1 => exact und_of rfl); (case q2 => exact und_of rfl)) | ((refine' ⟨_, Yl_remE rfl rfl ?q1 ?q2 hn1, ?_⟩); (case q1 => exact wrap_u64_lo _); (case q2 => decide)) | ((refine' ⟨_, Yl_remE rfl rfl ?q1 ?q2 hn2, ?_⟩); (case q1 => exact wrap_u64_lo _); (case q2 => decide)))
        | (refine w4 ?_; (first | ((fail_if_success have := b1); intro b1) | ((fail_if_success have := b2); intro b2) | ((fail_if_success have := b3); intro b3) | ((fail_if_success have := b4); intro b4) | intro _))
        | (refine w5 ?_; (first | ((fail_if_success have := A1); intro A1 c1) | ((fail_if_success have := A2); intro A2 c2) | ((fail_if_success have := A3); intro A3 c3) | ((fail_if_success have := A4); intro A4 c4) | intro _ _))
        | refine w3 ?_ ?_
        | fail_if_success skip)
    exact ret_n [] (res1 rfl rfl) (List.nil_sublist _) ⟨rfl, rfl⟩
end

set_option maxHeartbeats 8000000 in
theorem next_law (n1 n2 : Int) : Sp Try.prog 6 [.slice A l.length c, .int .i64 n1, .int .i64 n2] w [] fun v N => v = .bool true ∧ N = [] := by
  have hg1 := fun w h => great_v A c l w h (by omega) hlk _ rfl
  cases h1 : Rl.big l
  · rw [h1] at hg1
    obtain ⟨b1, b2⟩ := Rl.big_no h1
    have hl2 : (l.map (·.1)).length ≤ 200 := by rw [List.length_map]; omega
    have hk4 := keys_la b2
    have to1 := fun w h hi => to_c A l.length c l w h rfl (by omega) hi b2
    clear b1 b2 h1
    have hmod1 := wrap_mod n1 4 (by decide) (by decide)
    have hmod2 := wrap_mod n2 30 (by decide) (by decide)
    have g1 := Int.emod_nonneg (IntKind.wrap .u64 n1) (show (4 : Int) ≠ 0 by omega)
    have g2 := Int.emod_lt_of_pos (IntKind.wrap .u64 n1) (show (0 : Int) < 4 by omega)
    have g3 := Int.emod_nonneg (IntKind.wrap .u64 n2) (show (30 : Int) ≠ 0 by omega)
    have g4 := Int.emod_lt_of_pos (IntKind.wrap .u64 n2) (show (0 : Int) < 30 by omega)
    generalize hn1 : IntKind.wrap .u64 n1 % 4 = t at hmod1 g1 g2
    generalize hn2 : IntKind.wrap .u64 n2 % 30 = u at hmod2 g3 g4
    have hf : Rl.fits t (1 + u) = true := decide_eq_true (by omega)
    rcases Rl.next_or (l := l.map (·.1)) hf with ⟨hmy, hq1⟩ | ⟨hmy, ⟨g5, hq1⟩ | ⟨r0, g5, hq1⟩ | ⟨g5, hq1⟩⟩
    all_goals
      have hsk := fun A1 c1 m1 w hm1 h1 h2 => ask_q A1 c1 m1 w hm1 h1 hl2 h2 hk4 t (1 + u) _ hq1
      dsimp only at hsk
      refine Sp.enter (n := 73) Try.func6 rfl rfl rfl (Hp.refl w) ?_
      repeat' (first
          | ((with_reducible refine ie_store ?_); (first | ((refine' Ef_storeA' rfl rfl ?q1 (rE_one _ _) ?q2 ?q3 ?_); (case q1 => exact siz_of rfl); (case q2 => (first | exact at0 | exact at1 | exact at2 | exact at3 | exact at4 | exact at5 | exact at6)); (case q3 => rfl))))
          | ((with_reducible refine ie_callf ?_); (first
          | ((with_reducible refine g_call 8 ?_); (first | refine Ef_callP rfl rfl ent_8 (fun w hp => hg1 w (hp.rd ha fun _ => List.not_mem_nil)) ?_ | refine Ef_callP rfl rfl ent_8 (fun w hp => hg2 w (hp.rd hb fun _ => List.not_mem_nil)) ?_))
          | ((with_reducible refine g_call 10 ?_); (first | (refine Ef_callNX rfl rfl ent_10 (fun w hp => to1 w (hp.rd ha fun _ => List.not_mem_nil) (hp.ins_old hia)) ?_; (first | ((fail_if_success have := m1); rintro ⟨⟨A1, c1⟩, m1⟩ hm1) | ((fail_if_success have := m3); rintro ⟨⟨A3, c3⟩, m3⟩ hm3) | rintro ⟨⟨A4, c4⟩, m4⟩ hm4)) | (refine Ef_callNX rfl rfl ent_10 (fun w hp => to2 w (hp.rd hb fun _ => List.not_mem_nil) (hp.ins_old hib)) ?_; rintro ⟨⟨A2, c2⟩, m2⟩ hm2)))
          | ((with_reducible refine g_call 14 ?_); (first | refine Ef_callP rfl rfl ent_14 (fun w _ => awake_v w) ?_))
          | ((with_reducible refine g_call 15 ?_); (first | (((refine' Ef_callN rfl rfl ent_15 (fun w hp => hsk A1 c1 m1 w hm1 (hp.rowOf ?q1) (hp.ins_bag ?q2)) ?_); (case q1 => (repeat (first | exact .head _ | apply List.Mem.tail))); (case q2 => (repeat (first | exact .head _ | apply List.Mem.tail)))); rintro ⟨A5, c5⟩)))
          | ((with_reducible refine g_call 19 ?_); (first | ((refine' Ef_callP rfl rfl ent_19 (fun w hp => may_q A1 c1 m1 w hm1 (hp.rowOf ?q1) hl2 _ hmy) ?_); (case q1 => (repeat (first | exact .head _ | apply List.Mem.tail))))))
          | ((with_reducible refine g_call 18 ?_); (first | ((refine' Ef_callP rfl rfl ent_18 (fun w hp => of_q A1 c1 m1 w hm1 (hp.rowOf ?q1) hl2 t _ rfl) ?_); (case q1 => (repeat (first | exact .head _ | apply List.Mem.tail))))))))
          | refine w1 ?_
          | (refine w2 ?_ ?_ <;> intro hc)
          | (first | ((refine' ⟨_, Yl_convW (k := .i64) (k' := .u64) rfl ?q1 ?q2, ?_⟩); (case q1 => exact und_of rfl); (case q2 => exact und_of rfl)) | ((refine' ⟨_, Yl_convI (k := .u64) (k' := .i64) rfl ?q1 ?q2 hmod1, ?_⟩); (case q1 => exact und_of rfl); (case q2 => exact und_of rfl)) | ((refine' ⟨_, Yl_convI (k := .u64) (k' := .i64) rfl ?q1 ?q2 hmod2, ?_⟩); (case q1 => exact und_of rfl); (case q2 => exact und_of rfl)) | ((refine' ⟨_, Yl_remE rfl rfl ?q1 ?q2 hn1, ?_⟩); (case q1 => exact wrap_u64_lo _); (case q2 => decide)) | ((refine' ⟨_, Yl_remE rfl rfl ?q1 ?q2 hn2, ?_⟩); (case q1 => exact wrap_u64_lo _); (case q2 => decide)))
          | (refine w4 ?_; (first | ((fail_if_success have := b1); intro b1) | ((fail_if_success have := b2); intro b2) | intro _))
          | (refine w5 ?_; (first | ((fail_if_success have := A1); intro A1 c1) | ((fail_if_success have := A2); intro A2 c2) | ((fail_if_success have := A3); intro A3 c3) | ((fail_if_success have := A4); intro A4 c4) | ((fail_if_success have := A5); intro A5 c5) | intro _ _))
          | refine w3 ?_ ?_
          | fail_if_success skip)
      exact ret_n [] (res1 rfl rfl) (List.nil_sublist _) ⟨rfl, rfl⟩
  · rw [h1] at hg1
    refine Sp.enter (n := 73) Try.func6 rfl rfl rfl (Hp.refl w) ?_
    repeat' (first
        | ((with_reducible refine ie_store ?_); (first | ((refine' Ef_storeA' rfl rfl ?q1 (rE_one _ _) ?q2 ?q3 ?_); (case q1 => exact siz_of rfl); (case q2 => (first | exact at0 | exact at1 | exact at2 | exact at3 | exact at4 | exact at5 | exact at6)); (case q3 => rfl))))
        | ((with_reducible refine ie_callf ?_); (first
        | ((with_reducible refine g_call 8 ?_); (first | refine Ef_callP rfl rfl ent_8 (fun w hp => hg1 w (hp.rd ha fun _ => List.not_mem_nil)) ?_ | refine Ef_callP rfl rfl ent_8 (fun w hp => hg2 w (hp.rd hb fun _ => List.not_mem_nil)) ?_))
        | ((with_reducible refine g_call 10 ?_); (first | (refine Ef_callNX rfl rfl ent_10 (fun w hp => to1 w (hp.rd ha fun _ => List.not_mem_nil) (hp.ins_old hia)) ?_; (first | ((fail_if_success have := m1); rintro ⟨⟨A1, c1⟩, m1⟩ hm1) | ((fail_if_success have := m3); rintro ⟨⟨A3, c3⟩, m3⟩ hm3) | rintro ⟨⟨A4, c4⟩, m4⟩ hm4)) | (refine Ef_callNX rfl rfl ent_10 (fun w hp => to2 w (hp.rd hb fun _ => List.not_mem_nil) (hp.ins_old hib)) ?_; rintro ⟨⟨A2, c2⟩, m2⟩ hm2)))
        | ((with_reducible refine g_call 14 ?_); (first | refine Ef_callP rfl rfl ent_14 (fun w _ => awake_v w) ?_))
        | ((with_reducible refine g_call 15 ?_); (first | (((refine' Ef_callN rfl rfl ent_15 (fun w hp => hsk A1 c1 m1 w hm1 (hp.rowOf ?q1) (hp.ins_bag ?q2)) ?_); (case q1 => (repeat (first | exact .head _ | apply List.Mem.tail))); (case q2 => (repeat (first | exact .head _ | apply List.Mem.tail)))); rintro ⟨A5, c5⟩)))
        | ((with_reducible refine g_call 19 ?_); (first | ((refine' Ef_callP rfl rfl ent_19 (fun w hp => may_q A1 c1 m1 w hm1 (hp.rowOf ?q1) hl2 _ hmy) ?_); (case q1 => (repeat (first | exact .head _ | apply List.Mem.tail))))))
        | ((with_reducible refine g_call 18 ?_); (first | ((refine' Ef_callP rfl rfl ent_18 (fun w hp => of_q A1 c1 m1 w hm1 (hp.rowOf ?q1) hl2 t _ rfl) ?_); (case q1 => (repeat (first | exact .head _ | apply List.Mem.tail))))))))
        | refine w1 ?_
        | (refine w2 ?_ ?_ <;> intro hc)
        | (first | ((refine' ⟨_, Yl_convW (k := .i64) (k' := .u64) rfl ?q1 ?q2, ?_⟩); (case q1 => exact und_of rfl); (case q2 => exact und_of rfl)) | ((refine' ⟨_, Yl_convI (k := .u64) (k' := .i64) rfl ?q1 ?q2 hmod1, ?_⟩); (case q1 => exact und_of rfl); (case q2 => exact und_of rfl)) | ((refine' ⟨_, Yl_convI (k := .u64) (k' := .i64) rfl ?q1 ?q2 hmod2, ?_⟩); (case q1 => exact und_of rfl); (case q2 => exact und_of rfl)) | ((refine' ⟨_, Yl_remE rfl rfl ?q1 ?q2 hn1, ?_⟩); (case q1 => exact wrap_u64_lo _); (case q2 => decide)) | ((refine' ⟨_, Yl_remE rfl rfl ?q1 ?q2 hn2, ?_⟩); (case q1 => exact wrap_u64_lo _); (case q2 => decide)))
        | (refine w4 ?_; (first | ((fail_if_success have := b1); intro b1) | ((fail_if_success have := b2); intro b2) | intro _))
        | (refine w5 ?_; (first | ((fail_if_success have := A1); intro A1 c1) | ((fail_if_success have := A2); intro A2 c2) | ((fail_if_success have := A3); intro A3 c3) | ((fail_if_success have := A4); intro A4 c4) | ((fail_if_success have := A5); intro A5 c5) | intro _ _))
        | refine w3 ?_ ?_
        | fail_if_success skip)
    exact ret_n [] (res1 rfl rfl) (List.nil_sublist _) ⟨rfl, rfl⟩
end
end Go.Proofs.Ythiacfpfgdoliaa
