/- The law on what is told of a space: what a call of it comes to. -/
import Derived.Test.YtimmabejfigleaaT8
import Derived.Test.YtimmabejfigleaaT6
import Derived.Test.YtimmabejfigleaaKu
namespace Go.Proofs.Ytimmabejfigleaa
open Go.RowKit
set_option maxRecDepth 20000

section
variable (A : Option Addr) (cap : Nat) (l : List Pr) (B : Option Addr) (capb : Nat) (m : List Pr) (w : World) (hr : Rd w A l.length 2 (l.flatMap pE)) (hB : Rd w B m.length 2 (m.flatMap pE)) (hle : l.length ≤ 9223372036854775807) (hle2 : m.length ≤ 9223372036854775807)
include hr hB hle hle2
set_option maxHeartbeats 16000000 in
theorem looks_c (k y k' y' : Int) (f : ByteArray) (n : Int) : Sp Try.prog 7 [.agg (sV k y (A, cap) l.length), .agg (sV k' y' (B, capb) m.length), .string f, .int .i64 n] w [] fun v N => v = .bool true ∧ N = [] := by
  have hgr1 := fun w => great_v A l.length cap w k y
  have hgr2 := fun w => great_v B m.length capb w k' y'
  by_cases hbig : (l.length : Int) > 100 ∨ (¬ (l.length : Int) > 100 ∧ (m.length : Int) > 100)
  · rcases hbig with h | ⟨h, h2⟩
    · rw [decide_eq_true h] at hgr1
      refine Sp.enter (n := 119) Try.func7 rfl rfl rfl (Hp.refl w) ?_
      repeat' (first
          | ((with_reducible refine ie_callf ?_); (first
          | ((with_reducible refine g_call 9 ?_); (first | refine Ef_callP rfl rfl ent_9 (fun w _ => hgr1 w) ?_ | refine Ef_callP rfl rfl ent_9 (fun w _ => hgr2 w) ?_))
          | ((with_reducible refine g_call 11 ?_); (first | (((refine' Ef_callN rfl rfl ent_11 (fun w hp => to_c A l.length cap l w (hp.rd hr fun _ => List.not_mem_nil) rfl ?q1 k y) ?_); (case q1 => omega)); (first | ((fail_if_success have := A1); rintro ⟨A1, c1⟩) | ((fail_if_success have := A2); rintro ⟨A2, c2⟩) | ((fail_if_success have := A3); rintro ⟨A3, c3⟩) | ((fail_if_success have := A4); rintro ⟨A4, c4⟩) | ((fail_if_success have := A5); rintro ⟨A5, c5⟩))) | (((refine' Ef_callN rfl rfl ent_11 (fun w hp => to_c B m.length capb m w (hp.rd hB fun _ => List.not_mem_nil) rfl ?q1 k' y') ?_); (case q1 => omega)); (first | ((fail_if_success have := A1); rintro ⟨A1, c1⟩) | ((fail_if_success have := A2); rintro ⟨A2, c2⟩) | ((fail_if_success have := A3); rintro ⟨A3, c3⟩) | ((fail_if_success have := A4); rintro ⟨A4, c4⟩) | ((fail_if_success have := A5); rintro ⟨A5, c5⟩)))))
          | ((with_reducible refine g_call 13 ?_); (first | (((refine' Ef_callN rfl rfl ent_13 (fun w hp => hl1 A1 c1 w (rT_rd (hp.rowOf ?q1)) (hp.capOf (A := A1) (m := l.length + 1) (cap := c1) ?q2)) ?_); (case q1 => (repeat (first | exact .head _ | apply List.Mem.tail))); (case q2 => (repeat (first | exact .head _ | apply List.Mem.tail)))); (first | ((fail_if_success have := A1); rintro ⟨A1, c1⟩) | ((fail_if_success have := A2); rintro ⟨A2, c2⟩) | ((fail_if_success have := A3); rintro ⟨A3, c3⟩) | ((fail_if_success have := A4); rintro ⟨A4, c4⟩) | ((fail_if_success have := A5); rintro ⟨A5, c5⟩)))))
          | ((with_reducible refine g_call 29 ?_); (first | (refine Ef_callN rfl rfl ent_29 (fun w hp => hl2 w (hp.rd hr fun _ => List.not_mem_nil)) ?_; (first | ((fail_if_success have := A1); rintro ⟨A1, c1⟩) | ((fail_if_success have := A2); rintro ⟨A2, c2⟩) | ((fail_if_success have := A3); rintro ⟨A3, c3⟩) | ((fail_if_success have := A4); rintro ⟨A4, c4⟩) | ((fail_if_success have := A5); rintro ⟨A5, c5⟩)))))
          | ((with_reducible refine g_call 12 ?_); (first | ((refine' Ef_callP rfl rfl ent_12 (fun w hp => hus A1 c1 w (rT_rd (hp.rowOf ?q1))) ?_); (case q1 => (repeat (first | exact .head _ | apply List.Mem.tail))))))
          | ((with_reducible refine g_call 30 ?_); (first | refine Ef_callP rfl rfl ent_30 (fun w hp => hrm w (hp.rd hr fun _ => List.not_mem_nil)) ?_))
          | ((with_reducible refine g_call 31 ?_); (first | refine Ef_callP rfl rfl ent_31 (fun w hp => hcn w (hp.rd hr fun _ => List.not_mem_nil)) ?_))
          | ((with_reducible refine g_call 28 ?_); (first | ((refine' Ef_callP rfl rfl ent_28 (fun w hp => hma A1 c1 w (rT_rd (hp.rowOf ?q1))) ?_); (case q1 => (repeat (first | exact .head _ | apply List.Mem.tail))))))
          | ((with_reducible refine g_call 32 ?_); (first | ((refine' Ef_callP rfl rfl ent_32 (fun w hp => same_v A1 l.length c1 l A4 m.length c4 m w (rT_rd (hp.rowOf ?q1)) (rT_rd (hp.rowOf ?q2)) rfl rfl ?q3 k y k' y' _ hd) ?_); (case q1 => (repeat (first | exact .head _ | apply List.Mem.tail))); (case q2 => (repeat (first | exact .head _ | apply List.Mem.tail))); (case q3 => omega)) | ((refine' Ef_callP rfl rfl ent_32 (fun w hp => same_v A1 l.length c1 l A5 l.length c5 l w (rT_rd (hp.rowOf ?q1)) (rT_rd (hp.rowOf ?q2)) rfl rfl ?q3 k y k y true ?q4) ?_); (case q1 => (repeat (first | exact .head _ | apply List.Mem.tail))); (case q2 => (repeat (first | exact .head _ | apply List.Mem.tail))); (case q3 => omega); (case q4 => exact decide_eq_true ⟨rfl, rfl, rfl⟩))))
          | ((with_reducible refine g_call 33 ?_); (first | ((refine' Ef_callP rfl rfl ent_33 (fun w hp => rsame_v A l.length cap l B m.length capb m w (hp.rd hr fun _ => List.not_mem_nil) (hp.rd hB fun _ => List.not_mem_nil) rfl rfl ?q1 k y k' y' _ hd) ?_); (case q1 => omega))))
          | ((with_reducible refine g_call 19 ?_); (first | ((refine' Ef_callP rfl rfl ent_19 (fun w hp => stays_v A1 c1 l A cap w (hp.rowOf ?q1) (hp.rd hr fun _ => List.not_mem_nil) (hp.capOf (A := A1) (m := l.length + 1) (cap := c1) ?q2) ?q3 k y) ?_); (case q1 => (repeat (first | exact .head _ | apply List.Mem.tail))); (case q2 => (repeat (first | exact .head _ | apply List.Mem.tail))); (case q3 => omega))))
          | ((with_reducible refine g_call 10 ?_); (first | refine Ef_callP rfl rfl ent_10 (fun w _ => awake_c w) ?_))))
          | ((with_reducible refine g_draw ?_); (first | (((with_reducible refine' T.drawM (id := 4) [(0, true), (1, true), (2, true), (4, true), (5, true), (6, true), (3, false), (7, false), (8, false), (9, false)] mixd ?q1 ?_); (case q1 => kernel_rfl))) | (((with_reducible refine' T.drawM (id := 10) [(0, true), (1, true), (2, true), (3, true), (4, true), (5, false), (6, false), (7, false), (8, false)] mixd ?q1 ?_); (case q1 => kernel_rfl))) | (((with_reducible refine' T.drawM (id := 16) [(0, true), (2, true), (1, false), (3, false), (4, false), (5, true), (6, true), (9, true), (10, true), (7, false), (8, false), (11, false), (12, false), (13, false), (14, false), (15, true), (16, false), (17, false), (18, false), (19, false), (20, false), (21, true), (22, false), (23, false), (24, false), (25, false), (26, false), (27, false), (28, false)] mixd ?q1 ?_); (case q1 => kernel_rfl)))))
          | refine w1 ?_
          | (refine w2 ?_ ?_ <;> intro hc)
          | (refine w4 ?_; (first | ((fail_if_success have := b1); intro b1) | ((fail_if_success have := b2); intro b2) | ((fail_if_success have := b3); intro b3) | intro _))
          | (refine w5 ?_; (first | ((fail_if_success have := A1); intro A1 c1) | ((fail_if_success have := A2); intro A2 c2) | ((fail_if_success have := A3); intro A3 c3) | ((fail_if_success have := A4); intro A4 c4) | ((fail_if_success have := A5); intro A5 c5) | intro _ _))
          | refine w3 ?_ ?_
          | fail_if_success skip)
      all_goals exact ret_n [] (res1 rfl rfl) (List.nil_sublist _) ⟨rfl, rfl⟩
    · rw [decide_eq_false h] at hgr1
      rw [decide_eq_true h2] at hgr2
      refine Sp.enter (n := 119) Try.func7 rfl rfl rfl (Hp.refl w) ?_
      repeat' (first
          | ((with_reducible refine ie_callf ?_); (first
          | ((with_reducible refine g_call 9 ?_); (first | refine Ef_callP rfl rfl ent_9 (fun w _ => hgr1 w) ?_ | refine Ef_callP rfl rfl ent_9 (fun w _ => hgr2 w) ?_))
          | ((with_reducible refine g_call 11 ?_); (first | (((refine' Ef_callN rfl rfl ent_11 (fun w hp => to_c A l.length cap l w (hp.rd hr fun _ => List.not_mem_nil) rfl ?q1 k y) ?_); (case q1 => omega)); (first | ((fail_if_success have := A1); rintro ⟨A1, c1⟩) | ((fail_if_success have := A2); rintro ⟨A2, c2⟩) | ((fail_if_success have := A3); rintro ⟨A3, c3⟩) | ((fail_if_success have := A4); rintro ⟨A4, c4⟩) | ((fail_if_success have := A5); rintro ⟨A5, c5⟩))) | (((refine' Ef_callN rfl rfl ent_11 (fun w hp => to_c B m.length capb m w (hp.rd hB fun _ => List.not_mem_nil) rfl ?q1 k' y') ?_); (case q1 => omega)); (first | ((fail_if_success have := A1); rintro ⟨A1, c1⟩) | ((fail_if_success have := A2); rintro ⟨A2, c2⟩) | ((fail_if_success have := A3); rintro ⟨A3, c3⟩) | ((fail_if_success have := A4); rintro ⟨A4, c4⟩) | ((fail_if_success have := A5); rintro ⟨A5, c5⟩)))))
          | ((with_reducible refine g_call 13 ?_); (first | (((refine' Ef_callN rfl rfl ent_13 (fun w hp => hl1 A1 c1 w (rT_rd (hp.rowOf ?q1)) (hp.capOf (A := A1) (m := l.length + 1) (cap := c1) ?q2)) ?_); (case q1 => (repeat (first | exact .head _ | apply List.Mem.tail))); (case q2 => (repeat (first | exact .head _ | apply List.Mem.tail)))); (first | ((fail_if_success have := A1); rintro ⟨A1, c1⟩) | ((fail_if_success have := A2); rintro ⟨A2, c2⟩) | ((fail_if_success have := A3); rintro ⟨A3, c3⟩) | ((fail_if_success have := A4); rintro ⟨A4, c4⟩) | ((fail_if_success have := A5); rintro ⟨A5, c5⟩)))))
          | ((with_reducible refine g_call 29 ?_); (first | (refine Ef_callN rfl rfl ent_29 (fun w hp => hl2 w (hp.rd hr fun _ => List.not_mem_nil)) ?_; (first | ((fail_if_success have := A1); rintro ⟨A1, c1⟩) | ((fail_if_success have := A2); rintro ⟨A2, c2⟩) | ((fail_if_success have := A3); rintro ⟨A3, c3⟩) | ((fail_if_success have := A4); rintro ⟨A4, c4⟩) | ((fail_if_success have := A5); rintro ⟨A5, c5⟩)))))
          | ((with_reducible refine g_call 12 ?_); (first | ((refine' Ef_callP rfl rfl ent_12 (fun w hp => hus A1 c1 w (rT_rd (hp.rowOf ?q1))) ?_); (case q1 => (repeat (first | exact .head _ | apply List.Mem.tail))))))
          | ((with_reducible refine g_call 30 ?_); (first | refine Ef_callP rfl rfl ent_30 (fun w hp => hrm w (hp.rd hr fun _ => List.not_mem_nil)) ?_))
          | ((with_reducible refine g_call 31 ?_); (first | refine Ef_callP rfl rfl ent_31 (fun w hp => hcn w (hp.rd hr fun _ => List.not_mem_nil)) ?_))
          | ((with_reducible refine g_call 28 ?_); (first | ((refine' Ef_callP rfl rfl ent_28 (fun w hp => hma A1 c1 w (rT_rd (hp.rowOf ?q1))) ?_); (case q1 => (repeat (first | exact .head _ | apply List.Mem.tail))))))
          | ((with_reducible refine g_call 32 ?_); (first | ((refine' Ef_callP rfl rfl ent_32 (fun w hp => same_v A1 l.length c1 l A4 m.length c4 m w (rT_rd (hp.rowOf ?q1)) (rT_rd (hp.rowOf ?q2)) rfl rfl ?q3 k y k' y' _ hd) ?_); (case q1 => (repeat (first | exact .head _ | apply List.Mem.tail))); (case q2 => (repeat (first | exact .head _ | apply List.Mem.tail))); (case q3 => omega)) | ((refine' Ef_callP rfl rfl ent_32 (fun w hp => same_v A1 l.length c1 l A5 l.length c5 l w (rT_rd (hp.rowOf ?q1)) (rT_rd (hp.rowOf ?q2)) rfl rfl ?q3 k y k y true ?q4) ?_); (case q1 => (repeat (first | exact .head _ | apply List.Mem.tail))); (case q2 => (repeat (first | exact .head _ | apply List.Mem.tail))); (case q3 => omega); (case q4 => exact decide_eq_true ⟨rfl, rfl, rfl⟩))))
          | ((with_reducible refine g_call 33 ?_); (first | ((refine' Ef_callP rfl rfl ent_33 (fun w hp => rsame_v A l.length cap l B m.length capb m w (hp.rd hr fun _ => List.not_mem_nil) (hp.rd hB fun _ => List.not_mem_nil) rfl rfl ?q1 k y k' y' _ hd) ?_); (case q1 => omega))))
          | ((with_reducible refine g_call 19 ?_); (first | ((refine' Ef_callP rfl rfl ent_19 (fun w hp => stays_v A1 c1 l A cap w (hp.rowOf ?q1) (hp.rd hr fun _ => List.not_mem_nil) (hp.capOf (A := A1) (m := l.length + 1) (cap := c1) ?q2) ?q3 k y) ?_); (case q1 => (repeat (first | exact .head _ | apply List.Mem.tail))); (case q2 => (repeat (first | exact .head _ | apply List.Mem.tail))); (case q3 => omega))))
          | ((with_reducible refine g_call 10 ?_); (first | refine Ef_callP rfl rfl ent_10 (fun w _ => awake_c w) ?_))))
          | ((with_reducible refine g_draw ?_); (first | (((with_reducible refine' T.drawM (id := 4) [(0, true), (1, true), (2, true), (4, true), (5, true), (6, true), (3, false), (7, false), (8, false), (9, false)] mixd ?q1 ?_); (case q1 => kernel_rfl))) | (((with_reducible refine' T.drawM (id := 10) [(0, true), (1, true), (2, true), (3, true), (4, true), (5, false), (6, false), (7, false), (8, false)] mixd ?q1 ?_); (case q1 => kernel_rfl))) | (((with_reducible refine' T.drawM (id := 16) [(0, true), (2, true), (1, false), (3, false), (4, false), (5, true), (6, true), (9, true), (10, true), (7, false), (8, false), (11, false), (12, false), (13, false), (14, false), (15, true), (16, false), (17, false), (18, false), (19, false), (20, false), (21, true), (22, false), (23, false), (24, false), (25, false), (26, false), (27, false), (28, false)] mixd ?q1 ?_); (case q1 => kernel_rfl)))))
          | refine w1 ?_
          | (refine w2 ?_ ?_ <;> intro hc)
          | (refine w4 ?_; (first | ((fail_if_success have := b1); intro b1) | ((fail_if_success have := b2); intro b2) | ((fail_if_success have := b3); intro b3) | intro _))
          | (refine w5 ?_; (first | ((fail_if_success have := A1); intro A1 c1) | ((fail_if_success have := A2); intro A2 c2) | ((fail_if_success have := A3); intro A3 c3) | ((fail_if_success have := A4); intro A4 c4) | ((fail_if_success have := A5); intro A5 c5) | intro _ _))
          | refine w3 ?_ ?_
          | fail_if_success skip)
      all_goals exact ret_n [] (res1 rfl rfl) (List.nil_sublist _) ⟨rfl, rfl⟩
  have hs1 : l.length ≤ 100 := by omega
  have hs2 : m.length ≤ 100 := by omega
  clear hbig
  rw [decide_eq_false (show ¬ (l.length : Int) > 100 by omega)] at hgr1
  rw [decide_eq_false (show ¬ (m.length : Int) > 100 by omega)] at hgr2
  have hl1 := fun A' c' w h (h2 : l.length + 1 ≤ c') => list_c A' l.length c' l w h rfl (by omega) (by omega) k y f n
  have hl2 := fun w h => rlist_c A l.length cap l w h rfl (by omega) k y f n
  obtain ⟨g, hg⟩ : ∃ g, Ks.listR k y l f n = g := ⟨_, rfl⟩
  have hgl : g.length ≤ l.length := by
    rw [← hg]
    unfold Ks.listR Ks.ge
    split
    · rw [List.length_take, List.length_map]
      have := List.length_filter_le (fun p : Pr => !Ks.lt p.1 f) l
      omega
    · exact Nat.zero_le _
  rw [hg] at hl1 hl2
  clear hg
  obtain ⟨d, hd⟩ : ∃ d, decide (k = k' ∧ y = y' ∧ l = m) = d := ⟨_, rfl⟩
  have hus := fun A' c' w h => used_c A' l.length c' l w h rfl (by omega) k y
  obtain ⟨b, hb⟩ : ∃ b, Ks.may k y l = b := ⟨_, rfl⟩
  have hrm := fun w h => rmay_v A l.length cap l w h rfl (by omega) k y b hb
  have hma := fun A' c' w h => may_v A' l.length c' l w h rfl (by omega) k y b hb
  have hcn : b = true → ∀ w, Rd w A l.length 2 (l.flatMap pE) → Sp Try.prog 31 [.slice A l.length cap] w [] fun v N => v = .int .i64 (Ks.cnt l : Int) ∧ N = [] := fun h w h2 => by
    subst h
    have hcb := Ks.cnt_pr ((Ks.may_iff _ _ _).1 hb).pr
    exact rcount_c A l.length cap l w h2 rfl (by omega) (by omega)
  rw [hb] at hus
  clear hb
  cases b <;> cases d
  all_goals
    first | have hcn := hcn rfl | skip
    first | rw [if_pos rfl, if_pos rfl] at hus | rw [if_neg Bool.false_ne_true, if_neg Bool.false_ne_true] at hus
    refine Sp.enter (n := 119) Try.func7 rfl rfl rfl (Hp.refl w) ?_
    repeat' (first
        | ((with_reducible refine ie_callf ?_); (first
        | ((with_reducible refine g_call 9 ?_); (first | refine Ef_callP rfl rfl ent_9 (fun w _ => hgr1 w) ?_ | refine Ef_callP rfl rfl ent_9 (fun w _ => hgr2 w) ?_))
        | ((with_reducible refine g_call 11 ?_); (first | (((refine' Ef_callN rfl rfl ent_11 (fun w hp => to_c A l.length cap l w (hp.rd hr fun _ => List.not_mem_nil) rfl ?q1 k y) ?_); (case q1 => omega)); (first | ((fail_if_success have := A1); rintro ⟨A1, c1⟩) | ((fail_if_success have := A2); rintro ⟨A2, c2⟩) | ((fail_if_success have := A3); rintro ⟨A3, c3⟩) | ((fail_if_success have := A4); rintro ⟨A4, c4⟩) | ((fail_if_success have := A5); rintro ⟨A5, c5⟩))) | (((refine' Ef_callN rfl rfl ent_11 (fun w hp => to_c B m.length capb m w (hp.rd hB fun _ => List.not_mem_nil) rfl ?q1 k' y') ?_); (case q1 => omega)); (first | ((fail_if_success have := A1); rintro ⟨A1, c1⟩) | ((fail_if_success have := A2); rintro ⟨A2, c2⟩) | ((fail_if_success have := A3); rintro ⟨A3, c3⟩) | ((fail_if_success have := A4); rintro ⟨A4, c4⟩) | ((fail_if_success have := A5); rintro ⟨A5, c5⟩)))))
        | ((with_reducible refine g_call 13 ?_); (first | (((refine' Ef_callN rfl rfl ent_13 (fun w hp => hl1 A1 c1 w (rT_rd (hp.rowOf ?q1)) (hp.capOf (A := A1) (m := l.length + 1) (cap := c1) ?q2)) ?_); (case q1 => (repeat (first | exact .head _ | apply List.Mem.tail))); (case q2 => (repeat (first | exact .head _ | apply List.Mem.tail)))); (first | ((fail_if_success have := A1); rintro ⟨A1, c1⟩) | ((fail_if_success have := A2); rintro ⟨A2, c2⟩) | ((fail_if_success have := A3); rintro ⟨A3, c3⟩) | ((fail_if_success have := A4); rintro ⟨A4, c4⟩) | ((fail_if_success have := A5); rintro ⟨A5, c5⟩)))))
        | ((with_reducible refine g_call 29 ?_); (first | (refine Ef_callN rfl rfl ent_29 (fun w hp => hl2 w (hp.rd hr fun _ => List.not_mem_nil)) ?_; (first | ((fail_if_success have := A1); rintro ⟨A1, c1⟩) | ((fail_if_success have := A2); rintro ⟨A2, c2⟩) | ((fail_if_success have := A3); rintro ⟨A3, c3⟩) | ((fail_if_success have := A4); rintro ⟨A4, c4⟩) | ((fail_if_success have := A5); rintro ⟨A5, c5⟩)))))
        | ((with_reducible refine g_call 12 ?_); (first | ((refine' Ef_callP rfl rfl ent_12 (fun w hp => hus A1 c1 w (rT_rd (hp.rowOf ?q1))) ?_); (case q1 => (repeat (first | exact .head _ | apply List.Mem.tail))))))
        | ((with_reducible refine g_call 30 ?_); (first | refine Ef_callP rfl rfl ent_30 (fun w hp => hrm w (hp.rd hr fun _ => List.not_mem_nil)) ?_))
        | ((with_reducible refine g_call 31 ?_); (first | refine Ef_callP rfl rfl ent_31 (fun w hp => hcn w (hp.rd hr fun _ => List.not_mem_nil)) ?_))
        | ((with_reducible refine g_call 28 ?_); (first | ((refine' Ef_callP rfl rfl ent_28 (fun w hp => hma A1 c1 w (rT_rd (hp.rowOf ?q1))) ?_); (case q1 => (repeat (first | exact .head _ | apply List.Mem.tail))))))
        | ((with_reducible refine g_call 32 ?_); (first | ((refine' Ef_callP rfl rfl ent_32 (fun w hp => same_v A1 l.length c1 l A4 m.length c4 m w (rT_rd (hp.rowOf ?q1)) (rT_rd (hp.rowOf ?q2)) rfl rfl ?q3 k y k' y' _ hd) ?_); (case q1 => (repeat (first | exact .head _ | apply List.Mem.tail))); (case q2 => (repeat (first | exact .head _ | apply List.Mem.tail))); (case q3 => omega)) | ((refine' Ef_callP rfl rfl ent_32 (fun w hp => same_v A1 l.length c1 l A5 l.length c5 l w (rT_rd (hp.rowOf ?q1)) (rT_rd (hp.rowOf ?q2)) rfl rfl ?q3 k y k y true ?q4) ?_); (case q1 => (repeat (first | exact .head _ | apply List.Mem.tail))); (case q2 => (repeat (first | exact .head _ | apply List.Mem.tail))); (case q3 => omega); (case q4 => exact decide_eq_true ⟨rfl, rfl, rfl⟩))))
        | ((with_reducible refine g_call 33 ?_); (first | ((refine' Ef_callP rfl rfl ent_33 (fun w hp => rsame_v A l.length cap l B m.length capb m w (hp.rd hr fun _ => List.not_mem_nil) (hp.rd hB fun _ => List.not_mem_nil) rfl rfl ?q1 k y k' y' _ hd) ?_); (case q1 => omega))))
        | ((with_reducible refine g_call 19 ?_); (first | ((refine' Ef_callP rfl rfl ent_19 (fun w hp => stays_v A1 c1 l A cap w (hp.rowOf ?q1) (hp.rd hr fun _ => List.not_mem_nil) (hp.capOf (A := A1) (m := l.length + 1) (cap := c1) ?q2) ?q3 k y) ?_); (case q1 => (repeat (first | exact .head _ | apply List.Mem.tail))); (case q2 => (repeat (first | exact .head _ | apply List.Mem.tail))); (case q3 => omega))))
        | ((with_reducible refine g_call 10 ?_); (first | refine Ef_callP rfl rfl ent_10 (fun w _ => awake_c w) ?_))))
        | ((with_reducible refine g_draw ?_); (first | (((with_reducible refine' T.drawM (id := 4) [(0, true), (1, true), (2, true), (4, true), (5, true), (6, true), (3, false), (7, false), (8, false), (9, false)] mixd ?q1 ?_); (case q1 => kernel_rfl))) | (((with_reducible refine' T.drawM (id := 10) [(0, true), (1, true), (2, true), (3, true), (4, true), (5, false), (6, false), (7, false), (8, false)] mixd ?q1 ?_); (case q1 => kernel_rfl))) | (((with_reducible refine' T.drawM (id := 16) [(0, true), (2, true), (1, false), (3, false), (4, false), (5, true), (6, true), (9, true), (10, true), (7, false), (8, false), (11, false), (12, false), (13, false), (14, false), (15, true), (16, false), (17, false), (18, false), (19, false), (20, false), (21, true), (22, false), (23, false), (24, false), (25, false), (26, false), (27, false), (28, false)] mixd ?q1 ?_); (case q1 => kernel_rfl)))))
        | refine w1 ?_
        | (refine w2 ?_ ?_ <;> intro hc)
        | (refine w4 ?_; (first | ((fail_if_success have := b1); intro b1) | ((fail_if_success have := b2); intro b2) | ((fail_if_success have := b3); intro b3) | intro _))
        | (refine w5 ?_; (first | ((fail_if_success have := A1); intro A1 c1) | ((fail_if_success have := A2); intro A2 c2) | ((fail_if_success have := A3); intro A3 c3) | ((fail_if_success have := A4); intro A4 c4) | ((fail_if_success have := A5); intro A5 c5) | intro _ _))
        | refine w3 ?_ ?_
        | fail_if_success skip)
    · exact ret_n [] (res1 rfl rfl) (List.nil_sublist _) ⟨rfl, rfl⟩
    refine T.part (M' := [rK g (A3, c3), rK g (A2, c2), .blk b3 (.cells (sV k y (A1, c1) l.length) 30 (0, 0)), rT l (A1, c1), .blk b2 (.cells (sV k' y' (B, capb) m.length) 24 (0, 0)), .blk b1 (.cells (sV k y (A, cap) l.length) 24 (0, 0))]) (by (repeat (first | exact Part.nil | refine Part.p0 ?_ | refine Part.p1 ?_ | refine Part.p2 ?_ | refine Part.p3 ?_ | refine Part.p4 ?_ | refine Part.p5 ?_ | refine Part.p6 ?_))) ?_
    refine T.loop (α := Nat) (fun i => [(4, .pointer (some ⟨b1, 0, none⟩)), (5, .pointer (some ⟨b2, 0, none⟩)), (9, .pointer (some ⟨b3, 0, none⟩)), (10, .slice A2 g.length c2), (11, .slice A3 g.length c3), (12, .int .i64 (i : Int))]) (fun _ => [rK g (A3, c3), rK g (A2, c2), .blk b3 (.cells (sV k y (A1, c1) l.length) 30 (0, 0)), rT l (A1, c1), .blk b2 (.cells (sV k' y' (B, capb) m.length) 24 (0, 0)), .blk b1 (.cells (sV k y (A, cap) l.length) 24 (0, 0))]) (fun i => i ≤ g.length) (fun i => g.length - i) 0 ?_ ?_ ?_ ?_
    · (repeat (first | exact Sub.nil | refine Sub.cons rfl ?_))
    · exact List.Sublist.refl _
    · exact Nat.zero_le _
    · rintro i hi
      by_cases hlt : i < g.length
      · obtain ⟨x, hx⟩ := some_of_lt (l := g) (i := i) hlt
        have e0 : (g.flatMap kE)[i * 1]? = some (.string x) := enc_at kE_len hx (j := 0) (by decide)
        repeat' (first
            | ((with_reducible refine ie_callf ?_); (first
            | ((with_reducible refine g_call 9 ?_); (first | refine Ef_callP rfl rfl ent_9 (fun w _ => hgr1 w) ?_ | refine Ef_callP rfl rfl ent_9 (fun w _ => hgr2 w) ?_))
            | ((with_reducible refine g_call 11 ?_); (first | (((refine' Ef_callN rfl rfl ent_11 (fun w hp => to_c A l.length cap l w (hp.rd hr fun _ => List.not_mem_nil) rfl ?q1 k y) ?_); (case q1 => omega)); (first | ((fail_if_success have := A1); rintro ⟨A1, c1⟩) | ((fail_if_success have := A2); rintro ⟨A2, c2⟩) | ((fail_if_success have := A3); rintro ⟨A3, c3⟩) | ((fail_if_success have := A4); rintro ⟨A4, c4⟩) | ((fail_if_success have := A5); rintro ⟨A5, c5⟩))) | (((refine' Ef_callN rfl rfl ent_11 (fun w hp => to_c B m.length capb m w (hp.rd hB fun _ => List.not_mem_nil) rfl ?q1 k' y') ?_); (case q1 => omega)); (first | ((fail_if_success have := A1); rintro ⟨A1, c1⟩) | ((fail_if_success have := A2); rintro ⟨A2, c2⟩) | ((fail_if_success have := A3); rintro ⟨A3, c3⟩) | ((fail_if_success have := A4); rintro ⟨A4, c4⟩) | ((fail_if_success have := A5); rintro ⟨A5, c5⟩)))))
            | ((with_reducible refine g_call 13 ?_); (first | (((refine' Ef_callN rfl rfl ent_13 (fun w hp => hl1 A1 c1 w (rT_rd (hp.rowOf ?q1)) (hp.capOf (A := A1) (m := l.length + 1) (cap := c1) ?q2)) ?_); (case q1 => (repeat (first | exact .head _ | apply List.Mem.tail))); (case q2 => (repeat (first | exact .head _ | apply List.Mem.tail)))); (first | ((fail_if_success have := A1); rintro ⟨A1, c1⟩) | ((fail_if_success have := A2); rintro ⟨A2, c2⟩) | ((fail_if_success have := A3); rintro ⟨A3, c3⟩) | ((fail_if_success have := A4); rintro ⟨A4, c4⟩) | ((fail_if_success have := A5); rintro ⟨A5, c5⟩)))))
            | ((with_reducible refine g_call 29 ?_); (first | (refine Ef_callN rfl rfl ent_29 (fun w hp => hl2 w (hp.rd hr fun _ => List.not_mem_nil)) ?_; (first | ((fail_if_success have := A1); rintro ⟨A1, c1⟩) | ((fail_if_success have := A2); rintro ⟨A2, c2⟩) | ((fail_if_success have := A3); rintro ⟨A3, c3⟩) | ((fail_if_success have := A4); rintro ⟨A4, c4⟩) | ((fail_if_success have := A5); rintro ⟨A5, c5⟩)))))
            | ((with_reducible refine g_call 12 ?_); (first | ((refine' Ef_callP rfl rfl ent_12 (fun w hp => hus A1 c1 w (rT_rd (hp.rowOf ?q1))) ?_); (case q1 => (repeat (first | exact .head _ | apply List.Mem.tail))))))
            | ((with_reducible refine g_call 30 ?_); (first | refine Ef_callP rfl rfl ent_30 (fun w hp => hrm w (hp.rd hr fun _ => List.not_mem_nil)) ?_))
            | ((with_reducible refine g_call 31 ?_); (first | refine Ef_callP rfl rfl ent_31 (fun w hp => hcn w (hp.rd hr fun _ => List.not_mem_nil)) ?_))
            | ((with_reducible refine g_call 28 ?_); (first | ((refine' Ef_callP rfl rfl ent_28 (fun w hp => hma A1 c1 w (rT_rd (hp.rowOf ?q1))) ?_); (case q1 => (repeat (first | exact .head _ | apply List.Mem.tail))))))
            | ((with_reducible refine g_call 32 ?_); (first | ((refine' Ef_callP rfl rfl ent_32 (fun w hp => same_v A1 l.length c1 l A4 m.length c4 m w (rT_rd (hp.rowOf ?q1)) (rT_rd (hp.rowOf ?q2)) rfl rfl ?q3 k y k' y' _ hd) ?_); (case q1 => (repeat (first | exact .head _ | apply List.Mem.tail))); (case q2 => (repeat (first | exact .head _ | apply List.Mem.tail))); (case q3 => omega)) | ((refine' Ef_callP rfl rfl ent_32 (fun w hp => same_v A1 l.length c1 l A5 l.length c5 l w (rT_rd (hp.rowOf ?q1)) (rT_rd (hp.rowOf ?q2)) rfl rfl ?q3 k y k y true ?q4) ?_); (case q1 => (repeat (first | exact .head _ | apply List.Mem.tail))); (case q2 => (repeat (first | exact .head _ | apply List.Mem.tail))); (case q3 => omega); (case q4 => exact decide_eq_true ⟨rfl, rfl, rfl⟩))))
            | ((with_reducible refine g_call 33 ?_); (first | ((refine' Ef_callP rfl rfl ent_33 (fun w hp => rsame_v A l.length cap l B m.length capb m w (hp.rd hr fun _ => List.not_mem_nil) (hp.rd hB fun _ => List.not_mem_nil) rfl rfl ?q1 k y k' y' _ hd) ?_); (case q1 => omega))))
            | ((with_reducible refine g_call 19 ?_); (first | ((refine' Ef_callP rfl rfl ent_19 (fun w hp => stays_v A1 c1 l A cap w (hp.rowOf ?q1) (hp.rd hr fun _ => List.not_mem_nil) (hp.capOf (A := A1) (m := l.length + 1) (cap := c1) ?q2) ?q3 k y) ?_); (case q1 => (repeat (first | exact .head _ | apply List.Mem.tail))); (case q2 => (repeat (first | exact .head _ | apply List.Mem.tail))); (case q3 => omega))))
            | ((with_reducible refine g_call 10 ?_); (first | refine Ef_callP rfl rfl ent_10 (fun w _ => awake_c w) ?_))))
            | ((with_reducible refine g_draw ?_); (first | (((with_reducible refine' T.drawM (id := 4) [(0, true), (1, true), (2, true), (4, true), (5, true), (6, true), (3, false), (7, false), (8, false), (9, false)] mixd ?q1 ?_); (case q1 => kernel_rfl))) | (((with_reducible refine' T.drawM (id := 10) [(0, true), (1, true), (2, true), (3, true), (4, true), (5, false), (6, false), (7, false), (8, false)] mixd ?q1 ?_); (case q1 => kernel_rfl))) | (((with_reducible refine' T.drawM (id := 16) [(0, true), (2, true), (1, false), (3, false), (4, false), (5, true), (6, true), (9, true), (10, true), (7, false), (8, false), (11, false), (12, false), (13, false), (14, false), (15, true), (16, false), (17, false), (18, false), (19, false), (20, false), (21, true), (22, false), (23, false), (24, false), (25, false), (26, false), (27, false), (28, false)] mixd ?q1 ?_); (case q1 => kernel_rfl)))))
            | refine w1 ?_
            | (refine w2 ?_ ?_ <;> intro hc)
            | (refine w4 ?_; (first | ((fail_if_success have := b1); intro b1) | ((fail_if_success have := b2); intro b2) | ((fail_if_success have := b3); intro b3) | intro _))
            | (refine w5 ?_; (first | ((fail_if_success have := A1); intro A1 c1) | ((fail_if_success have := A2); intro A2 c2) | ((fail_if_success have := A3); intro A3 c3) | ((fail_if_success have := A4); intro A4 c4) | ((fail_if_success have := A5); intro A5 c5) | intro _ _))
            | refine w3 ?_ ?_
            | fail_if_success skip)
        refine loopQ_n (i + 1) ?_ ?_ (by (first | omega | (dsimp only; omega) | (simp; omega))) (by (first | omega | (dsimp only; omega) | (simp; omega)))
        · (repeat (first | exact Sub.nil | refine Sub.cons rfl ?_))
        · (repeat (first | exact List.nil_sublist _ | refine List.Sublist.cons_cons _ ?_ | refine List.Sublist.cons _ ?_))
      · repeat' (first
          | ((with_reducible refine ie_callf ?_); (first
          | ((with_reducible refine g_call 9 ?_); (first | refine Ef_callP rfl rfl ent_9 (fun w _ => hgr1 w) ?_ | refine Ef_callP rfl rfl ent_9 (fun w _ => hgr2 w) ?_))
          | ((with_reducible refine g_call 11 ?_); (first | (((refine' Ef_callN rfl rfl ent_11 (fun w hp => to_c A l.length cap l w (hp.rd hr fun _ => List.not_mem_nil) rfl ?q1 k y) ?_); (case q1 => omega)); (first | ((fail_if_success have := A1); rintro ⟨A1, c1⟩) | ((fail_if_success have := A2); rintro ⟨A2, c2⟩) | ((fail_if_success have := A3); rintro ⟨A3, c3⟩) | ((fail_if_success have := A4); rintro ⟨A4, c4⟩) | ((fail_if_success have := A5); rintro ⟨A5, c5⟩))) | (((refine' Ef_callN rfl rfl ent_11 (fun w hp => to_c B m.length capb m w (hp.rd hB fun _ => List.not_mem_nil) rfl ?q1 k' y') ?_); (case q1 => omega)); (first | ((fail_if_success have := A1); rintro ⟨A1, c1⟩) | ((fail_if_success have := A2); rintro ⟨A2, c2⟩) | ((fail_if_success have := A3); rintro ⟨A3, c3⟩) | ((fail_if_success have := A4); rintro ⟨A4, c4⟩) | ((fail_if_success have := A5); rintro ⟨A5, c5⟩)))))
          | ((with_reducible refine g_call 13 ?_); (first | (((refine' Ef_callN rfl rfl ent_13 (fun w hp => hl1 A1 c1 w (rT_rd (hp.rowOf ?q1)) (hp.capOf (A := A1) (m := l.length + 1) (cap := c1) ?q2)) ?_); (case q1 => (repeat (first | exact .head _ | apply List.Mem.tail))); (case q2 => (repeat (first | exact .head _ | apply List.Mem.tail)))); (first | ((fail_if_success have := A1); rintro ⟨A1, c1⟩) | ((fail_if_success have := A2); rintro ⟨A2, c2⟩) | ((fail_if_success have := A3); rintro ⟨A3, c3⟩) | ((fail_if_success have := A4); rintro ⟨A4, c4⟩) | ((fail_if_success have := A5); rintro ⟨A5, c5⟩)))))
          | ((with_reducible refine g_call 29 ?_); (first | (refine Ef_callN rfl rfl ent_29 (fun w hp => hl2 w (hp.rd hr fun _ => List.not_mem_nil)) ?_; (first | ((fail_if_success have := A1); rintro ⟨A1, c1⟩) | ((fail_if_success have := A2); rintro ⟨A2, c2⟩) | ((fail_if_success have := A3); rintro ⟨A3, c3⟩) | ((fail_if_success have := A4); rintro ⟨A4, c4⟩) | ((fail_if_success have := A5); rintro ⟨A5, c5⟩)))))
          | ((with_reducible refine g_call 12 ?_); (first | ((refine' Ef_callP rfl rfl ent_12 (fun w hp => hus A1 c1 w (rT_rd (hp.rowOf ?q1))) ?_); (case q1 => (repeat (first | exact .head _ | apply List.Mem.tail))))))
          | ((with_reducible refine g_call 30 ?_); (first | refine Ef_callP rfl rfl ent_30 (fun w hp => hrm w (hp.rd hr fun _ => List.not_mem_nil)) ?_))
          | ((with_reducible refine g_call 31 ?_); (first | refine Ef_callP rfl rfl ent_31 (fun w hp => hcn w (hp.rd hr fun _ => List.not_mem_nil)) ?_))
          | ((with_reducible refine g_call 28 ?_); (first | ((refine' Ef_callP rfl rfl ent_28 (fun w hp => hma A1 c1 w (rT_rd (hp.rowOf ?q1))) ?_); (case q1 => (repeat (first | exact .head _ | apply List.Mem.tail))))))
          | ((with_reducible refine g_call 32 ?_); (first | ((refine' Ef_callP rfl rfl ent_32 (fun w hp => same_v A1 l.length c1 l A4 m.length c4 m w (rT_rd (hp.rowOf ?q1)) (rT_rd (hp.rowOf ?q2)) rfl rfl ?q3 k y k' y' _ hd) ?_); (case q1 => (repeat (first | exact .head _ | apply List.Mem.tail))); (case q2 => (repeat (first | exact .head _ | apply List.Mem.tail))); (case q3 => omega)) | ((refine' Ef_callP rfl rfl ent_32 (fun w hp => same_v A1 l.length c1 l A5 l.length c5 l w (rT_rd (hp.rowOf ?q1)) (rT_rd (hp.rowOf ?q2)) rfl rfl ?q3 k y k y true ?q4) ?_); (case q1 => (repeat (first | exact .head _ | apply List.Mem.tail))); (case q2 => (repeat (first | exact .head _ | apply List.Mem.tail))); (case q3 => omega); (case q4 => exact decide_eq_true ⟨rfl, rfl, rfl⟩))))
          | ((with_reducible refine g_call 33 ?_); (first | ((refine' Ef_callP rfl rfl ent_33 (fun w hp => rsame_v A l.length cap l B m.length capb m w (hp.rd hr fun _ => List.not_mem_nil) (hp.rd hB fun _ => List.not_mem_nil) rfl rfl ?q1 k y k' y' _ hd) ?_); (case q1 => omega))))
          | ((with_reducible refine g_call 19 ?_); (first | ((refine' Ef_callP rfl rfl ent_19 (fun w hp => stays_v A1 c1 l A cap w (hp.rowOf ?q1) (hp.rd hr fun _ => List.not_mem_nil) (hp.capOf (A := A1) (m := l.length + 1) (cap := c1) ?q2) ?q3 k y) ?_); (case q1 => (repeat (first | exact .head _ | apply List.Mem.tail))); (case q2 => (repeat (first | exact .head _ | apply List.Mem.tail))); (case q3 => omega))))
          | ((with_reducible refine g_call 10 ?_); (first | refine Ef_callP rfl rfl ent_10 (fun w _ => awake_c w) ?_))))
          | ((with_reducible refine g_draw ?_); (first | (((with_reducible refine' T.drawM (id := 4) [(0, true), (1, true), (2, true), (4, true), (5, true), (6, true), (3, false), (7, false), (8, false), (9, false)] mixd ?q1 ?_); (case q1 => kernel_rfl))) | (((with_reducible refine' T.drawM (id := 10) [(0, true), (1, true), (2, true), (3, true), (4, true), (5, false), (6, false), (7, false), (8, false)] mixd ?q1 ?_); (case q1 => kernel_rfl))) | (((with_reducible refine' T.drawM (id := 16) [(0, true), (2, true), (1, false), (3, false), (4, false), (5, true), (6, true), (9, true), (10, true), (7, false), (8, false), (11, false), (12, false), (13, false), (14, false), (15, true), (16, false), (17, false), (18, false), (19, false), (20, false), (21, true), (22, false), (23, false), (24, false), (25, false), (26, false), (27, false), (28, false)] mixd ?q1 ?_); (case q1 => kernel_rfl)))))
          | refine w1 ?_
          | (refine w2 ?_ ?_ <;> intro hc)
          | (refine w4 ?_; (first | ((fail_if_success have := b1); intro b1) | ((fail_if_success have := b2); intro b2) | ((fail_if_success have := b3); intro b3) | intro _))
          | (refine w5 ?_; (first | ((fail_if_success have := A1); intro A1 c1) | ((fail_if_success have := A2); intro A2 c2) | ((fail_if_success have := A3); intro A3 c3) | ((fail_if_success have := A4); intro A4 c4) | ((fail_if_success have := A5); intro A5 c5) | intro _ _))
          | refine w3 ?_ ?_
          | fail_if_success skip)
        exact ret_n [] (res1 rfl rfl) (List.nil_sublist _) ⟨rfl, rfl⟩
end
end Go.Proofs.Ytimmabejfigleaa
