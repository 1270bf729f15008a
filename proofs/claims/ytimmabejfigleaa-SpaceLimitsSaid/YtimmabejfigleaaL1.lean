/- The laws on a space's limits and on what a call makes of a space: what a call of each comes to. -/
import Derived.Test.YtimmabejfigleaaT8
import Derived.Test.YtimmabejfigleaaT6
import Derived.Test.YtimmabejfigleaaKu
namespace Go.Proofs.Ytimmabejfigleaa
open Go.RowKit
set_option maxRecDepth 20000

section
variable (A : Option Addr) (cap : Nat) (l : List Pr) (w : World) (hr : Rd w A l.length 2 (l.flatMap pE)) (hle : l.length ≤ 9223372036854775807)
include hr hle
set_option maxHeartbeats 8000000 in
theorem limits_c (k y keys bytes : Int) : Sp Try.prog 4 [.agg (sV k y (A, cap) l.length), .int .i64 keys, .int .i64 bytes] w [] fun v N => v = .bool true ∧ N = [] := by
  have hgr := fun w => great_v A l.length cap w k y
  by_cases hbig : (l.length : Int) > 100
  · rw [decide_eq_true hbig] at hgr
    refine Sp.enter (n := 79) Try.func4 rfl rfl rfl (Hp.refl w) ?_
    repeat' (first
        | ((with_reducible refine is_build ?_); (first | refine ⟨_, Yl_build rfl (p_build1 _), ?_⟩ | refine ⟨_, Yl_build rfl (r_build2 _ _), ?_⟩ | refine ⟨_, Yl_build rfl r_build0, ?_⟩))
        | ((with_reducible refine ie_callf ?_); (first
        | ((with_reducible refine g_call 9 ?_); (first | refine Ef_callP rfl rfl ent_9 (fun w _ => hgr w) ?_))
        | ((with_reducible refine g_call 11 ?_); (first | (((refine' Ef_callN rfl rfl ent_11 (fun w hp => to_c A l.length cap l w (hp.rd hr fun _ => List.not_mem_nil) rfl ?q1 k y) ?_); (case q1 => omega)); rintro ⟨A1, c1⟩)))
        | ((with_reducible refine g_call 15 ?_); (first | refine Ef_callP rfl rfl ent_15 (fun w _ => hnw w) ?_))
        | ((with_reducible refine g_call 16 ?_); (first | (((refine' Ef_callN rfl rfl ent_16 (fun w hp => hp1 A1 c1 w (rT_rd (hp.rowOf ?q1)) (hp.capOf (A := A1) (m := l.length + 1) (cap := c1) ?q2)) ?_); (case q1 => (repeat (first | exact .head _ | apply List.Mem.tail))); (case q2 => (repeat (first | exact .head _ | apply List.Mem.tail)))); rintro ⟨A2, c2⟩)))
        | ((with_reducible refine g_call 17 ?_); (first | refine Ef_callP rfl rfl ent_17 (fun w hp => hp2 w (hp.rd hr fun _ => List.not_mem_nil)) ?_))
        | ((with_reducible refine g_call 18 ?_); (first | ((refine' Ef_callP rfl rfl ent_18 (fun w hp => is_v _ _ _ [] _ _ w Rd.nil Rd.nil rfl ?q1 _ _) ?_); (case q1 => decide)) | ((refine' Ef_callP rfl rfl ent_18 (fun w hp => is_v _ _ _ [] _ _ w (hp.rowOf ?q1) Rd.nil rfl ?q2 _ _) ?_); (case q1 => (repeat (first | exact .head _ | apply List.Mem.tail))); (case q2 => decide)) | ((refine' Ef_callP rfl rfl ent_18 (fun w hp => is_v _ _ _ l _ _ w (hp.rowOf ?q1) (hp.rd hr fun _ => List.not_mem_nil) rfl ?q2 _ _) ?_); (case q1 => (repeat (first | exact .head _ | apply List.Mem.tail))); (case q2 => omega)) | ((refine' Ef_callP rfl rfl ent_18 (fun w hp => is_v _ _ _ u.2.2.1 _ _ w (hp.rowOf ?q1) (hp.rowOf ?q2) rfl ?q3 _ _) ?_); (case q1 => (repeat (first | exact .head _ | apply List.Mem.tail))); (case q2 => (repeat (first | exact .head _ | apply List.Mem.tail))); (case q3 => omega))))
        | ((with_reducible refine g_call 19 ?_); (first | ((refine' Ef_callP rfl rfl ent_19 (fun w hp => stays_v A1 c1 l A cap w (hp.rowOf ?q1) (hp.rd hr fun _ => List.not_mem_nil) (hp.capOf (A := A1) (m := l.length + 1) (cap := c1) ?q2) ?q3 k y) ?_); (case q1 => (repeat (first | exact .head _ | apply List.Mem.tail))); (case q2 => (repeat (first | exact .head _ | apply List.Mem.tail))); (case q3 => omega))))
        | ((with_reducible refine g_call 20 ?_); (first | refine Ef_callP rfl rfl ent_20 (fun w _ => hli w) ?_))
        | ((with_reducible refine g_call 10 ?_); (first | refine Ef_callP rfl rfl ent_10 (fun w _ => awake_c w) ?_))))
        | refine w1 ?_
        | (refine w2 ?_ ?_ <;> intro hc)
        | (first | ((refine' ⟨_, Yl_remE rfl rfl ?q1 ?q2 ?q3, ?_⟩); (case q1 => omega); (case q2 => decide); (case q3 => assumption)) | refine ⟨_, Yl_addW rfl rfl, ?_⟩)
        | (refine w4 ?_; (intro _))
        | (refine w5 ?_; (first | ((fail_if_success have := A1); intro A1 c1) | ((fail_if_success have := A2); intro A2 c2) | intro _ _))
        | refine w3 ?_ ?_
        | fail_if_success skip)
    exact ret_n [] (res1 rfl rfl) (List.nil_sublist _) ⟨rfl, rfl⟩
  rw [decide_eq_false hbig] at hgr
  have hp1 := fun A' c' w h (h2 : l.length + 1 ≤ c') => resize_c A' l.length c' l w h rfl (by omega) (by omega) k y keys bytes
  have hp2 := fun w h => rresize_c A l.length cap l w h rfl (by omega) k y keys bytes _ rfl
  have hnw := fun w => new_c keys bytes w
  obtain ⟨b, hb⟩ : ∃ b, Ks.lim keys bytes = b := ⟨_, rfl⟩
  have hli := fun w => rlim_v keys bytes b w hb
  have hcase : Ks.resR k y l keys bytes = (keys, bytes, l, 0) ∧ b = true ∨ ∃ e : Int, ¬ e = 0 ∧ Ks.resR k y l keys bytes = (0, 0, [], e) := by
    cases b with
    | true =>
      rcases Ks.res_or k y l keys bytes with h | h
      · exact .inl ⟨h, rfl⟩
      · exact .inr h
    | false =>
      refine .inr ⟨2, by decide, ?_⟩
      unfold Ks.resR
      rw [hb, Bool.and_false]
      rfl
  rw [hb] at hnw
  rcases hcase with ⟨hu, rfl⟩ | ⟨e, he, hu⟩
  · rw [hu] at hp1 hp2
    refine Sp.enter (n := 79) Try.func4 rfl rfl rfl (Hp.refl w) ?_
    repeat' (first
        | ((with_reducible refine is_build ?_); (first | refine ⟨_, Yl_build rfl (p_build1 _), ?_⟩ | refine ⟨_, Yl_build rfl (r_build2 _ _), ?_⟩ | refine ⟨_, Yl_build rfl r_build0, ?_⟩))
        | ((with_reducible refine ie_callf ?_); (first
        | ((with_reducible refine g_call 9 ?_); (first | refine Ef_callP rfl rfl ent_9 (fun w _ => hgr w) ?_))
        | ((with_reducible refine g_call 11 ?_); (first | (((refine' Ef_callN rfl rfl ent_11 (fun w hp => to_c A l.length cap l w (hp.rd hr fun _ => List.not_mem_nil) rfl ?q1 k y) ?_); (case q1 => omega)); rintro ⟨A1, c1⟩)))
        | ((with_reducible refine g_call 15 ?_); (first | refine Ef_callP rfl rfl ent_15 (fun w _ => hnw w) ?_))
        | ((with_reducible refine g_call 16 ?_); (first | (((refine' Ef_callN rfl rfl ent_16 (fun w hp => hp1 A1 c1 w (rT_rd (hp.rowOf ?q1)) (hp.capOf (A := A1) (m := l.length + 1) (cap := c1) ?q2)) ?_); (case q1 => (repeat (first | exact .head _ | apply List.Mem.tail))); (case q2 => (repeat (first | exact .head _ | apply List.Mem.tail)))); rintro ⟨A2, c2⟩)))
        | ((with_reducible refine g_call 17 ?_); (first | refine Ef_callP rfl rfl ent_17 (fun w hp => hp2 w (hp.rd hr fun _ => List.not_mem_nil)) ?_))
        | ((with_reducible refine g_call 18 ?_); (first | ((refine' Ef_callP rfl rfl ent_18 (fun w hp => is_v _ _ _ [] _ _ w Rd.nil Rd.nil rfl ?q1 _ _) ?_); (case q1 => decide)) | ((refine' Ef_callP rfl rfl ent_18 (fun w hp => is_v _ _ _ [] _ _ w (hp.rowOf ?q1) Rd.nil rfl ?q2 _ _) ?_); (case q1 => (repeat (first | exact .head _ | apply List.Mem.tail))); (case q2 => decide)) | ((refine' Ef_callP rfl rfl ent_18 (fun w hp => is_v _ _ _ l _ _ w (hp.rowOf ?q1) (hp.rd hr fun _ => List.not_mem_nil) rfl ?q2 _ _) ?_); (case q1 => (repeat (first | exact .head _ | apply List.Mem.tail))); (case q2 => omega)) | ((refine' Ef_callP rfl rfl ent_18 (fun w hp => is_v _ _ _ u.2.2.1 _ _ w (hp.rowOf ?q1) (hp.rowOf ?q2) rfl ?q3 _ _) ?_); (case q1 => (repeat (first | exact .head _ | apply List.Mem.tail))); (case q2 => (repeat (first | exact .head _ | apply List.Mem.tail))); (case q3 => omega))))
        | ((with_reducible refine g_call 19 ?_); (first | ((refine' Ef_callP rfl rfl ent_19 (fun w hp => stays_v A1 c1 l A cap w (hp.rowOf ?q1) (hp.rd hr fun _ => List.not_mem_nil) (hp.capOf (A := A1) (m := l.length + 1) (cap := c1) ?q2) ?q3 k y) ?_); (case q1 => (repeat (first | exact .head _ | apply List.Mem.tail))); (case q2 => (repeat (first | exact .head _ | apply List.Mem.tail))); (case q3 => omega))))
        | ((with_reducible refine g_call 20 ?_); (first | refine Ef_callP rfl rfl ent_20 (fun w _ => hli w) ?_))
        | ((with_reducible refine g_call 10 ?_); (first | refine Ef_callP rfl rfl ent_10 (fun w _ => awake_c w) ?_))))
        | refine w1 ?_
        | (refine w2 ?_ ?_ <;> intro hc)
        | (first | ((refine' ⟨_, Yl_remE rfl rfl ?q1 ?q2 ?q3, ?_⟩); (case q1 => omega); (case q2 => decide); (case q3 => assumption)) | refine ⟨_, Yl_addW rfl rfl, ?_⟩)
        | (refine w4 ?_; (intro _))
        | (refine w5 ?_; (first | ((fail_if_success have := A1); intro A1 c1) | ((fail_if_success have := A2); intro A2 c2) | intro _ _))
        | refine w3 ?_ ?_
        | fail_if_success skip)
    exact ret_n [] (res1 rfl rfl) (List.nil_sublist _) ⟨rfl, rfl⟩
  · rw [hu] at hp1 hp2
    dsimp only at hp1 hp2
    rw [if_neg he] at hp2
    cases b
    all_goals
      refine Sp.enter (n := 79) Try.func4 rfl rfl rfl (Hp.refl w) ?_
      repeat' (first
          | ((with_reducible refine is_build ?_); (first | refine ⟨_, Yl_build rfl (p_build1 _), ?_⟩ | refine ⟨_, Yl_build rfl (r_build2 _ _), ?_⟩ | refine ⟨_, Yl_build rfl r_build0, ?_⟩))
          | ((with_reducible refine ie_callf ?_); (first
          | ((with_reducible refine g_call 9 ?_); (first | refine Ef_callP rfl rfl ent_9 (fun w _ => hgr w) ?_))
          | ((with_reducible refine g_call 11 ?_); (first | (((refine' Ef_callN rfl rfl ent_11 (fun w hp => to_c A l.length cap l w (hp.rd hr fun _ => List.not_mem_nil) rfl ?q1 k y) ?_); (case q1 => omega)); rintro ⟨A1, c1⟩)))
          | ((with_reducible refine g_call 15 ?_); (first | refine Ef_callP rfl rfl ent_15 (fun w _ => hnw w) ?_))
          | ((with_reducible refine g_call 16 ?_); (first | (((refine' Ef_callN rfl rfl ent_16 (fun w hp => hp1 A1 c1 w (rT_rd (hp.rowOf ?q1)) (hp.capOf (A := A1) (m := l.length + 1) (cap := c1) ?q2)) ?_); (case q1 => (repeat (first | exact .head _ | apply List.Mem.tail))); (case q2 => (repeat (first | exact .head _ | apply List.Mem.tail)))); rintro ⟨A2, c2⟩)))
          | ((with_reducible refine g_call 17 ?_); (first | refine Ef_callP rfl rfl ent_17 (fun w hp => hp2 w (hp.rd hr fun _ => List.not_mem_nil)) ?_))
          | ((with_reducible refine g_call 18 ?_); (first | ((refine' Ef_callP rfl rfl ent_18 (fun w hp => is_v _ _ _ [] _ _ w Rd.nil Rd.nil rfl ?q1 _ _) ?_); (case q1 => decide)) | ((refine' Ef_callP rfl rfl ent_18 (fun w hp => is_v _ _ _ [] _ _ w (hp.rowOf ?q1) Rd.nil rfl ?q2 _ _) ?_); (case q1 => (repeat (first | exact .head _ | apply List.Mem.tail))); (case q2 => decide)) | ((refine' Ef_callP rfl rfl ent_18 (fun w hp => is_v _ _ _ l _ _ w (hp.rowOf ?q1) (hp.rd hr fun _ => List.not_mem_nil) rfl ?q2 _ _) ?_); (case q1 => (repeat (first | exact .head _ | apply List.Mem.tail))); (case q2 => omega)) | ((refine' Ef_callP rfl rfl ent_18 (fun w hp => is_v _ _ _ u.2.2.1 _ _ w (hp.rowOf ?q1) (hp.rowOf ?q2) rfl ?q3 _ _) ?_); (case q1 => (repeat (first | exact .head _ | apply List.Mem.tail))); (case q2 => (repeat (first | exact .head _ | apply List.Mem.tail))); (case q3 => omega))))
          | ((with_reducible refine g_call 19 ?_); (first | ((refine' Ef_callP rfl rfl ent_19 (fun w hp => stays_v A1 c1 l A cap w (hp.rowOf ?q1) (hp.rd hr fun _ => List.not_mem_nil) (hp.capOf (A := A1) (m := l.length + 1) (cap := c1) ?q2) ?q3 k y) ?_); (case q1 => (repeat (first | exact .head _ | apply List.Mem.tail))); (case q2 => (repeat (first | exact .head _ | apply List.Mem.tail))); (case q3 => omega))))
          | ((with_reducible refine g_call 20 ?_); (first | refine Ef_callP rfl rfl ent_20 (fun w _ => hli w) ?_))
          | ((with_reducible refine g_call 10 ?_); (first | refine Ef_callP rfl rfl ent_10 (fun w _ => awake_c w) ?_))))
          | refine w1 ?_
          | (refine w2 ?_ ?_ <;> intro hc)
          | (first | ((refine' ⟨_, Yl_remE rfl rfl ?q1 ?q2 ?q3, ?_⟩); (case q1 => omega); (case q2 => decide); (case q3 => assumption)) | refine ⟨_, Yl_addW rfl rfl, ?_⟩)
          | (refine w4 ?_; (intro _))
          | (refine w5 ?_; (first | ((fail_if_success have := A1); intro A1 c1) | ((fail_if_success have := A2); intro A2 c2) | intro _ _))
          | refine w3 ?_ ?_
          | fail_if_success skip)
      exact ret_n [] (res1 rfl rfl) (List.nil_sublist _) ⟨rfl, rfl⟩

set_option maxHeartbeats 16000000 in
theorem does_c (k y what : Int) (key old value : ByteArray) (hw : 0 ≤ what ∧ what ≤ 255) : Sp Try.prog 5 [.agg (sV k y (A, cap) l.length), .int .u8 what, .string key, .string old, .string value] w [] fun v N => v = .bool true ∧ N = [] := by
  have hgr := fun w => great_v A l.length cap w k y
  by_cases hbig : (l.length : Int) > 100
  · rw [decide_eq_true hbig] at hgr
    refine Sp.enter (n := 144) Try.func5 rfl rfl rfl (Hp.refl w) ?_
    repeat' (first
        | ((with_reducible refine is_build ?_); (first | refine ⟨_, Yl_build rfl (p_build1 _), ?_⟩ | refine ⟨_, Yl_build rfl (r_build2 _ _), ?_⟩ | refine ⟨_, Yl_build rfl r_build0, ?_⟩))
        | ((with_reducible refine ie_callf ?_); (first
        | ((with_reducible refine g_call 9 ?_); (first | refine Ef_callP rfl rfl ent_9 (fun w _ => hgr w) ?_))
        | ((with_reducible refine g_call 11 ?_); (first | (((refine' Ef_callN rfl rfl ent_11 (fun w hp => to_c A l.length cap l w (hp.rd hr fun _ => List.not_mem_nil) rfl ?q1 k y) ?_); (case q1 => omega)); rintro ⟨A1, c1⟩)))
        | ((with_reducible refine g_call 18 ?_); (first | ((refine' Ef_callP rfl rfl ent_18 (fun w hp => is_v _ _ _ [] _ _ w Rd.nil Rd.nil rfl ?q1 _ _) ?_); (case q1 => decide)) | ((refine' Ef_callP rfl rfl ent_18 (fun w hp => is_v _ _ _ [] _ _ w (hp.rowOf ?q1) Rd.nil rfl ?q2 _ _) ?_); (case q1 => (repeat (first | exact .head _ | apply List.Mem.tail))); (case q2 => decide)) | ((refine' Ef_callP rfl rfl ent_18 (fun w hp => is_v _ _ _ l _ _ w (hp.rowOf ?q1) (hp.rd hr fun _ => List.not_mem_nil) rfl ?q2 _ _) ?_); (case q1 => (repeat (first | exact .head _ | apply List.Mem.tail))); (case q2 => omega)) | ((refine' Ef_callP rfl rfl ent_18 (fun w hp => is_v _ _ _ u.2.2.1 _ _ w (hp.rowOf ?q1) (hp.rowOf ?q2) rfl ?q3 _ _) ?_); (case q1 => (repeat (first | exact .head _ | apply List.Mem.tail))); (case q2 => (repeat (first | exact .head _ | apply List.Mem.tail))); (case q3 => omega))))
        | ((with_reducible refine g_call 19 ?_); (first | ((refine' Ef_callP rfl rfl ent_19 (fun w hp => stays_v A1 c1 l A cap w (hp.rowOf ?q1) (hp.rd hr fun _ => List.not_mem_nil) (hp.capOf (A := A1) (m := l.length + 1) (cap := c1) ?q2) ?q3 k y) ?_); (case q1 => (repeat (first | exact .head _ | apply List.Mem.tail))); (case q2 => (repeat (first | exact .head _ | apply List.Mem.tail))); (case q3 => omega))))
        | ((with_reducible refine g_call 10 ?_); (first | refine Ef_callP rfl rfl ent_10 (fun w _ => awake_c w) ?_))
        | ((with_reducible refine g_call 21 ?_); (first | (((refine' Ef_callN rfl rfl ent_21 (fun w hp => hp1 A1 c1 w (rT_rd (hp.rowOf ?q1)) (hp.capOf (A := A1) (m := l.length + 1) (cap := c1) ?q2)) ?_); (case q1 => (repeat (first | exact .head _ | apply List.Mem.tail))); (case q2 => (repeat (first | exact .head _ | apply List.Mem.tail)))); rintro ⟨A2, c2⟩)))
        | ((with_reducible refine g_call 23 ?_); (first | (((refine' Ef_callN rfl rfl ent_23 (fun w hp => hp1 A1 c1 w (rT_rd (hp.rowOf ?q1)) (hp.capOf (A := A1) (m := l.length + 1) (cap := c1) ?q2)) ?_); (case q1 => (repeat (first | exact .head _ | apply List.Mem.tail))); (case q2 => (repeat (first | exact .head _ | apply List.Mem.tail)))); rintro ⟨A2, c2⟩)))
        | ((with_reducible refine g_call 25 ?_); (first | (((refine' Ef_callN rfl rfl ent_25 (fun w hp => hp1 A1 c1 w (rT_rd (hp.rowOf ?q1)) (hp.capOf (A := A1) (m := l.length + 1) (cap := c1) ?q2)) ?_); (case q1 => (repeat (first | exact .head _ | apply List.Mem.tail))); (case q2 => (repeat (first | exact .head _ | apply List.Mem.tail)))); rintro ⟨A2, c2⟩)))
        | ((with_reducible refine g_call 22 ?_); (first | (refine Ef_callN rfl rfl ent_22 (fun w hp => hp2 w (hp.rd hr fun _ => List.not_mem_nil)) ?_; rintro ⟨A3, c3⟩)))
        | ((with_reducible refine g_call 24 ?_); (first | (refine Ef_callN rfl rfl ent_24 (fun w hp => hp2 w (hp.rd hr fun _ => List.not_mem_nil)) ?_; rintro ⟨A3, c3⟩)))
        | ((with_reducible refine g_call 26 ?_); (first | (refine Ef_callN rfl rfl ent_26 (fun w hp => hp2 w (hp.rd hr fun _ => List.not_mem_nil)) ?_; rintro ⟨A3, c3⟩)))
        | ((with_reducible refine g_call 14 ?_); (first | ((refine' Ef_callP rfl rfl ent_14 (fun w hp => hp1 A1 c1 w (rT_rd (hp.rowOf ?q1))) ?_); (case q1 => (repeat (first | exact .head _ | apply List.Mem.tail))))))
        | ((with_reducible refine g_call 27 ?_); (first | refine Ef_callP rfl rfl ent_27 (fun w hp => hp2 w (hp.rd hr fun _ => List.not_mem_nil)) ?_))))
        | refine w1 ?_
        | (refine w2 ?_ ?_ <;> intro hc)
        | (first | ((refine' ⟨_, Yl_remE rfl rfl ?q1 ?q2 ?q3, ?_⟩); (case q1 => omega); (case q2 => decide); (case q3 => assumption)) | refine ⟨_, Yl_addW rfl rfl, ?_⟩)
        | (refine w4 ?_; (first | ((fail_if_success have := b1); intro b1) | ((fail_if_success have := b2); intro b2) | ((fail_if_success have := b3); intro b3) | intro _))
        | (refine w5 ?_; (first | ((fail_if_success have := A1); intro A1 c1) | ((fail_if_success have := A2); intro A2 c2) | ((fail_if_success have := A3); intro A3 c3) | intro _ _))
        | refine w3 ?_ ?_
        | fail_if_success skip)
    exact ret_n [] (res1 rfl rfl) (List.nil_sublist _) ⟨rfl, rfl⟩
  rw [decide_eq_false hbig] at hgr
  obtain ⟨q, hq⟩ : ∃ q, what % 4 = q := ⟨_, rfl⟩
  have hq4 : q = 0 ∨ q = 1 ∨ q = 2 ∨ q = 3 := by omega
  by_cases h3 : q = 3
  · subst h3
    have hp1 := fun A' c' w h => get_c A' l.length c' l w h rfl (by omega) k y key
    have hp2 := fun w h => rget_c A l.length cap l w h rfl (by omega) k y key
    refine Sp.enter (n := 144) Try.func5 rfl rfl rfl (Hp.refl w) ?_
    repeat' (first
        | ((with_reducible refine is_build ?_); (first | refine ⟨_, Yl_build rfl (p_build1 _), ?_⟩ | refine ⟨_, Yl_build rfl (r_build2 _ _), ?_⟩ | refine ⟨_, Yl_build rfl r_build0, ?_⟩))
        | ((with_reducible refine ie_callf ?_); (first
        | ((with_reducible refine g_call 9 ?_); (first | refine Ef_callP rfl rfl ent_9 (fun w _ => hgr w) ?_))
        | ((with_reducible refine g_call 11 ?_); (first | (((refine' Ef_callN rfl rfl ent_11 (fun w hp => to_c A l.length cap l w (hp.rd hr fun _ => List.not_mem_nil) rfl ?q1 k y) ?_); (case q1 => omega)); rintro ⟨A1, c1⟩)))
        | ((with_reducible refine g_call 18 ?_); (first | ((refine' Ef_callP rfl rfl ent_18 (fun w hp => is_v _ _ _ [] _ _ w Rd.nil Rd.nil rfl ?q1 _ _) ?_); (case q1 => decide)) | ((refine' Ef_callP rfl rfl ent_18 (fun w hp => is_v _ _ _ [] _ _ w (hp.rowOf ?q1) Rd.nil rfl ?q2 _ _) ?_); (case q1 => (repeat (first | exact .head _ | apply List.Mem.tail))); (case q2 => decide)) | ((refine' Ef_callP rfl rfl ent_18 (fun w hp => is_v _ _ _ l _ _ w (hp.rowOf ?q1) (hp.rd hr fun _ => List.not_mem_nil) rfl ?q2 _ _) ?_); (case q1 => (repeat (first | exact .head _ | apply List.Mem.tail))); (case q2 => omega)) | ((refine' Ef_callP rfl rfl ent_18 (fun w hp => is_v _ _ _ u.2.2.1 _ _ w (hp.rowOf ?q1) (hp.rowOf ?q2) rfl ?q3 _ _) ?_); (case q1 => (repeat (first | exact .head _ | apply List.Mem.tail))); (case q2 => (repeat (first | exact .head _ | apply List.Mem.tail))); (case q3 => omega))))
        | ((with_reducible refine g_call 19 ?_); (first | ((refine' Ef_callP rfl rfl ent_19 (fun w hp => stays_v A1 c1 l A cap w (hp.rowOf ?q1) (hp.rd hr fun _ => List.not_mem_nil) (hp.capOf (A := A1) (m := l.length + 1) (cap := c1) ?q2) ?q3 k y) ?_); (case q1 => (repeat (first | exact .head _ | apply List.Mem.tail))); (case q2 => (repeat (first | exact .head _ | apply List.Mem.tail))); (case q3 => omega))))
        | ((with_reducible refine g_call 10 ?_); (first | refine Ef_callP rfl rfl ent_10 (fun w _ => awake_c w) ?_))
        | ((with_reducible refine g_call 21 ?_); (first | (((refine' Ef_callN rfl rfl ent_21 (fun w hp => hp1 A1 c1 w (rT_rd (hp.rowOf ?q1)) (hp.capOf (A := A1) (m := l.length + 1) (cap := c1) ?q2)) ?_); (case q1 => (repeat (first | exact .head _ | apply List.Mem.tail))); (case q2 => (repeat (first | exact .head _ | apply List.Mem.tail)))); rintro ⟨A2, c2⟩)))
        | ((with_reducible refine g_call 23 ?_); (first | (((refine' Ef_callN rfl rfl ent_23 (fun w hp => hp1 A1 c1 w (rT_rd (hp.rowOf ?q1)) (hp.capOf (A := A1) (m := l.length + 1) (cap := c1) ?q2)) ?_); (case q1 => (repeat (first | exact .head _ | apply List.Mem.tail))); (case q2 => (repeat (first | exact .head _ | apply List.Mem.tail)))); rintro ⟨A2, c2⟩)))
        | ((with_reducible refine g_call 25 ?_); (first | (((refine' Ef_callN rfl rfl ent_25 (fun w hp => hp1 A1 c1 w (rT_rd (hp.rowOf ?q1)) (hp.capOf (A := A1) (m := l.length + 1) (cap := c1) ?q2)) ?_); (case q1 => (repeat (first | exact .head _ | apply List.Mem.tail))); (case q2 => (repeat (first | exact .head _ | apply List.Mem.tail)))); rintro ⟨A2, c2⟩)))
        | ((with_reducible refine g_call 22 ?_); (first | (refine Ef_callN rfl rfl ent_22 (fun w hp => hp2 w (hp.rd hr fun _ => List.not_mem_nil)) ?_; rintro ⟨A3, c3⟩)))
        | ((with_reducible refine g_call 24 ?_); (first | (refine Ef_callN rfl rfl ent_24 (fun w hp => hp2 w (hp.rd hr fun _ => List.not_mem_nil)) ?_; rintro ⟨A3, c3⟩)))
        | ((with_reducible refine g_call 26 ?_); (first | (refine Ef_callN rfl rfl ent_26 (fun w hp => hp2 w (hp.rd hr fun _ => List.not_mem_nil)) ?_; rintro ⟨A3, c3⟩)))
        | ((with_reducible refine g_call 14 ?_); (first | ((refine' Ef_callP rfl rfl ent_14 (fun w hp => hp1 A1 c1 w (rT_rd (hp.rowOf ?q1))) ?_); (case q1 => (repeat (first | exact .head _ | apply List.Mem.tail))))))
        | ((with_reducible refine g_call 27 ?_); (first | refine Ef_callP rfl rfl ent_27 (fun w hp => hp2 w (hp.rd hr fun _ => List.not_mem_nil)) ?_))))
        | refine w1 ?_
        | (refine w2 ?_ ?_ <;> intro hc)
        | (first | ((refine' ⟨_, Yl_remE rfl rfl ?q1 ?q2 ?q3, ?_⟩); (case q1 => omega); (case q2 => decide); (case q3 => assumption)) | refine ⟨_, Yl_addW rfl rfl, ?_⟩)
        | (refine w4 ?_; (first | ((fail_if_success have := b1); intro b1) | ((fail_if_success have := b2); intro b2) | ((fail_if_success have := b3); intro b3) | intro _))
        | (refine w5 ?_; (first | ((fail_if_success have := A1); intro A1 c1) | ((fail_if_success have := A2); intro A2 c2) | ((fail_if_success have := A3); intro A3 c3) | intro _ _))
        | refine w3 ?_ ?_
        | fail_if_success skip)
    all_goals exact ret_n [] (res1 rfl rfl) (List.nil_sublist _) ⟨rfl, rfl⟩
  have hcase : ∃ u : Int × Int × List Pr × Int, u.2.2.1.length ≤ 64 ∧ ((q = 0 ∧ Ks.putR k y l key value = u) ∨ (q = 1 ∧ Ks.swapR k y l key old value = u) ∨ (q = 2 ∧ Ks.delR k y l key = u)) := by
    rcases hq4 with h | h | h | h
    · exact ⟨_, Ks.putR_len k y l key value, .inl ⟨h, rfl⟩⟩
    · exact ⟨_, Ks.swapR_len k y l key old value, .inr (.inl ⟨h, rfl⟩)⟩
    · exact ⟨_, Ks.delR_len k y l key, .inr (.inr ⟨h, rfl⟩)⟩
    · exact absurd h h3
  obtain ⟨u, hul, hcase⟩ := hcase
  have ha1 := fun A' c' w h (h2 : l.length + 1 ≤ c') => put_c A' l.length c' l w h rfl (by omega) (by omega) k y key value
  have ha2 := fun w h => rput_c A l.length cap l w h rfl (by omega) k y key value
  have hb1 := fun A' c' w h (h2 : l.length + 1 ≤ c') => swap_c A' l.length c' l w h rfl (by omega) (by omega) k y key old value
  have hb2 := fun w h => rswap_c A l.length cap l w h rfl (by omega) k y key old value
  have hc1 := fun A' c' w h (h2 : l.length + 1 ≤ c') => del_c A' l.length c' l w h rfl (by omega) (by omega) k y key
  have hc2 := fun w h => rdel_c A l.length cap l w h rfl (by omega) k y key
  have hcase : (q = 0 ∧ (∀ A' c' w, Rd w A' l.length 2 (l.flatMap pE) → l.length + 1 ≤ c' → Sp Try.prog 21 [.agg (sV k y (A', c') l.length), .string key, .string value] w [] fun r N => ∃ z : Option Addr × Nat, r = .tuple #[.agg (sV u.1 u.2.1 z u.2.2.1.length), .int .i64 u.2.2.2] ∧ N = [rP u.2.2.1 z]) ∧ (∀ w, Rd w A l.length 2 (l.flatMap pE) → Sp Try.prog 22 [.agg (sV k y (A, cap) l.length), .string key, .string value] w [] fun r N => ∃ z : Option Addr × Nat, r = .tuple #[.agg (sV u.1 u.2.1 z u.2.2.1.length), .int .i64 u.2.2.2] ∧ N = [rQ u.2.2.1 z])) ∨
      (q = 1 ∧ (∀ A' c' w, Rd w A' l.length 2 (l.flatMap pE) → l.length + 1 ≤ c' → Sp Try.prog 23 [.agg (sV k y (A', c') l.length), .string key, .string old, .string value] w [] fun r N => ∃ z : Option Addr × Nat, r = .tuple #[.agg (sV u.1 u.2.1 z u.2.2.1.length), .int .i64 u.2.2.2] ∧ N = [rP u.2.2.1 z]) ∧ (∀ w, Rd w A l.length 2 (l.flatMap pE) → Sp Try.prog 24 [.agg (sV k y (A, cap) l.length), .string key, .string old, .string value] w [] fun r N => ∃ z : Option Addr × Nat, r = .tuple #[.agg (sV u.1 u.2.1 z u.2.2.1.length), .int .i64 u.2.2.2] ∧ N = [rQ u.2.2.1 z])) ∨
      (q = 2 ∧ (∀ A' c' w, Rd w A' l.length 2 (l.flatMap pE) → l.length + 1 ≤ c' → Sp Try.prog 25 [.agg (sV k y (A', c') l.length), .string key] w [] fun r N => ∃ z : Option Addr × Nat, r = .tuple #[.agg (sV u.1 u.2.1 z u.2.2.1.length), .int .i64 u.2.2.2] ∧ N = [rP u.2.2.1 z]) ∧ (∀ w, Rd w A l.length 2 (l.flatMap pE) → Sp Try.prog 26 [.agg (sV k y (A, cap) l.length), .string key] w [] fun r N => ∃ z : Option Addr × Nat, r = .tuple #[.agg (sV u.1 u.2.1 z u.2.2.1.length), .int .i64 u.2.2.2] ∧ N = [rQ u.2.2.1 z])) := by
    rcases hcase with ⟨h, hu⟩ | ⟨h, hu⟩ | ⟨h, hu⟩
    · rw [hu] at ha1 ha2
      exact .inl ⟨h, ha1, ha2⟩
    · rw [hu] at hb1 hb2
      exact .inr (.inl ⟨h, hb1, hb2⟩)
    · rw [hu] at hc1 hc2
      exact .inr (.inr ⟨h, hc1, hc2⟩)
  clear ha1 ha2 hb1 hb2 hc1 hc2 hq4 h3
  rcases hcase with ⟨rfl, hp1, hp2⟩ | ⟨rfl, hp1, hp2⟩ | ⟨rfl, hp1, hp2⟩
  all_goals
    refine Sp.enter (n := 144) Try.func5 rfl rfl rfl (Hp.refl w) ?_
    repeat' (first
        | ((with_reducible refine is_build ?_); (first | refine ⟨_, Yl_build rfl (p_build1 _), ?_⟩ | refine ⟨_, Yl_build rfl (r_build2 _ _), ?_⟩ | refine ⟨_, Yl_build rfl r_build0, ?_⟩))
        | ((with_reducible refine ie_callf ?_); (first
        | ((with_reducible refine g_call 9 ?_); (first | refine Ef_callP rfl rfl ent_9 (fun w _ => hgr w) ?_))
        | ((with_reducible refine g_call 11 ?_); (first | (((refine' Ef_callN rfl rfl ent_11 (fun w hp => to_c A l.length cap l w (hp.rd hr fun _ => List.not_mem_nil) rfl ?q1 k y) ?_); (case q1 => omega)); rintro ⟨A1, c1⟩)))
        | ((with_reducible refine g_call 18 ?_); (first | ((refine' Ef_callP rfl rfl ent_18 (fun w hp => is_v _ _ _ [] _ _ w Rd.nil Rd.nil rfl ?q1 _ _) ?_); (case q1 => decide)) | ((refine' Ef_callP rfl rfl ent_18 (fun w hp => is_v _ _ _ [] _ _ w (hp.rowOf ?q1) Rd.nil rfl ?q2 _ _) ?_); (case q1 => (repeat (first | exact .head _ | apply List.Mem.tail))); (case q2 => decide)) | ((refine' Ef_callP rfl rfl ent_18 (fun w hp => is_v _ _ _ l _ _ w (hp.rowOf ?q1) (hp.rd hr fun _ => List.not_mem_nil) rfl ?q2 _ _) ?_); (case q1 => (repeat (first | exact .head _ | apply List.Mem.tail))); (case q2 => omega)) | ((refine' Ef_callP rfl rfl ent_18 (fun w hp => is_v _ _ _ u.2.2.1 _ _ w (hp.rowOf ?q1) (hp.rowOf ?q2) rfl ?q3 _ _) ?_); (case q1 => (repeat (first | exact .head _ | apply List.Mem.tail))); (case q2 => (repeat (first | exact .head _ | apply List.Mem.tail))); (case q3 => omega))))
        | ((with_reducible refine g_call 19 ?_); (first | ((refine' Ef_callP rfl rfl ent_19 (fun w hp => stays_v A1 c1 l A cap w (hp.rowOf ?q1) (hp.rd hr fun _ => List.not_mem_nil) (hp.capOf (A := A1) (m := l.length + 1) (cap := c1) ?q2) ?q3 k y) ?_); (case q1 => (repeat (first | exact .head _ | apply List.Mem.tail))); (case q2 => (repeat (first | exact .head _ | apply List.Mem.tail))); (case q3 => omega))))
        | ((with_reducible refine g_call 10 ?_); (first | refine Ef_callP rfl rfl ent_10 (fun w _ => awake_c w) ?_))
        | ((with_reducible refine g_call 21 ?_); (first | (((refine' Ef_callN rfl rfl ent_21 (fun w hp => hp1 A1 c1 w (rT_rd (hp.rowOf ?q1)) (hp.capOf (A := A1) (m := l.length + 1) (cap := c1) ?q2)) ?_); (case q1 => (repeat (first | exact .head _ | apply List.Mem.tail))); (case q2 => (repeat (first | exact .head _ | apply List.Mem.tail)))); rintro ⟨A2, c2⟩)))
        | ((with_reducible refine g_call 23 ?_); (first | (((refine' Ef_callN rfl rfl ent_23 (fun w hp => hp1 A1 c1 w (rT_rd (hp.rowOf ?q1)) (hp.capOf (A := A1) (m := l.length + 1) (cap := c1) ?q2)) ?_); (case q1 => (repeat (first | exact .head _ | apply List.Mem.tail))); (case q2 => (repeat (first | exact .head _ | apply List.Mem.tail)))); rintro ⟨A2, c2⟩)))
        | ((with_reducible refine g_call 25 ?_); (first | (((refine' Ef_callN rfl rfl ent_25 (fun w hp => hp1 A1 c1 w (rT_rd (hp.rowOf ?q1)) (hp.capOf (A := A1) (m := l.length + 1) (cap := c1) ?q2)) ?_); (case q1 => (repeat (first | exact .head _ | apply List.Mem.tail))); (case q2 => (repeat (first | exact .head _ | apply List.Mem.tail)))); rintro ⟨A2, c2⟩)))
        | ((with_reducible refine g_call 22 ?_); (first | (refine Ef_callN rfl rfl ent_22 (fun w hp => hp2 w (hp.rd hr fun _ => List.not_mem_nil)) ?_; rintro ⟨A3, c3⟩)))
        | ((with_reducible refine g_call 24 ?_); (first | (refine Ef_callN rfl rfl ent_24 (fun w hp => hp2 w (hp.rd hr fun _ => List.not_mem_nil)) ?_; rintro ⟨A3, c3⟩)))
        | ((with_reducible refine g_call 26 ?_); (first | (refine Ef_callN rfl rfl ent_26 (fun w hp => hp2 w (hp.rd hr fun _ => List.not_mem_nil)) ?_; rintro ⟨A3, c3⟩)))
        | ((with_reducible refine g_call 14 ?_); (first | ((refine' Ef_callP rfl rfl ent_14 (fun w hp => hp1 A1 c1 w (rT_rd (hp.rowOf ?q1))) ?_); (case q1 => (repeat (first | exact .head _ | apply List.Mem.tail))))))
        | ((with_reducible refine g_call 27 ?_); (first | refine Ef_callP rfl rfl ent_27 (fun w hp => hp2 w (hp.rd hr fun _ => List.not_mem_nil)) ?_))))
        | refine w1 ?_
        | (refine w2 ?_ ?_ <;> intro hc)
        | (first | ((refine' ⟨_, Yl_remE rfl rfl ?q1 ?q2 ?q3, ?_⟩); (case q1 => omega); (case q2 => decide); (case q3 => assumption)) | refine ⟨_, Yl_addW rfl rfl, ?_⟩)
        | (refine w4 ?_; (first | ((fail_if_success have := b1); intro b1) | ((fail_if_success have := b2); intro b2) | ((fail_if_success have := b3); intro b3) | intro _))
        | (refine w5 ?_; (first | ((fail_if_success have := A1); intro A1 c1) | ((fail_if_success have := A2); intro A2 c2) | ((fail_if_success have := A3); intro A3 c3) | intro _ _))
        | refine w3 ?_ ?_
        | fail_if_success skip)
    · exact ret_n [] (res1 rfl rfl) (List.nil_sublist _) ⟨rfl, rfl⟩
    refine T.part (M' := [.row 57 2 (.slice A2 u.2.2.1.length c2) u.2.2.1.length (u.2.2.1.flatMap pE), .blk b3 (.cells (sV u.1 u.2.1 (A2, c2) u.2.2.1.length) 30 (0, 0)), rT l (A1, c1), .blk b2 (.cells (sV k y (A1, c1) l.length) 30 (0, 0)), .blk b1 (.cells (sV k y (A, cap) l.length) 24 (0, 0))]) (by (repeat (first | exact Part.nil | refine Part.p0 ?_ | refine Part.p1 ?_ | refine Part.p2 ?_ | refine Part.p3 ?_ | refine Part.p4 ?_ | refine Part.p5 ?_ | refine Part.p6 ?_))) ?_
    refine T.loop (α := Nat × List Value) (fun z => [(5, .pointer (some ⟨b1, 0, none⟩)), (11, .pointer (some ⟨b2, 0, none⟩)), (12, .pointer (some ⟨b3, 0, none⟩)), (20, .bool true), (21, .int .i64 (z.1 : Int))]) (fun z => [.row 57 2 (.slice A2 u.2.2.1.length c2) u.2.2.1.length z.2, .blk b3 (.cells (sV u.1 u.2.1 (A2, c2) u.2.2.1.length) 30 (0, 0)), rT l (A1, c1), .blk b2 (.cells (sV k y (A1, c1) l.length) 30 (0, 0)), .blk b1 (.cells (sV k y (A, cap) l.length) 24 (0, 0))]) (fun z => z.1 ≤ u.2.2.1.length) (fun z => u.2.2.1.length - z.1) (0, u.2.2.1.flatMap pE) ?_ ?_ ?_ ?_
    · (repeat (first | exact Sub.nil | refine Sub.cons rfl ?_))
    · exact List.Sublist.refl _
    · exact Nat.zero_le _
    · rintro ⟨i, xs⟩ hi
      dsimp only at hi ⊢
      by_cases hlt : i < u.2.2.1.length
      · obtain ⟨xs', s1⟩ : ∃ xs', setAll xs (i * 2) (pE (⟨#[63]⟩, Ks.e)).toArray.toList = xs' := ⟨_, rfl⟩
        have oQ := pE_one (⟨#[63]⟩, Ks.e)
        repeat' (first
            | ((with_reducible refine is_build ?_); (first | refine ⟨_, Yl_build rfl (p_build1 _), ?_⟩ | refine ⟨_, Yl_build rfl (r_build2 _ _), ?_⟩ | refine ⟨_, Yl_build rfl r_build0, ?_⟩))
            | ((with_reducible refine ie_callf ?_); (first
            | ((with_reducible refine g_call 9 ?_); (first | refine Ef_callP rfl rfl ent_9 (fun w _ => hgr w) ?_))
            | ((with_reducible refine g_call 11 ?_); (first | (((refine' Ef_callN rfl rfl ent_11 (fun w hp => to_c A l.length cap l w (hp.rd hr fun _ => List.not_mem_nil) rfl ?q1 k y) ?_); (case q1 => omega)); rintro ⟨A1, c1⟩)))
            | ((with_reducible refine g_call 18 ?_); (first | ((refine' Ef_callP rfl rfl ent_18 (fun w hp => is_v _ _ _ [] _ _ w Rd.nil Rd.nil rfl ?q1 _ _) ?_); (case q1 => decide)) | ((refine' Ef_callP rfl rfl ent_18 (fun w hp => is_v _ _ _ [] _ _ w (hp.rowOf ?q1) Rd.nil rfl ?q2 _ _) ?_); (case q1 => (repeat (first | exact .head _ | apply List.Mem.tail))); (case q2 => decide)) | ((refine' Ef_callP rfl rfl ent_18 (fun w hp => is_v _ _ _ l _ _ w (hp.rowOf ?q1) (hp.rd hr fun _ => List.not_mem_nil) rfl ?q2 _ _) ?_); (case q1 => (repeat (first | exact .head _ | apply List.Mem.tail))); (case q2 => omega)) | ((refine' Ef_callP rfl rfl ent_18 (fun w hp => is_v _ _ _ u.2.2.1 _ _ w (hp.rowOf ?q1) (hp.rowOf ?q2) rfl ?q3 _ _) ?_); (case q1 => (repeat (first | exact .head _ | apply List.Mem.tail))); (case q2 => (repeat (first | exact .head _ | apply List.Mem.tail))); (case q3 => omega))))
            | ((with_reducible refine g_call 19 ?_); (first | ((refine' Ef_callP rfl rfl ent_19 (fun w hp => stays_v A1 c1 l A cap w (hp.rowOf ?q1) (hp.rd hr fun _ => List.not_mem_nil) (hp.capOf (A := A1) (m := l.length + 1) (cap := c1) ?q2) ?q3 k y) ?_); (case q1 => (repeat (first | exact .head _ | apply List.Mem.tail))); (case q2 => (repeat (first | exact .head _ | apply List.Mem.tail))); (case q3 => omega))))
            | ((with_reducible refine g_call 10 ?_); (first | refine Ef_callP rfl rfl ent_10 (fun w _ => awake_c w) ?_))
            | ((with_reducible refine g_call 21 ?_); (first | (((refine' Ef_callN rfl rfl ent_21 (fun w hp => hp1 A1 c1 w (rT_rd (hp.rowOf ?q1)) (hp.capOf (A := A1) (m := l.length + 1) (cap := c1) ?q2)) ?_); (case q1 => (repeat (first | exact .head _ | apply List.Mem.tail))); (case q2 => (repeat (first | exact .head _ | apply List.Mem.tail)))); rintro ⟨A2, c2⟩)))
            | ((with_reducible refine g_call 23 ?_); (first | (((refine' Ef_callN rfl rfl ent_23 (fun w hp => hp1 A1 c1 w (rT_rd (hp.rowOf ?q1)) (hp.capOf (A := A1) (m := l.length + 1) (cap := c1) ?q2)) ?_); (case q1 => (repeat (first | exact .head _ | apply List.Mem.tail))); (case q2 => (repeat (first | exact .head _ | apply List.Mem.tail)))); rintro ⟨A2, c2⟩)))
            | ((with_reducible refine g_call 25 ?_); (first | (((refine' Ef_callN rfl rfl ent_25 (fun w hp => hp1 A1 c1 w (rT_rd (hp.rowOf ?q1)) (hp.capOf (A := A1) (m := l.length + 1) (cap := c1) ?q2)) ?_); (case q1 => (repeat (first | exact .head _ | apply List.Mem.tail))); (case q2 => (repeat (first | exact .head _ | apply List.Mem.tail)))); rintro ⟨A2, c2⟩)))
            | ((with_reducible refine g_call 22 ?_); (first | (refine Ef_callN rfl rfl ent_22 (fun w hp => hp2 w (hp.rd hr fun _ => List.not_mem_nil)) ?_; rintro ⟨A3, c3⟩)))
            | ((with_reducible refine g_call 24 ?_); (first | (refine Ef_callN rfl rfl ent_24 (fun w hp => hp2 w (hp.rd hr fun _ => List.not_mem_nil)) ?_; rintro ⟨A3, c3⟩)))
            | ((with_reducible refine g_call 26 ?_); (first | (refine Ef_callN rfl rfl ent_26 (fun w hp => hp2 w (hp.rd hr fun _ => List.not_mem_nil)) ?_; rintro ⟨A3, c3⟩)))
            | ((with_reducible refine g_call 14 ?_); (first | ((refine' Ef_callP rfl rfl ent_14 (fun w hp => hp1 A1 c1 w (rT_rd (hp.rowOf ?q1))) ?_); (case q1 => (repeat (first | exact .head _ | apply List.Mem.tail))))))
            | ((with_reducible refine g_call 27 ?_); (first | refine Ef_callP rfl rfl ent_27 (fun w hp => hp2 w (hp.rd hr fun _ => List.not_mem_nil)) ?_))))
            | refine w1 ?_
            | (refine w2 ?_ ?_ <;> intro hc)
            | (first | ((refine' ⟨_, Yl_remE rfl rfl ?q1 ?q2 ?q3, ?_⟩); (case q1 => omega); (case q2 => decide); (case q3 => assumption)) | refine ⟨_, Yl_addW rfl rfl, ?_⟩)
            | (refine w4 ?_; (first | ((fail_if_success have := b1); intro b1) | ((fail_if_success have := b2); intro b2) | ((fail_if_success have := b3); intro b3) | intro _))
            | (refine w5 ?_; (first | ((fail_if_success have := A1); intro A1 c1) | ((fail_if_success have := A2); intro A2 c2) | ((fail_if_success have := A3); intro A3 c3) | intro _ _))
            | refine w3 ?_ ?_
            | fail_if_success skip)
        refine loopQ_n (i + 1, xs') ?_ ?_ (show i + 1 ≤ u.2.2.1.length by omega) (show u.2.2.1.length - (i + 1) < u.2.2.1.length - i by omega)
        · (repeat (first | exact Sub.nil | refine Sub.cons rfl ?_))
        · (repeat (first | exact List.nil_sublist _ | refine List.Sublist.cons_cons _ ?_ | refine List.Sublist.cons _ ?_))
      · repeat' (first
          | ((with_reducible refine is_build ?_); (first | refine ⟨_, Yl_build rfl (p_build1 _), ?_⟩ | refine ⟨_, Yl_build rfl (r_build2 _ _), ?_⟩ | refine ⟨_, Yl_build rfl r_build0, ?_⟩))
          | ((with_reducible refine ie_callf ?_); (first
          | ((with_reducible refine g_call 9 ?_); (first | refine Ef_callP rfl rfl ent_9 (fun w _ => hgr w) ?_))
          | ((with_reducible refine g_call 11 ?_); (first | (((refine' Ef_callN rfl rfl ent_11 (fun w hp => to_c A l.length cap l w (hp.rd hr fun _ => List.not_mem_nil) rfl ?q1 k y) ?_); (case q1 => omega)); rintro ⟨A1, c1⟩)))
          | ((with_reducible refine g_call 18 ?_); (first | ((refine' Ef_callP rfl rfl ent_18 (fun w hp => is_v _ _ _ [] _ _ w Rd.nil Rd.nil rfl ?q1 _ _) ?_); (case q1 => decide)) | ((refine' Ef_callP rfl rfl ent_18 (fun w hp => is_v _ _ _ [] _ _ w (hp.rowOf ?q1) Rd.nil rfl ?q2 _ _) ?_); (case q1 => (repeat (first | exact .head _ | apply List.Mem.tail))); (case q2 => decide)) | ((refine' Ef_callP rfl rfl ent_18 (fun w hp => is_v _ _ _ l _ _ w (hp.rowOf ?q1) (hp.rd hr fun _ => List.not_mem_nil) rfl ?q2 _ _) ?_); (case q1 => (repeat (first | exact .head _ | apply List.Mem.tail))); (case q2 => omega)) | ((refine' Ef_callP rfl rfl ent_18 (fun w hp => is_v _ _ _ u.2.2.1 _ _ w (hp.rowOf ?q1) (hp.rowOf ?q2) rfl ?q3 _ _) ?_); (case q1 => (repeat (first | exact .head _ | apply List.Mem.tail))); (case q2 => (repeat (first | exact .head _ | apply List.Mem.tail))); (case q3 => omega))))
          | ((with_reducible refine g_call 19 ?_); (first | ((refine' Ef_callP rfl rfl ent_19 (fun w hp => stays_v A1 c1 l A cap w (hp.rowOf ?q1) (hp.rd hr fun _ => List.not_mem_nil) (hp.capOf (A := A1) (m := l.length + 1) (cap := c1) ?q2) ?q3 k y) ?_); (case q1 => (repeat (first | exact .head _ | apply List.Mem.tail))); (case q2 => (repeat (first | exact .head _ | apply List.Mem.tail))); (case q3 => omega))))
          | ((with_reducible refine g_call 10 ?_); (first | refine Ef_callP rfl rfl ent_10 (fun w _ => awake_c w) ?_))
          | ((with_reducible refine g_call 21 ?_); (first | (((refine' Ef_callN rfl rfl ent_21 (fun w hp => hp1 A1 c1 w (rT_rd (hp.rowOf ?q1)) (hp.capOf (A := A1) (m := l.length + 1) (cap := c1) ?q2)) ?_); (case q1 => (repeat (first | exact .head _ | apply List.Mem.tail))); (case q2 => (repeat (first | exact .head _ | apply List.Mem.tail)))); rintro ⟨A2, c2⟩)))
          | ((with_reducible refine g_call 23 ?_); (first | (((refine' Ef_callN rfl rfl ent_23 (fun w hp => hp1 A1 c1 w (rT_rd (hp.rowOf ?q1)) (hp.capOf (A := A1) (m := l.length + 1) (cap := c1) ?q2)) ?_); (case q1 => (repeat (first | exact .head _ | apply List.Mem.tail))); (case q2 => (repeat (first | exact .head _ | apply List.Mem.tail)))); rintro ⟨A2, c2⟩)))
          | ((with_reducible refine g_call 25 ?_); (first | (((refine' Ef_callN rfl rfl ent_25 (fun w hp => hp1 A1 c1 w (rT_rd (hp.rowOf ?q1)) (hp.capOf (A := A1) (m := l.length + 1) (cap := c1) ?q2)) ?_); (case q1 => (repeat (first | exact .head _ | apply List.Mem.tail))); (case q2 => (repeat (first | exact .head _ | apply List.Mem.tail)))); rintro ⟨A2, c2⟩)))
          | ((with_reducible refine g_call 22 ?_); (first | (refine Ef_callN rfl rfl ent_22 (fun w hp => hp2 w (hp.rd hr fun _ => List.not_mem_nil)) ?_; rintro ⟨A3, c3⟩)))
          | ((with_reducible refine g_call 24 ?_); (first | (refine Ef_callN rfl rfl ent_24 (fun w hp => hp2 w (hp.rd hr fun _ => List.not_mem_nil)) ?_; rintro ⟨A3, c3⟩)))
          | ((with_reducible refine g_call 26 ?_); (first | (refine Ef_callN rfl rfl ent_26 (fun w hp => hp2 w (hp.rd hr fun _ => List.not_mem_nil)) ?_; rintro ⟨A3, c3⟩)))
          | ((with_reducible refine g_call 14 ?_); (first | ((refine' Ef_callP rfl rfl ent_14 (fun w hp => hp1 A1 c1 w (rT_rd (hp.rowOf ?q1))) ?_); (case q1 => (repeat (first | exact .head _ | apply List.Mem.tail))))))
          | ((with_reducible refine g_call 27 ?_); (first | refine Ef_callP rfl rfl ent_27 (fun w hp => hp2 w (hp.rd hr fun _ => List.not_mem_nil)) ?_))))
          | refine w1 ?_
          | (refine w2 ?_ ?_ <;> intro hc)
          | (first | ((refine' ⟨_, Yl_remE rfl rfl ?q1 ?q2 ?q3, ?_⟩); (case q1 => omega); (case q2 => decide); (case q3 => assumption)) | refine ⟨_, Yl_addW rfl rfl, ?_⟩)
          | (refine w4 ?_; (first | ((fail_if_success have := b1); intro b1) | ((fail_if_success have := b2); intro b2) | ((fail_if_success have := b3); intro b3) | intro _))
          | (refine w5 ?_; (first | ((fail_if_success have := A1); intro A1 c1) | ((fail_if_success have := A2); intro A2 c2) | ((fail_if_success have := A3); intro A3 c3) | intro _ _))
          | refine w3 ?_ ?_
          | fail_if_success skip)
        exact ret_n [] (res1 rfl rfl) (List.nil_sublist _) ⟨rfl, rfl⟩
end
end Go.Proofs.Ytimmabejfigleaa
