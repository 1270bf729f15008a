/- The laws on one key and on two puts: what a call of each comes to. -/
import Derived.Test.YtimmabejfigleaaT8
import Derived.Test.YtimmabejfigleaaKu
namespace Go.Proofs.Ytimmabejfigleaa
open Go.RowKit
set_option maxRecDepth 20000

/-- What a call on a space that is handed in comes to. -/
def Out (F : Nat) (args : Option Addr → Nat → List Value) (l : List Pr) (a b : Int) (m : List Pr) (n : Nat) (e : Int) : Prop := ∀ A' c' w, Rd w A' l.length 2 (l.flatMap pE) → l.length + 1 ≤ c' → Sp Try.prog F (args A' c') w [] fun r N => ∃ z : Option Addr × Nat, r = .tuple #[.agg (sV a b z n), .int .i64 e] ∧ N = [rP m z]

section
variable (A : Option Addr) (cap : Nat) (l : List Pr) (w : World) (hr : Rd w A l.length 2 (l.flatMap pE)) (hle : l.length ≤ 9223372036854775807)
include hr hle
set_option maxHeartbeats 16000000 in
theorem one_c (k y what : Int) (key value other : ByteArray) (hw : 0 ≤ what ∧ what ≤ 255) : Sp Try.prog 6 [.agg (sV k y (A, cap) l.length), .int .u8 what, .string key, .string value, .string other] w [] fun v N => v = .bool true ∧ N = [] := by
  have hgr := fun w => great_v A l.length cap w k y
  by_cases hbig : (l.length : Int) > 100
  · rw [decide_eq_true hbig] at hgr
    refine Sp.enter (n := 156) Try.func6 rfl rfl rfl (Hp.refl w) ?_
    repeat' (first
        | ((with_reducible refine ie_callf ?_); (first
        | ((with_reducible refine g_call 9 ?_); (first | refine Ef_callP rfl rfl ent_9 (fun w _ => hgr w) ?_))
        | ((with_reducible refine g_call 11 ?_); (first | (((refine' Ef_callN rfl rfl ent_11 (fun w hp => to_c A l.length cap l w (hp.rd hr fun _ => List.not_mem_nil) rfl ?q1 k y) ?_); (case q1 => omega)); rintro ⟨A1, c1⟩)))
        | ((with_reducible refine g_call 10 ?_); (first | refine Ef_callP rfl rfl ent_10 (fun w _ => awake_c w) ?_))
        | ((with_reducible refine g_call 21 ?_); (first
        | (((refine' Ef_callN rfl rfl ent_21 (fun w hp => hp1 A1 c1 w (rT_rd (hp.rowOf ?q1)) (hp.capOf (A := A1) (m := l.length + 1) (cap := c1) ?q2)) ?_); (case q1 => (repeat (first | exact .head _ | apply List.Mem.tail))); (case q2 => (repeat (first | exact .head _ | apply List.Mem.tail)))); (first | ((fail_if_success have := A1); rintro ⟨A1, c1⟩) | ((fail_if_success have := A2); rintro ⟨A2, c2⟩) | ((fail_if_success have := A3); rintro ⟨A3, c3⟩) | rintro ⟨_, _⟩))
        | (((refine' Ef_callN rfl rfl ent_21 (fun w hp => hp2 A1 c1 w (rT_rd (hp.rowOf ?q1)) (hp.capOf (A := A1) (m := l.length + 1) (cap := c1) ?q2)) ?_); (case q1 => (repeat (first | exact .head _ | apply List.Mem.tail))); (case q2 => (repeat (first | exact .head _ | apply List.Mem.tail)))); (first | ((fail_if_success have := A1); rintro ⟨A1, c1⟩) | ((fail_if_success have := A2); rintro ⟨A2, c2⟩) | ((fail_if_success have := A3); rintro ⟨A3, c3⟩) | rintro ⟨_, _⟩))
        | (((refine' Ef_callN rfl rfl ent_21 (fun w hp => hp3 A2 c2 w (hp.rowOf ?q1) (hp.capOf (A := A2) (m := m1.length) (cap := c2) ?q2)) ?_); (case q1 => (repeat (first | exact .head _ | apply List.Mem.tail))); (case q2 => (repeat (first | exact .head _ | apply List.Mem.tail)))); (first | ((fail_if_success have := A1); rintro ⟨A1, c1⟩) | ((fail_if_success have := A2); rintro ⟨A2, c2⟩) | ((fail_if_success have := A3); rintro ⟨A3, c3⟩) | rintro ⟨_, _⟩))
        | (((refine' Ef_callN rfl rfl ent_21 (fun w hp => hp4 A3 c3 w (hp.rowOf ?q1) (hp.capOf (A := A3) (m := m2.length) (cap := c3) ?q2)) ?_); (case q1 => (repeat (first | exact .head _ | apply List.Mem.tail))); (case q2 => (repeat (first | exact .head _ | apply List.Mem.tail)))); (first | ((fail_if_success have := A1); rintro ⟨A1, c1⟩) | ((fail_if_success have := A2); rintro ⟨A2, c2⟩) | ((fail_if_success have := A3); rintro ⟨A3, c3⟩) | rintro ⟨_, _⟩))))
        | ((with_reducible refine g_call 23 ?_); (first | (((refine' Ef_callN rfl rfl ent_23 (fun w hp => hp1 A1 c1 w (rT_rd (hp.rowOf ?q1)) (hp.capOf (A := A1) (m := l.length + 1) (cap := c1) ?q2)) ?_); (case q1 => (repeat (first | exact .head _ | apply List.Mem.tail))); (case q2 => (repeat (first | exact .head _ | apply List.Mem.tail)))); rintro ⟨A2, c2⟩)))
        | ((with_reducible refine g_call 25 ?_); (first | (((refine' Ef_callN rfl rfl ent_25 (fun w hp => hp1 A1 c1 w (rT_rd (hp.rowOf ?q1)) (hp.capOf (A := A1) (m := l.length + 1) (cap := c1) ?q2)) ?_); (case q1 => (repeat (first | exact .head _ | apply List.Mem.tail))); (case q2 => (repeat (first | exact .head _ | apply List.Mem.tail)))); rintro ⟨A2, c2⟩)))
        | ((with_reducible refine g_call 14 ?_); (first | ((refine' Ef_callP rfl rfl ent_14 (fun w hp => hg1 A1 c1 w (rT_rd (hp.rowOf ?q1))) ?_); (case q1 => (repeat (first | exact .head _ | apply List.Mem.tail)))) | ((refine' Ef_callP rfl rfl ent_14 (fun w hp => hg2 A2 c2 w (hp.rowOf ?q1)) ?_); (case q1 => (repeat (first | exact .head _ | apply List.Mem.tail)))) | ((refine' Ef_callP rfl rfl ent_14 (fun w hp => hg3 A1 c1 w (rT_rd (hp.rowOf ?q1))) ?_); (case q1 => (repeat (first | exact .head _ | apply List.Mem.tail)))) | ((refine' Ef_callP rfl rfl ent_14 (fun w hp => hg4 A2 c2 w (hp.rowOf ?q1)) ?_); (case q1 => (repeat (first | exact .head _ | apply List.Mem.tail))))))
        | ((with_reducible refine g_call 28 ?_); (first | ((refine' Ef_callP rfl rfl ent_28 (fun w hp => hma A2 c2 w (hp.rowOf ?q1)) ?_); (case q1 => (repeat (first | exact .head _ | apply List.Mem.tail))))))))
        | refine w1 ?_
        | (refine w2 ?_ ?_ <;> intro hc)
        | (first | ((refine' ⟨_, Yl_remE rfl rfl ?q1 ?q2 ?q3, ?_⟩); (case q1 => omega); (case q2 => decide); (case q3 => assumption)) | refine ⟨_, Yl_addW rfl rfl, ?_⟩)
        | (refine w4 ?_; (intro _))
        | (refine w5 ?_; (first | ((fail_if_success have := A1); intro A1 c1) | ((fail_if_success have := A2); intro A2 c2) | ((fail_if_success have := A3); intro A3 c3) | intro _ _))
        | refine w3 ?_ ?_
        | fail_if_success skip)
    exact ret_n [] (res1 rfl rfl) (List.nil_sublist _) ⟨rfl, rfl⟩
  rw [decide_eq_false hbig] at hgr
  obtain ⟨q, hq⟩ : ∃ q, what % 3 = q := ⟨_, rfl⟩
  have hq3 : q = 0 ∨ q = 1 ∨ q = 2 := by omega
  have hg1 := fun A' c' w h => get_c A' l.length c' l w h rfl (by omega) k y key
  have hg3 := fun A' c' w h => get_c A' l.length c' l w h rfl (by omega) k y other
  have ha := fun A' c' w h (h2 : l.length + 1 ≤ c') => put_c A' l.length c' l w h rfl (by omega) (by omega) k y key value
  have hb := fun A' c' w h (h2 : l.length + 1 ≤ c') => swap_c A' l.length c' l w h rfl (by omega) (by omega) k y key (Ks.getR k y l key).1 value
  have hc := fun A' c' w h (h2 : l.length + 1 ≤ c') => del_c A' l.length c' l w h rfl (by omega) (by omega) k y key
  have hcase : (∃ m, Ks.May k y m ∧ (∀ o, ¬ o = key → Ks.getR k y m o = Ks.getR k y l o) ∧
        ((q = 0 ∧ Out 21 (fun A' c' => [.agg (sV k y (A', c') l.length), .string key, .string value]) l k y m m.length 0 ∧ Ks.getR k y m key = (value, 0)) ∨
         (q = 1 ∧ Out 23 (fun A' c' => [.agg (sV k y (A', c') l.length), .string key, .string (Ks.getR k y l key).1, .string value]) l k y m m.length 0 ∧ Ks.getR k y m key = (value, 0)) ∨
         (q = 2 ∧ Out 25 (fun A' c' => [.agg (sV k y (A', c') l.length), .string key]) l k y m m.length 0 ∧ Ks.getR k y m key = (Ks.e, 110)))) ∨
      ∃ e : Int, ¬ e = 0 ∧
        ((q = 0 ∧ Out 21 (fun A' c' => [.agg (sV k y (A', c') l.length), .string key, .string value]) l 0 0 [] 0 e) ∨
         (q = 1 ∧ Out 23 (fun A' c' => [.agg (sV k y (A', c') l.length), .string key, .string (Ks.getR k y l key).1, .string value]) l 0 0 [] 0 e ∧ ((Ks.getR k y l key).2 = e ∨ e = 120 ∨ e = 2)) ∨
         (q = 2 ∧ Out 25 (fun A' c' => [.agg (sV k y (A', c') l.length), .string key]) l 0 0 [] 0 e ∧ (Ks.getR k y l key).2 = e)) := by
    rcases hq3 with rfl | rfl | rfl
    · rcases Ks.put_or k y l key value with ⟨h1, h2, h3, h4⟩ | ⟨e, h1, h4⟩
      · rw [h4] at ha
        exact .inl ⟨_, h3, fun o ho => Ks.getR_put_other h1 h3 ho, .inl ⟨rfl, ha, Ks.getR_put_self h1 h2 h3⟩⟩
      · rw [h4] at ha
        exact .inr ⟨e, by omega, .inl ⟨rfl, ha⟩⟩
    · rcases Ks.swap_or k y l key (Ks.getR k y l key).1 value with ⟨h1, h2, _, h3, h4⟩ | ⟨e, h1, h4, _⟩
      · rw [h4] at hb
        exact .inl ⟨_, h3, fun o ho => Ks.getR_put_other h1 h3 ho, .inr (.inl ⟨rfl, hb, Ks.getR_put_self h1 h2 h3⟩)⟩
      · have h5 := Ks.swap_was h1 h4
        rw [h4] at hb
        exact .inr ⟨e, h1, .inr (.inl ⟨rfl, hb, h5⟩)⟩
    · rcases Ks.del_or k y l key with ⟨h1, h2, h4⟩ | ⟨e, h1, h2, h4⟩
      · rw [h4] at hc
        exact .inl ⟨_, Ks.may_rest h1 key, fun o ho => Ks.getR_rest_other h1 ho, .inr (.inr ⟨rfl, hc, Ks.getR_rest_self h1 h2⟩)⟩
      · rw [h4] at hc
        exact .inr ⟨e, h1, .inr (.inr ⟨rfl, hc, h2⟩)⟩
  clear ha hb hc hq3
  rcases hcase with ⟨m, hm, hgo, hcase⟩ | ⟨e, he, hcase⟩
  · have hml := Ks.may_len hm
    have hg2 := fun A' c' w h => get_c A' m.length c' m w h rfl (by omega) k y key
    have hg4 := fun A' c' w h => get_c A' m.length c' m w h rfl (by omega) k y other
    have hma := fun A' c' w h => may_v A' m.length c' m w h rfl (by omega) k y true ((Ks.may_iff _ _ _).2 hm)
    have hgo' : other = key ∨ (¬ other = key ∧ Ks.getR k y m other = Ks.getR k y l other) := by
      by_cases h : other = key
      · exact .inl h
      · exact .inr ⟨h, hgo other h⟩
    clear hgo
    rcases hcase with ⟨rfl, hp1, hk⟩ | ⟨rfl, hp1, hk⟩ | ⟨rfl, hp1, hk⟩
    all_goals
      rw [hk] at hg2
      rcases hgo' with rfl | ⟨ho, hgo⟩
    all_goals
      first | rw [hk] at hg4 | rw [hgo] at hg4
      refine Sp.enter (n := 156) Try.func6 rfl rfl rfl (Hp.refl w) ?_
      repeat' (first
          | ((with_reducible refine ie_callf ?_); (first
          | ((with_reducible refine g_call 9 ?_); (first | refine Ef_callP rfl rfl ent_9 (fun w _ => hgr w) ?_))
          | ((with_reducible refine g_call 11 ?_); (first | (((refine' Ef_callN rfl rfl ent_11 (fun w hp => to_c A l.length cap l w (hp.rd hr fun _ => List.not_mem_nil) rfl ?q1 k y) ?_); (case q1 => omega)); rintro ⟨A1, c1⟩)))
          | ((with_reducible refine g_call 10 ?_); (first | refine Ef_callP rfl rfl ent_10 (fun w _ => awake_c w) ?_))
          | ((with_reducible refine g_call 21 ?_); (first
          | (((refine' Ef_callN rfl rfl ent_21 (fun w hp => hp1 A1 c1 w (rT_rd (hp.rowOf ?q1)) (hp.capOf (A := A1) (m := l.length + 1) (cap := c1) ?q2)) ?_); (case q1 => (repeat (first | exact .head _ | apply List.Mem.tail))); (case q2 => (repeat (first | exact .head _ | apply List.Mem.tail)))); (first | ((fail_if_success have := A1); rintro ⟨A1, c1⟩) | ((fail_if_success have := A2); rintro ⟨A2, c2⟩) | ((fail_if_success have := A3); rintro ⟨A3, c3⟩) | rintro ⟨_, _⟩))
          | (((refine' Ef_callN rfl rfl ent_21 (fun w hp => hp2 A1 c1 w (rT_rd (hp.rowOf ?q1)) (hp.capOf (A := A1) (m := l.length + 1) (cap := c1) ?q2)) ?_); (case q1 => (repeat (first | exact .head _ | apply List.Mem.tail))); (case q2 => (repeat (first | exact .head _ | apply List.Mem.tail)))); (first | ((fail_if_success have := A1); rintro ⟨A1, c1⟩) | ((fail_if_success have := A2); rintro ⟨A2, c2⟩) | ((fail_if_success have := A3); rintro ⟨A3, c3⟩) | rintro ⟨_, _⟩))
          | (((refine' Ef_callN rfl rfl ent_21 (fun w hp => hp3 A2 c2 w (hp.rowOf ?q1) (hp.capOf (A := A2) (m := m1.length) (cap := c2) ?q2)) ?_); (case q1 => (repeat (first | exact .head _ | apply List.Mem.tail))); (case q2 => (repeat (first | exact .head _ | apply List.Mem.tail)))); (first | ((fail_if_success have := A1); rintro ⟨A1, c1⟩) | ((fail_if_success have := A2); rintro ⟨A2, c2⟩) | ((fail_if_success have := A3); rintro ⟨A3, c3⟩) | rintro ⟨_, _⟩))
          | (((refine' Ef_callN rfl rfl ent_21 (fun w hp => hp4 A3 c3 w (hp.rowOf ?q1) (hp.capOf (A := A3) (m := m2.length) (cap := c3) ?q2)) ?_); (case q1 => (repeat (first | exact .head _ | apply List.Mem.tail))); (case q2 => (repeat (first | exact .head _ | apply List.Mem.tail)))); (first | ((fail_if_success have := A1); rintro ⟨A1, c1⟩) | ((fail_if_success have := A2); rintro ⟨A2, c2⟩) | ((fail_if_success have := A3); rintro ⟨A3, c3⟩) | rintro ⟨_, _⟩))))
          | ((with_reducible refine g_call 23 ?_); (first | (((refine' Ef_callN rfl rfl ent_23 (fun w hp => hp1 A1 c1 w (rT_rd (hp.rowOf ?q1)) (hp.capOf (A := A1) (m := l.length + 1) (cap := c1) ?q2)) ?_); (case q1 => (repeat (first | exact .head _ | apply List.Mem.tail))); (case q2 => (repeat (first | exact .head _ | apply List.Mem.tail)))); rintro ⟨A2, c2⟩)))
          | ((with_reducible refine g_call 25 ?_); (first | (((refine' Ef_callN rfl rfl ent_25 (fun w hp => hp1 A1 c1 w (rT_rd (hp.rowOf ?q1)) (hp.capOf (A := A1) (m := l.length + 1) (cap := c1) ?q2)) ?_); (case q1 => (repeat (first | exact .head _ | apply List.Mem.tail))); (case q2 => (repeat (first | exact .head _ | apply List.Mem.tail)))); rintro ⟨A2, c2⟩)))
          | ((with_reducible refine g_call 14 ?_); (first | ((refine' Ef_callP rfl rfl ent_14 (fun w hp => hg1 A1 c1 w (rT_rd (hp.rowOf ?q1))) ?_); (case q1 => (repeat (first | exact .head _ | apply List.Mem.tail)))) | ((refine' Ef_callP rfl rfl ent_14 (fun w hp => hg2 A2 c2 w (hp.rowOf ?q1)) ?_); (case q1 => (repeat (first | exact .head _ | apply List.Mem.tail)))) | ((refine' Ef_callP rfl rfl ent_14 (fun w hp => hg3 A1 c1 w (rT_rd (hp.rowOf ?q1))) ?_); (case q1 => (repeat (first | exact .head _ | apply List.Mem.tail)))) | ((refine' Ef_callP rfl rfl ent_14 (fun w hp => hg4 A2 c2 w (hp.rowOf ?q1)) ?_); (case q1 => (repeat (first | exact .head _ | apply List.Mem.tail))))))
          | ((with_reducible refine g_call 28 ?_); (first | ((refine' Ef_callP rfl rfl ent_28 (fun w hp => hma A2 c2 w (hp.rowOf ?q1)) ?_); (case q1 => (repeat (first | exact .head _ | apply List.Mem.tail))))))))
          | refine w1 ?_
          | (refine w2 ?_ ?_ <;> intro hc)
          | (first | ((refine' ⟨_, Yl_remE rfl rfl ?q1 ?q2 ?q3, ?_⟩); (case q1 => omega); (case q2 => decide); (case q3 => assumption)) | refine ⟨_, Yl_addW rfl rfl, ?_⟩)
          | (refine w4 ?_; (intro _))
          | (refine w5 ?_; (first | ((fail_if_success have := A1); intro A1 c1) | ((fail_if_success have := A2); intro A2 c2) | ((fail_if_success have := A3); intro A3 c3) | intro _ _))
          | refine w3 ?_ ?_
          | fail_if_success skip)
      all_goals exact ret_n [] (res1 rfl rfl) (List.nil_sublist _) ⟨rfl, rfl⟩
  · rcases hcase with ⟨rfl, hp1⟩ | ⟨rfl, hp1, h | h | h⟩ | ⟨rfl, hp1, h⟩
    all_goals
      refine Sp.enter (n := 156) Try.func6 rfl rfl rfl (Hp.refl w) ?_
      repeat' (first
          | ((with_reducible refine ie_callf ?_); (first
          | ((with_reducible refine g_call 9 ?_); (first | refine Ef_callP rfl rfl ent_9 (fun w _ => hgr w) ?_))
          | ((with_reducible refine g_call 11 ?_); (first | (((refine' Ef_callN rfl rfl ent_11 (fun w hp => to_c A l.length cap l w (hp.rd hr fun _ => List.not_mem_nil) rfl ?q1 k y) ?_); (case q1 => omega)); rintro ⟨A1, c1⟩)))
          | ((with_reducible refine g_call 10 ?_); (first | refine Ef_callP rfl rfl ent_10 (fun w _ => awake_c w) ?_))
          | ((with_reducible refine g_call 21 ?_); (first
          | (((refine' Ef_callN rfl rfl ent_21 (fun w hp => hp1 A1 c1 w (rT_rd (hp.rowOf ?q1)) (hp.capOf (A := A1) (m := l.length + 1) (cap := c1) ?q2)) ?_); (case q1 => (repeat (first | exact .head _ | apply List.Mem.tail))); (case q2 => (repeat (first | exact .head _ | apply List.Mem.tail)))); (first | ((fail_if_success have := A1); rintro ⟨A1, c1⟩) | ((fail_if_success have := A2); rintro ⟨A2, c2⟩) | ((fail_if_success have := A3); rintro ⟨A3, c3⟩) | rintro ⟨_, _⟩))
          | (((refine' Ef_callN rfl rfl ent_21 (fun w hp => hp2 A1 c1 w (rT_rd (hp.rowOf ?q1)) (hp.capOf (A := A1) (m := l.length + 1) (cap := c1) ?q2)) ?_); (case q1 => (repeat (first | exact .head _ | apply List.Mem.tail))); (case q2 => (repeat (first | exact .head _ | apply List.Mem.tail)))); (first | ((fail_if_success have := A1); rintro ⟨A1, c1⟩) | ((fail_if_success have := A2); rintro ⟨A2, c2⟩) | ((fail_if_success have := A3); rintro ⟨A3, c3⟩) | rintro ⟨_, _⟩))
          | (((refine' Ef_callN rfl rfl ent_21 (fun w hp => hp3 A2 c2 w (hp.rowOf ?q1) (hp.capOf (A := A2) (m := m1.length) (cap := c2) ?q2)) ?_); (case q1 => (repeat (first | exact .head _ | apply List.Mem.tail))); (case q2 => (repeat (first | exact .head _ | apply List.Mem.tail)))); (first | ((fail_if_success have := A1); rintro ⟨A1, c1⟩) | ((fail_if_success have := A2); rintro ⟨A2, c2⟩) | ((fail_if_success have := A3); rintro ⟨A3, c3⟩) | rintro ⟨_, _⟩))
          | (((refine' Ef_callN rfl rfl ent_21 (fun w hp => hp4 A3 c3 w (hp.rowOf ?q1) (hp.capOf (A := A3) (m := m2.length) (cap := c3) ?q2)) ?_); (case q1 => (repeat (first | exact .head _ | apply List.Mem.tail))); (case q2 => (repeat (first | exact .head _ | apply List.Mem.tail)))); (first | ((fail_if_success have := A1); rintro ⟨A1, c1⟩) | ((fail_if_success have := A2); rintro ⟨A2, c2⟩) | ((fail_if_success have := A3); rintro ⟨A3, c3⟩) | rintro ⟨_, _⟩))))
          | ((with_reducible refine g_call 23 ?_); (first | (((refine' Ef_callN rfl rfl ent_23 (fun w hp => hp1 A1 c1 w (rT_rd (hp.rowOf ?q1)) (hp.capOf (A := A1) (m := l.length + 1) (cap := c1) ?q2)) ?_); (case q1 => (repeat (first | exact .head _ | apply List.Mem.tail))); (case q2 => (repeat (first | exact .head _ | apply List.Mem.tail)))); rintro ⟨A2, c2⟩)))
          | ((with_reducible refine g_call 25 ?_); (first | (((refine' Ef_callN rfl rfl ent_25 (fun w hp => hp1 A1 c1 w (rT_rd (hp.rowOf ?q1)) (hp.capOf (A := A1) (m := l.length + 1) (cap := c1) ?q2)) ?_); (case q1 => (repeat (first | exact .head _ | apply List.Mem.tail))); (case q2 => (repeat (first | exact .head _ | apply List.Mem.tail)))); rintro ⟨A2, c2⟩)))
          | ((with_reducible refine g_call 14 ?_); (first | ((refine' Ef_callP rfl rfl ent_14 (fun w hp => hg1 A1 c1 w (rT_rd (hp.rowOf ?q1))) ?_); (case q1 => (repeat (first | exact .head _ | apply List.Mem.tail)))) | ((refine' Ef_callP rfl rfl ent_14 (fun w hp => hg2 A2 c2 w (hp.rowOf ?q1)) ?_); (case q1 => (repeat (first | exact .head _ | apply List.Mem.tail)))) | ((refine' Ef_callP rfl rfl ent_14 (fun w hp => hg3 A1 c1 w (rT_rd (hp.rowOf ?q1))) ?_); (case q1 => (repeat (first | exact .head _ | apply List.Mem.tail)))) | ((refine' Ef_callP rfl rfl ent_14 (fun w hp => hg4 A2 c2 w (hp.rowOf ?q1)) ?_); (case q1 => (repeat (first | exact .head _ | apply List.Mem.tail))))))
          | ((with_reducible refine g_call 28 ?_); (first | ((refine' Ef_callP rfl rfl ent_28 (fun w hp => hma A2 c2 w (hp.rowOf ?q1)) ?_); (case q1 => (repeat (first | exact .head _ | apply List.Mem.tail))))))))
          | refine w1 ?_
          | (refine w2 ?_ ?_ <;> intro hc)
          | (first | ((refine' ⟨_, Yl_remE rfl rfl ?q1 ?q2 ?q3, ?_⟩); (case q1 => omega); (case q2 => decide); (case q3 => assumption)) | refine ⟨_, Yl_addW rfl rfl, ?_⟩)
          | (refine w4 ?_; (intro _))
          | (refine w5 ?_; (first | ((fail_if_success have := A1); intro A1 c1) | ((fail_if_success have := A2); intro A2 c2) | ((fail_if_success have := A3); intro A3 c3) | intro _ _))
          | refine w3 ?_ ?_
          | fail_if_success skip)
      all_goals exact ret_n [] (res1 rfl rfl) (List.nil_sublist _) ⟨rfl, rfl⟩

set_option maxHeartbeats 16000000 in
theorem order_c (k y : Int) (a x b z : ByteArray) : Sp Try.prog 8 [.agg (sV k y (A, cap) l.length), .string a, .string x, .string b, .string z] w [] fun v N => v = .bool true ∧ N = [] := by
  have hgr := fun w => great_v A l.length cap w k y
  by_cases hbig : (l.length : Int) > 100
  · rw [decide_eq_true hbig] at hgr
    refine Sp.enter (n := 86) Try.func8 rfl rfl rfl (Hp.refl w) ?_
    repeat' (first
        | ((with_reducible refine ie_callf ?_); (first
        | ((with_reducible refine g_call 9 ?_); (first | refine Ef_callP rfl rfl ent_9 (fun w _ => hgr w) ?_))
        | ((with_reducible refine g_call 11 ?_); (first | (((refine' Ef_callN rfl rfl ent_11 (fun w hp => to_c A l.length cap l w (hp.rd hr fun _ => List.not_mem_nil) rfl ?q1 k y) ?_); (case q1 => omega)); rintro ⟨A1, c1⟩)))
        | ((with_reducible refine g_call 10 ?_); (first | refine Ef_callP rfl rfl ent_10 (fun w _ => awake_c w) ?_))
        | ((with_reducible refine g_call 21 ?_); (first
        | (((refine' Ef_callN rfl rfl ent_21 (fun w hp => hp1 A1 c1 w (rT_rd (hp.rowOf ?q1)) (hp.capOf (A := A1) (m := l.length + 1) (cap := c1) ?q2)) ?_); (case q1 => (repeat (first | exact .head _ | apply List.Mem.tail))); (case q2 => (repeat (first | exact .head _ | apply List.Mem.tail)))); (first | ((fail_if_success have := A1); rintro ⟨A1, c1⟩) | ((fail_if_success have := A2); rintro ⟨A2, c2⟩) | ((fail_if_success have := A3); rintro ⟨A3, c3⟩) | ((fail_if_success have := A4); rintro ⟨A4, c4⟩) | ((fail_if_success have := A5); rintro ⟨A5, c5⟩)))
        | (((refine' Ef_callN rfl rfl ent_21 (fun w hp => hp2 A1 c1 w (rT_rd (hp.rowOf ?q1)) (hp.capOf (A := A1) (m := l.length + 1) (cap := c1) ?q2)) ?_); (case q1 => (repeat (first | exact .head _ | apply List.Mem.tail))); (case q2 => (repeat (first | exact .head _ | apply List.Mem.tail)))); (first | ((fail_if_success have := A1); rintro ⟨A1, c1⟩) | ((fail_if_success have := A2); rintro ⟨A2, c2⟩) | ((fail_if_success have := A3); rintro ⟨A3, c3⟩) | ((fail_if_success have := A4); rintro ⟨A4, c4⟩) | ((fail_if_success have := A5); rintro ⟨A5, c5⟩)))
        | (((refine' Ef_callN rfl rfl ent_21 (fun w hp => hp3 A2 c2 w (hp.rowOf ?q1) (hp.capOf (A := A2) (m := m1.length) (cap := c2) ?q2)) ?_); (case q1 => (repeat (first | exact .head _ | apply List.Mem.tail))); (case q2 => (repeat (first | exact .head _ | apply List.Mem.tail)))); (first | ((fail_if_success have := A1); rintro ⟨A1, c1⟩) | ((fail_if_success have := A2); rintro ⟨A2, c2⟩) | ((fail_if_success have := A3); rintro ⟨A3, c3⟩) | ((fail_if_success have := A4); rintro ⟨A4, c4⟩) | ((fail_if_success have := A5); rintro ⟨A5, c5⟩)))
        | (((refine' Ef_callN rfl rfl ent_21 (fun w hp => hp4 A3 c3 w (hp.rowOf ?q1) (hp.capOf (A := A3) (m := m2.length) (cap := c3) ?q2)) ?_); (case q1 => (repeat (first | exact .head _ | apply List.Mem.tail))); (case q2 => (repeat (first | exact .head _ | apply List.Mem.tail)))); (first | ((fail_if_success have := A1); rintro ⟨A1, c1⟩) | ((fail_if_success have := A2); rintro ⟨A2, c2⟩) | ((fail_if_success have := A3); rintro ⟨A3, c3⟩) | ((fail_if_success have := A4); rintro ⟨A4, c4⟩) | ((fail_if_success have := A5); rintro ⟨A5, c5⟩)))))
        | ((with_reducible refine g_call 32 ?_); (first | ((refine' Ef_callP rfl rfl ent_32 (fun w hp => same_v A4 u.2.2.1.length c4 u.2.2.1 A5 u.2.2.1.length c5 u.2.2.1 w (hp.rowOf ?q1) (hp.rowOf ?q2) rfl rfl ?q3 _ _ _ _ true ?q4) ?_); (case q1 => (repeat (first | exact .head _ | apply List.Mem.tail))); (case q2 => (repeat (first | exact .head _ | apply List.Mem.tail))); (case q3 => omega); (case q4 => exact decide_eq_true ⟨rfl, rfl, rfl⟩))))))
        | refine w1 ?_
        | (refine w2 ?_ ?_ <;> intro hc)
        | (first | ((refine' ⟨_, Yl_remE rfl rfl ?q1 ?q2 ?q3, ?_⟩); (case q1 => omega); (case q2 => decide); (case q3 => assumption)) | refine ⟨_, Yl_addW rfl rfl, ?_⟩)
        | (refine w4 ?_; (intro _))
        | (refine w5 ?_; (first | ((fail_if_success have := A1); intro A1 c1) | ((fail_if_success have := A2); intro A2 c2) | ((fail_if_success have := A3); intro A3 c3) | ((fail_if_success have := A4); intro A4 c4) | ((fail_if_success have := A5); intro A5 c5) | intro _ _))
        | refine w3 ?_ ?_
        | fail_if_success skip)
    exact ret_n [] (res1 rfl rfl) (List.nil_sublist _) ⟨rfl, rfl⟩
  rw [decide_eq_false hbig] at hgr
  have ha := fun A' c' w h (h2 : l.length + 1 ≤ c') => put_c A' l.length c' l w h rfl (by omega) (by omega) k y a x
  have hb := fun A' c' w h (h2 : l.length + 1 ≤ c') => put_c A' l.length c' l w h rfl (by omega) (by omega) k y b z
  by_cases hab : a = b
  · refine Sp.enter (n := 86) Try.func8 rfl rfl rfl (Hp.refl w) ?_
    repeat' (first
        | ((with_reducible refine ie_callf ?_); (first
        | ((with_reducible refine g_call 9 ?_); (first | refine Ef_callP rfl rfl ent_9 (fun w _ => hgr w) ?_))
        | ((with_reducible refine g_call 11 ?_); (first | (((refine' Ef_callN rfl rfl ent_11 (fun w hp => to_c A l.length cap l w (hp.rd hr fun _ => List.not_mem_nil) rfl ?q1 k y) ?_); (case q1 => omega)); rintro ⟨A1, c1⟩)))
        | ((with_reducible refine g_call 10 ?_); (first | refine Ef_callP rfl rfl ent_10 (fun w _ => awake_c w) ?_))
        | ((with_reducible refine g_call 21 ?_); (first
        | (((refine' Ef_callN rfl rfl ent_21 (fun w hp => hp1 A1 c1 w (rT_rd (hp.rowOf ?q1)) (hp.capOf (A := A1) (m := l.length + 1) (cap := c1) ?q2)) ?_); (case q1 => (repeat (first | exact .head _ | apply List.Mem.tail))); (case q2 => (repeat (first | exact .head _ | apply List.Mem.tail)))); (first | ((fail_if_success have := A1); rintro ⟨A1, c1⟩) | ((fail_if_success have := A2); rintro ⟨A2, c2⟩) | ((fail_if_success have := A3); rintro ⟨A3, c3⟩) | ((fail_if_success have := A4); rintro ⟨A4, c4⟩) | ((fail_if_success have := A5); rintro ⟨A5, c5⟩)))
        | (((refine' Ef_callN rfl rfl ent_21 (fun w hp => hp2 A1 c1 w (rT_rd (hp.rowOf ?q1)) (hp.capOf (A := A1) (m := l.length + 1) (cap := c1) ?q2)) ?_); (case q1 => (repeat (first | exact .head _ | apply List.Mem.tail))); (case q2 => (repeat (first | exact .head _ | apply List.Mem.tail)))); (first | ((fail_if_success have := A1); rintro ⟨A1, c1⟩) | ((fail_if_success have := A2); rintro ⟨A2, c2⟩) | ((fail_if_success have := A3); rintro ⟨A3, c3⟩) | ((fail_if_success have := A4); rintro ⟨A4, c4⟩) | ((fail_if_success have := A5); rintro ⟨A5, c5⟩)))
        | (((refine' Ef_callN rfl rfl ent_21 (fun w hp => hp3 A2 c2 w (hp.rowOf ?q1) (hp.capOf (A := A2) (m := m1.length) (cap := c2) ?q2)) ?_); (case q1 => (repeat (first | exact .head _ | apply List.Mem.tail))); (case q2 => (repeat (first | exact .head _ | apply List.Mem.tail)))); (first | ((fail_if_success have := A1); rintro ⟨A1, c1⟩) | ((fail_if_success have := A2); rintro ⟨A2, c2⟩) | ((fail_if_success have := A3); rintro ⟨A3, c3⟩) | ((fail_if_success have := A4); rintro ⟨A4, c4⟩) | ((fail_if_success have := A5); rintro ⟨A5, c5⟩)))
        | (((refine' Ef_callN rfl rfl ent_21 (fun w hp => hp4 A3 c3 w (hp.rowOf ?q1) (hp.capOf (A := A3) (m := m2.length) (cap := c3) ?q2)) ?_); (case q1 => (repeat (first | exact .head _ | apply List.Mem.tail))); (case q2 => (repeat (first | exact .head _ | apply List.Mem.tail)))); (first | ((fail_if_success have := A1); rintro ⟨A1, c1⟩) | ((fail_if_success have := A2); rintro ⟨A2, c2⟩) | ((fail_if_success have := A3); rintro ⟨A3, c3⟩) | ((fail_if_success have := A4); rintro ⟨A4, c4⟩) | ((fail_if_success have := A5); rintro ⟨A5, c5⟩)))))
        | ((with_reducible refine g_call 32 ?_); (first | ((refine' Ef_callP rfl rfl ent_32 (fun w hp => same_v A4 u.2.2.1.length c4 u.2.2.1 A5 u.2.2.1.length c5 u.2.2.1 w (hp.rowOf ?q1) (hp.rowOf ?q2) rfl rfl ?q3 _ _ _ _ true ?q4) ?_); (case q1 => (repeat (first | exact .head _ | apply List.Mem.tail))); (case q2 => (repeat (first | exact .head _ | apply List.Mem.tail))); (case q3 => omega); (case q4 => exact decide_eq_true ⟨rfl, rfl, rfl⟩))))))
        | refine w1 ?_
        | (refine w2 ?_ ?_ <;> intro hc)
        | (first | ((refine' ⟨_, Yl_remE rfl rfl ?q1 ?q2 ?q3, ?_⟩); (case q1 => omega); (case q2 => decide); (case q3 => assumption)) | refine ⟨_, Yl_addW rfl rfl, ?_⟩)
        | (refine w4 ?_; (intro _))
        | (refine w5 ?_; (first | ((fail_if_success have := A1); intro A1 c1) | ((fail_if_success have := A2); intro A2 c2) | ((fail_if_success have := A3); intro A3 c3) | ((fail_if_success have := A4); intro A4 c4) | ((fail_if_success have := A5); intro A5 c5) | intro _ _))
        | refine w3 ?_ ?_
        | fail_if_success skip)
    all_goals exact ret_n [] (res1 rfl rfl) (List.nil_sublist _) ⟨rfl, rfl⟩
  have hcase : (∃ e : Int, ¬ e = 0 ∧ Out 21 (fun A' c' => [.agg (sV k y (A', c') l.length), .string a, .string x]) l 0 0 [] 0 e ∧ ∃ k2 y2 m n e2, Out 21 (fun A' c' => [.agg (sV k y (A', c') l.length), .string b, .string z]) l k2 y2 m n e2) ∨
      (∃ m1, Out 21 (fun A' c' => [.agg (sV k y (A', c') l.length), .string a, .string x]) l k y m1 m1.length 0 ∧ ∃ e : Int, ¬ e = 0 ∧ Out 21 (fun A' c' => [.agg (sV k y (A', c') l.length), .string b, .string z]) l 0 0 [] 0 e) ∨
      ∃ m1 m2, m1.length ≤ 64 ∧ m2.length ≤ 64 ∧ Out 21 (fun A' c' => [.agg (sV k y (A', c') l.length), .string a, .string x]) l k y m1 m1.length 0 ∧ Out 21 (fun A' c' => [.agg (sV k y (A', c') l.length), .string b, .string z]) l k y m2 m2.length 0 ∧ Ks.putR k y m1 b z = Ks.putR k y m2 a x := by
    rcases Ks.put_or k y l a x with ⟨h1, h2, h3, h4⟩ | ⟨e, h1, h4⟩
    · rw [h4] at ha
      rcases Ks.put_or k y l b z with ⟨g1, g2, g3, g4⟩ | ⟨e, g1, g4⟩
      · rw [g4] at hb
        have := Ks.order (k := k) (y := y) (l := l) (x := x) (z := z) hab (by rw [h4]) (by rw [g4])
        rw [h4, g4] at this
        exact .inr (.inr ⟨_, _, Ks.may_len h3, Ks.may_len g3, ha, hb, this⟩)
      · rw [g4] at hb
        exact .inr (.inl ⟨_, ha, e, by omega, hb⟩)
    · rw [h4] at ha
      exact .inl ⟨e, by omega, ha, _, _, _, _, _, hb⟩
  clear ha hb
  rcases hcase with ⟨e, he, hp1, k2, y2, m, n, e2, hp2⟩ | ⟨m1, hp1, e, he, hp2⟩ | ⟨m1, m2, hm1, hm2, hp1, hp2, hu⟩
  · refine Sp.enter (n := 86) Try.func8 rfl rfl rfl (Hp.refl w) ?_
    repeat' (first
        | ((with_reducible refine ie_callf ?_); (first
        | ((with_reducible refine g_call 9 ?_); (first | refine Ef_callP rfl rfl ent_9 (fun w _ => hgr w) ?_))
        | ((with_reducible refine g_call 11 ?_); (first | (((refine' Ef_callN rfl rfl ent_11 (fun w hp => to_c A l.length cap l w (hp.rd hr fun _ => List.not_mem_nil) rfl ?q1 k y) ?_); (case q1 => omega)); rintro ⟨A1, c1⟩)))
        | ((with_reducible refine g_call 10 ?_); (first | refine Ef_callP rfl rfl ent_10 (fun w _ => awake_c w) ?_))
        | ((with_reducible refine g_call 21 ?_); (first
        | (((refine' Ef_callN rfl rfl ent_21 (fun w hp => hp1 A1 c1 w (rT_rd (hp.rowOf ?q1)) (hp.capOf (A := A1) (m := l.length + 1) (cap := c1) ?q2)) ?_); (case q1 => (repeat (first | exact .head _ | apply List.Mem.tail))); (case q2 => (repeat (first | exact .head _ | apply List.Mem.tail)))); (first | ((fail_if_success have := A1); rintro ⟨A1, c1⟩) | ((fail_if_success have := A2); rintro ⟨A2, c2⟩) | ((fail_if_success have := A3); rintro ⟨A3, c3⟩) | ((fail_if_success have := A4); rintro ⟨A4, c4⟩) | ((fail_if_success have := A5); rintro ⟨A5, c5⟩)))
        | (((refine' Ef_callN rfl rfl ent_21 (fun w hp => hp2 A1 c1 w (rT_rd (hp.rowOf ?q1)) (hp.capOf (A := A1) (m := l.length + 1) (cap := c1) ?q2)) ?_); (case q1 => (repeat (first | exact .head _ | apply List.Mem.tail))); (case q2 => (repeat (first | exact .head _ | apply List.Mem.tail)))); (first | ((fail_if_success have := A1); rintro ⟨A1, c1⟩) | ((fail_if_success have := A2); rintro ⟨A2, c2⟩) | ((fail_if_success have := A3); rintro ⟨A3, c3⟩) | ((fail_if_success have := A4); rintro ⟨A4, c4⟩) | ((fail_if_success have := A5); rintro ⟨A5, c5⟩)))
        | (((refine' Ef_callN rfl rfl ent_21 (fun w hp => hp3 A2 c2 w (hp.rowOf ?q1) (hp.capOf (A := A2) (m := m1.length) (cap := c2) ?q2)) ?_); (case q1 => (repeat (first | exact .head _ | apply List.Mem.tail))); (case q2 => (repeat (first | exact .head _ | apply List.Mem.tail)))); (first | ((fail_if_success have := A1); rintro ⟨A1, c1⟩) | ((fail_if_success have := A2); rintro ⟨A2, c2⟩) | ((fail_if_success have := A3); rintro ⟨A3, c3⟩) | ((fail_if_success have := A4); rintro ⟨A4, c4⟩) | ((fail_if_success have := A5); rintro ⟨A5, c5⟩)))
        | (((refine' Ef_callN rfl rfl ent_21 (fun w hp => hp4 A3 c3 w (hp.rowOf ?q1) (hp.capOf (A := A3) (m := m2.length) (cap := c3) ?q2)) ?_); (case q1 => (repeat (first | exact .head _ | apply List.Mem.tail))); (case q2 => (repeat (first | exact .head _ | apply List.Mem.tail)))); (first | ((fail_if_success have := A1); rintro ⟨A1, c1⟩) | ((fail_if_success have := A2); rintro ⟨A2, c2⟩) | ((fail_if_success have := A3); rintro ⟨A3, c3⟩) | ((fail_if_success have := A4); rintro ⟨A4, c4⟩) | ((fail_if_success have := A5); rintro ⟨A5, c5⟩)))))
        | ((with_reducible refine g_call 32 ?_); (first | ((refine' Ef_callP rfl rfl ent_32 (fun w hp => same_v A4 u.2.2.1.length c4 u.2.2.1 A5 u.2.2.1.length c5 u.2.2.1 w (hp.rowOf ?q1) (hp.rowOf ?q2) rfl rfl ?q3 _ _ _ _ true ?q4) ?_); (case q1 => (repeat (first | exact .head _ | apply List.Mem.tail))); (case q2 => (repeat (first | exact .head _ | apply List.Mem.tail))); (case q3 => omega); (case q4 => exact decide_eq_true ⟨rfl, rfl, rfl⟩))))))
        | refine w1 ?_
        | (refine w2 ?_ ?_ <;> intro hc)
        | (first | ((refine' ⟨_, Yl_remE rfl rfl ?q1 ?q2 ?q3, ?_⟩); (case q1 => omega); (case q2 => decide); (case q3 => assumption)) | refine ⟨_, Yl_addW rfl rfl, ?_⟩)
        | (refine w4 ?_; (intro _))
        | (refine w5 ?_; (first | ((fail_if_success have := A1); intro A1 c1) | ((fail_if_success have := A2); intro A2 c2) | ((fail_if_success have := A3); intro A3 c3) | ((fail_if_success have := A4); intro A4 c4) | ((fail_if_success have := A5); intro A5 c5) | intro _ _))
        | refine w3 ?_ ?_
        | fail_if_success skip)
    all_goals exact ret_n [] (res1 rfl rfl) (List.nil_sublist _) ⟨rfl, rfl⟩
  · refine Sp.enter (n := 86) Try.func8 rfl rfl rfl (Hp.refl w) ?_
    repeat' (first
        | ((with_reducible refine ie_callf ?_); (first
        | ((with_reducible refine g_call 9 ?_); (first | refine Ef_callP rfl rfl ent_9 (fun w _ => hgr w) ?_))
        | ((with_reducible refine g_call 11 ?_); (first | (((refine' Ef_callN rfl rfl ent_11 (fun w hp => to_c A l.length cap l w (hp.rd hr fun _ => List.not_mem_nil) rfl ?q1 k y) ?_); (case q1 => omega)); rintro ⟨A1, c1⟩)))
        | ((with_reducible refine g_call 10 ?_); (first | refine Ef_callP rfl rfl ent_10 (fun w _ => awake_c w) ?_))
        | ((with_reducible refine g_call 21 ?_); (first
        | (((refine' Ef_callN rfl rfl ent_21 (fun w hp => hp1 A1 c1 w (rT_rd (hp.rowOf ?q1)) (hp.capOf (A := A1) (m := l.length + 1) (cap := c1) ?q2)) ?_); (case q1 => (repeat (first | exact .head _ | apply List.Mem.tail))); (case q2 => (repeat (first | exact .head _ | apply List.Mem.tail)))); (first | ((fail_if_success have := A1); rintro ⟨A1, c1⟩) | ((fail_if_success have := A2); rintro ⟨A2, c2⟩) | ((fail_if_success have := A3); rintro ⟨A3, c3⟩) | ((fail_if_success have := A4); rintro ⟨A4, c4⟩) | ((fail_if_success have := A5); rintro ⟨A5, c5⟩)))
        | (((refine' Ef_callN rfl rfl ent_21 (fun w hp => hp2 A1 c1 w (rT_rd (hp.rowOf ?q1)) (hp.capOf (A := A1) (m := l.length + 1) (cap := c1) ?q2)) ?_); (case q1 => (repeat (first | exact .head _ | apply List.Mem.tail))); (case q2 => (repeat (first | exact .head _ | apply List.Mem.tail)))); (first | ((fail_if_success have := A1); rintro ⟨A1, c1⟩) | ((fail_if_success have := A2); rintro ⟨A2, c2⟩) | ((fail_if_success have := A3); rintro ⟨A3, c3⟩) | ((fail_if_success have := A4); rintro ⟨A4, c4⟩) | ((fail_if_success have := A5); rintro ⟨A5, c5⟩)))
        | (((refine' Ef_callN rfl rfl ent_21 (fun w hp => hp3 A2 c2 w (hp.rowOf ?q1) (hp.capOf (A := A2) (m := m1.length) (cap := c2) ?q2)) ?_); (case q1 => (repeat (first | exact .head _ | apply List.Mem.tail))); (case q2 => (repeat (first | exact .head _ | apply List.Mem.tail)))); (first | ((fail_if_success have := A1); rintro ⟨A1, c1⟩) | ((fail_if_success have := A2); rintro ⟨A2, c2⟩) | ((fail_if_success have := A3); rintro ⟨A3, c3⟩) | ((fail_if_success have := A4); rintro ⟨A4, c4⟩) | ((fail_if_success have := A5); rintro ⟨A5, c5⟩)))
        | (((refine' Ef_callN rfl rfl ent_21 (fun w hp => hp4 A3 c3 w (hp.rowOf ?q1) (hp.capOf (A := A3) (m := m2.length) (cap := c3) ?q2)) ?_); (case q1 => (repeat (first | exact .head _ | apply List.Mem.tail))); (case q2 => (repeat (first | exact .head _ | apply List.Mem.tail)))); (first | ((fail_if_success have := A1); rintro ⟨A1, c1⟩) | ((fail_if_success have := A2); rintro ⟨A2, c2⟩) | ((fail_if_success have := A3); rintro ⟨A3, c3⟩) | ((fail_if_success have := A4); rintro ⟨A4, c4⟩) | ((fail_if_success have := A5); rintro ⟨A5, c5⟩)))))
        | ((with_reducible refine g_call 32 ?_); (first | ((refine' Ef_callP rfl rfl ent_32 (fun w hp => same_v A4 u.2.2.1.length c4 u.2.2.1 A5 u.2.2.1.length c5 u.2.2.1 w (hp.rowOf ?q1) (hp.rowOf ?q2) rfl rfl ?q3 _ _ _ _ true ?q4) ?_); (case q1 => (repeat (first | exact .head _ | apply List.Mem.tail))); (case q2 => (repeat (first | exact .head _ | apply List.Mem.tail))); (case q3 => omega); (case q4 => exact decide_eq_true ⟨rfl, rfl, rfl⟩))))))
        | refine w1 ?_
        | (refine w2 ?_ ?_ <;> intro hc)
        | (first | ((refine' ⟨_, Yl_remE rfl rfl ?q1 ?q2 ?q3, ?_⟩); (case q1 => omega); (case q2 => decide); (case q3 => assumption)) | refine ⟨_, Yl_addW rfl rfl, ?_⟩)
        | (refine w4 ?_; (intro _))
        | (refine w5 ?_; (first | ((fail_if_success have := A1); intro A1 c1) | ((fail_if_success have := A2); intro A2 c2) | ((fail_if_success have := A3); intro A3 c3) | ((fail_if_success have := A4); intro A4 c4) | ((fail_if_success have := A5); intro A5 c5) | intro _ _))
        | refine w3 ?_ ?_
        | fail_if_success skip)
    all_goals exact ret_n [] (res1 rfl rfl) (List.nil_sublist _) ⟨rfl, rfl⟩
  · have hp3 := fun A' c' w h (h2 : m1.length ≤ c') => put_c A' m1.length c' m1 w h rfl h2 (by omega) k y b z
    have hp4 := fun A' c' w h (h2 : m2.length ≤ c') => put_c A' m2.length c' m2 w h rfl h2 (by omega) k y a x
    have hul := Ks.putR_len k y m2 a x
    rw [hu] at hp3
    generalize Ks.putR k y m2 a x = u at hp3 hp4 hul
    refine Sp.enter (n := 86) Try.func8 rfl rfl rfl (Hp.refl w) ?_
    repeat' (first
        | ((with_reducible refine ie_callf ?_); (first
        | ((with_reducible refine g_call 9 ?_); (first | refine Ef_callP rfl rfl ent_9 (fun w _ => hgr w) ?_))
        | ((with_reducible refine g_call 11 ?_); (first | (((refine' Ef_callN rfl rfl ent_11 (fun w hp => to_c A l.length cap l w (hp.rd hr fun _ => List.not_mem_nil) rfl ?q1 k y) ?_); (case q1 => omega)); rintro ⟨A1, c1⟩)))
        | ((with_reducible refine g_call 10 ?_); (first | refine Ef_callP rfl rfl ent_10 (fun w _ => awake_c w) ?_))
        | ((with_reducible refine g_call 21 ?_); (first
        | (((refine' Ef_callN rfl rfl ent_21 (fun w hp => hp1 A1 c1 w (rT_rd (hp.rowOf ?q1)) (hp.capOf (A := A1) (m := l.length + 1) (cap := c1) ?q2)) ?_); (case q1 => (repeat (first | exact .head _ | apply List.Mem.tail))); (case q2 => (repeat (first | exact .head _ | apply List.Mem.tail)))); (first | ((fail_if_success have := A1); rintro ⟨A1, c1⟩) | ((fail_if_success have := A2); rintro ⟨A2, c2⟩) | ((fail_if_success have := A3); rintro ⟨A3, c3⟩) | ((fail_if_success have := A4); rintro ⟨A4, c4⟩) | ((fail_if_success have := A5); rintro ⟨A5, c5⟩)))
        | (((refine' Ef_callN rfl rfl ent_21 (fun w hp => hp2 A1 c1 w (rT_rd (hp.rowOf ?q1)) (hp.capOf (A := A1) (m := l.length + 1) (cap := c1) ?q2)) ?_); (case q1 => (repeat (first | exact .head _ | apply List.Mem.tail))); (case q2 => (repeat (first | exact .head _ | apply List.Mem.tail)))); (first | ((fail_if_success have := A1); rintro ⟨A1, c1⟩) | ((fail_if_success have := A2); rintro ⟨A2, c2⟩) | ((fail_if_success have := A3); rintro ⟨A3, c3⟩) | ((fail_if_success have := A4); rintro ⟨A4, c4⟩) | ((fail_if_success have := A5); rintro ⟨A5, c5⟩)))
        | (((refine' Ef_callN rfl rfl ent_21 (fun w hp => hp3 A2 c2 w (hp.rowOf ?q1) (hp.capOf (A := A2) (m := m1.length) (cap := c2) ?q2)) ?_); (case q1 => (repeat (first | exact .head _ | apply List.Mem.tail))); (case q2 => (repeat (first | exact .head _ | apply List.Mem.tail)))); (first | ((fail_if_success have := A1); rintro ⟨A1, c1⟩) | ((fail_if_success have := A2); rintro ⟨A2, c2⟩) | ((fail_if_success have := A3); rintro ⟨A3, c3⟩) | ((fail_if_success have := A4); rintro ⟨A4, c4⟩) | ((fail_if_success have := A5); rintro ⟨A5, c5⟩)))
        | (((refine' Ef_callN rfl rfl ent_21 (fun w hp => hp4 A3 c3 w (hp.rowOf ?q1) (hp.capOf (A := A3) (m := m2.length) (cap := c3) ?q2)) ?_); (case q1 => (repeat (first | exact .head _ | apply List.Mem.tail))); (case q2 => (repeat (first | exact .head _ | apply List.Mem.tail)))); (first | ((fail_if_success have := A1); rintro ⟨A1, c1⟩) | ((fail_if_success have := A2); rintro ⟨A2, c2⟩) | ((fail_if_success have := A3); rintro ⟨A3, c3⟩) | ((fail_if_success have := A4); rintro ⟨A4, c4⟩) | ((fail_if_success have := A5); rintro ⟨A5, c5⟩)))))
        | ((with_reducible refine g_call 32 ?_); (first | ((refine' Ef_callP rfl rfl ent_32 (fun w hp => same_v A4 u.2.2.1.length c4 u.2.2.1 A5 u.2.2.1.length c5 u.2.2.1 w (hp.rowOf ?q1) (hp.rowOf ?q2) rfl rfl ?q3 _ _ _ _ true ?q4) ?_); (case q1 => (repeat (first | exact .head _ | apply List.Mem.tail))); (case q2 => (repeat (first | exact .head _ | apply List.Mem.tail))); (case q3 => omega); (case q4 => exact decide_eq_true ⟨rfl, rfl, rfl⟩))))))
        | refine w1 ?_
        | (refine w2 ?_ ?_ <;> intro hc)
        | (first | ((refine' ⟨_, Yl_remE rfl rfl ?q1 ?q2 ?q3, ?_⟩); (case q1 => omega); (case q2 => decide); (case q3 => assumption)) | refine ⟨_, Yl_addW rfl rfl, ?_⟩)
        | (refine w4 ?_; (intro _))
        | (refine w5 ?_; (first | ((fail_if_success have := A1); intro A1 c1) | ((fail_if_success have := A2); intro A2 c2) | ((fail_if_success have := A3); intro A3 c3) | ((fail_if_success have := A4); intro A4 c4) | ((fail_if_success have := A5); intro A5 c5) | intro _ _))
        | refine w3 ?_ ?_
        | fail_if_success skip)
    all_goals exact ret_n [] (res1 rfl rfl) (List.nil_sublist _) ⟨rfl, rfl⟩
end
end Go.Proofs.Ytimmabejfigleaa
