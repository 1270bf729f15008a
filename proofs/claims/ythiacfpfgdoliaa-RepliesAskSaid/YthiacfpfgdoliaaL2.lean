/- Law: what a client is told again: what a call comes to. -/
import Derived.Test.YthiacfpfgdoliaaT11
namespace Go.Proofs.Ythiacfpfgdoliaa
open Go.RowKit
set_option maxRecDepth 20000

theorem ask_in {w : World} {l : List Me} (hin : Ins w l) (t i : Int) : In w (Rl.askM l t i).1.1 (Rl.askM l t i).1.2 := by
  unfold Rl.askM
  split
  · cases h : Rl.find l t with
    | none => exact Rd.nil
    | some x =>
      dsimp only
      split
      · exact Rd.nil
      · split
        · exact hin x (Rl.find_mem h).1
        · exact Rd.nil
  · exact Rd.nil
theorem ask_keys {l : List Me} {k : Nat} (hk : ∀ x ∈ l, x.1.r.keys.length ≤ k) (t i : Int) : (Rl.askM l t i).1.1.keys.length ≤ k := by
  unfold Rl.askM
  split
  · cases h : Rl.find l t with
    | none => exact Nat.zero_le _
    | some x =>
      dsimp only
      split
      · exact Nat.zero_le _
      · split
        · exact hk x (Rl.find_mem h).1
        · exact Nat.zero_le _
  · exact Nat.zero_le _

section
variable (A : Option Addr) (c : Nat) (l : List Me) (w : World) (ha : Rd w A l.length 77 (l.flatMap mE)) (hia : Ins w l) (hle : l.length ≤ 140737488355328) (hlk : ∀ x ∈ l, x.1.r.keys.length ≤ 140737488355328)
include ha hia hle hlk
set_option maxHeartbeats 8000000 in
theorem ask_law (t i : Int) : Sp Try.prog 4 [.slice A l.length c, .int .i64 t, .int .i64 i] w [] fun v N => v = .bool true ∧ N = [] := by
  have hg1 := fun w h => great_v A c l w h (by omega) hlk _ rfl
  cases h1 : Rl.big l
  · rw [h1] at hg1
    obtain ⟨b1, b2⟩ := Rl.big_no h1
    have hl2 : (l.map (·.1)).length ≤ 200 := by rw [List.length_map]; omega
    have hl4 : (l.map (·.1)).length ≤ 400 := by omega
    have hk4 := keys_la b2
    have to1 := fun w h hi => to_c A l.length c l w h rfl (by omega) hi b2
    have hra := fun w h => rask_c A l.length c l t w h rfl (by omega) i
    have hfi := fun w h => rfind_c A l.length c l t w h rfl (by omega)
    have hrm := fun w h => rmay_v A l.length c l w h rfl (by omega) _ rfl
    have hgi := ask_in hia t i
    have hr4 := ask_keys b2 t i
    have hmap := Rl.ask_map l t i
    have hof := Rl.ofM_eq l t
    unfold Rl.ofM at hof
    generalize (Rl.find l t).getD Rl.zm = x, (Rl.find l t).isSome = xs at hfi hof
    generalize Rl.askM l t i = am at hra hgi hr4 hmap
    obtain ⟨⟨r0, g1⟩, k0, e0⟩ := am
    dsimp only at hra hgi hr4 hmap
    have hsk := fun A1 c1 m1 w hm1 h1 h2 => ask_q A1 c1 m1 w hm1 h1 hl2 h2 hk4 t i _ hmap.symm
    dsimp only at hsk
    generalize hmy : Rl.may (l.map (·.1)) = my at hrm
    have hof := hof.symm
    have hr4 : r0.keys.length ≤ 9223372036854775806 := by omega
    clear b1 b2 h1 hmap
    cases my <;> cases k0
    all_goals
      refine Sp.enter (n := 93) Try.func4 rfl rfl rfl (Hp.refl w) ?_
      repeat' (first
          | ((with_reducible refine ie_store ?_); (first | ((refine' Ef_storeA' rfl rfl ?q1 (rE_one _ _) ?q2 ?q3 ?_); (case q1 => exact siz_of rfl); (case q2 => (first | exact at0 | exact at1 | exact at2 | exact at3 | exact at4 | exact at5 | exact at6)); (case q3 => rfl)) | ((refine' Ef_storeA' rfl rfl ?q1 (mE_one _) ?q2 ?q3 ?_); (case q1 => exact siz_of rfl); (case q2 => (first | exact at0 | exact at1 | exact at2 | exact at3 | exact at4 | exact at5 | exact at6)); (case q3 => rfl)) | ((refine' Ef_store_row1 rfl rfl ?q1 ?q2 ?q3 ?q4 (kE_set zs j _) ?_); (case q1 => rfl); (case q2 => exact siz_of rfl); (case q3 => (first | exact at0 | exact at1 | exact at2 | exact at3 | exact at4 | exact at5 | exact at6)); (case q4 => omega))))
          | ((with_reducible refine ie_callf ?_); (first
          | ((with_reducible refine g_call 8 ?_); (first | refine Ef_callP rfl rfl ent_8 (fun w hp => hg1 w (hp.rd ha fun _ => List.not_mem_nil)) ?_))
          | ((with_reducible refine g_call 10 ?_); (first | (refine Ef_callNX rfl rfl ent_10 (fun w hp => to1 w (hp.rd ha fun _ => List.not_mem_nil) (hp.ins_old hia)) ?_; rintro ⟨⟨A1, c1⟩, m1⟩ hm1)))
          | ((with_reducible refine g_call 15 ?_); (first | (((refine' Ef_callN rfl rfl ent_15 (fun w hp => hsk A1 c1 m1 w hm1 (hp.rowOf ?q1) (hp.ins_bag ?q2)) ?_); (case q1 => (repeat (first | exact .head _ | apply List.Mem.tail))); (case q2 => (repeat (first | exact .head _ | apply List.Mem.tail)))); rintro ⟨A5, c5⟩)))
          | ((with_reducible refine g_call 16 ?_); (first | refine Ef_callP rfl rfl ent_16 (fun w hp => hra w (hp.rd ha fun _ => List.not_mem_nil)) ?_))
          | ((with_reducible refine g_call 13 ?_); (first | ((refine' Ef_callP rfl rfl ent_13 (fun w hp => rsreply_v r0 r0 (A5, c5) g1 w (hp.in_row ?q1) (hp.in_old hgi) hr4 _ (Rl.eqR_self _)) ?_); (case q1 => (repeat (first | exact .head _ | apply List.Mem.tail))))))
          | ((with_reducible refine g_call 17 ?_); (first | refine Ef_callP rfl rfl ent_17 (fun w hp => hfi w (hp.rd ha fun _ => List.not_mem_nil)) ?_))
          | ((with_reducible refine g_call 18 ?_); (first | ((refine' Ef_callP rfl rfl ent_18 (fun w hp => of_q A1 c1 m1 w hm1 (hp.rowOf ?q1) hl2 t _ hof) ?_); (case q1 => (repeat (first | exact .head _ | apply List.Mem.tail))))))
          | ((with_reducible refine g_call 19 ?_); (first | ((refine' Ef_callP rfl rfl ent_19 (fun w hp => may_q A1 c1 m1 w hm1 (hp.rowOf ?q1) hl2 _ hmy) ?_); (case q1 => (repeat (first | exact .head _ | apply List.Mem.tail))))))
          | ((with_reducible refine g_call 20 ?_); (first | refine Ef_callP rfl rfl ent_20 (fun w hp => hrm w (hp.rd ha fun _ => List.not_mem_nil)) ?_))
          | ((with_reducible refine g_call 21 ?_); (first | (((refine' Ef_callN rfl rfl ent_21 (fun w hp => from_q A1 c1 m1 w hm1 (hp.rowOf ?q1) hl2) ?_); (case q1 => (repeat (first | exact .head _ | apply List.Mem.tail)))); rintro ⟨A6, c6⟩)))
          | ((with_reducible refine g_call 11 ?_); (first | ((refine' Ef_callP rfl rfl ent_11 (fun w hp => rsame_q A6 c6 m1 A c l w hm1 rfl (hp.rowOf ?q1) (hp.rd ha fun _ => List.not_mem_nil) (hp.ins_bag ?q2) (hp.ins_old hia) hl4 hk4 _ (Rl.same_self _)) ?_); (case q1 => (repeat (first | exact .head _ | apply List.Mem.tail))); (case q2 => (repeat (first | exact .head _ | apply List.Mem.tail))))))
          | ((with_reducible refine g_call 14 ?_); (first | refine Ef_callP rfl rfl ent_14 (fun w _ => awake_v w) ?_))))
          | ((with_reducible refine g_draw ?_); (first | (((with_reducible refine' T.drawM (id := 12) [(0, false), (1, false), (2, true), (3, true), (5, true), (6, true), (4, false), (7, false), (8, false), (9, false), (10, true), (12, true), (11, false), (13, false), (14, false), (15, false), (16, false), (17, true), (19, true), (18, false), (20, false), (21, false), (22, false), (23, false), (24, false), (25, false)] mixd ?q1 ?_); (case q1 => kernel_rfl)))))
          | refine w1 ?_
          | (refine w2 ?_ ?_ <;> intro hc)
          | (refine w4 ?_; (first | ((fail_if_success have := b1); intro b1) | ((fail_if_success have := b2); intro b2) | intro _))
          | (refine w5 ?_; (first | ((fail_if_success have := A1); intro A1 c1) | ((fail_if_success have := A2); intro A2 c2) | ((fail_if_success have := A3); intro A3 c3) | ((fail_if_success have := A4); intro A4 c4) | ((fail_if_success have := A5); intro A5 c5) | ((fail_if_success have := A6); intro A6 c6) | intro _ _))
          | refine w3 ?_ ?_
          | fail_if_success skip)
      refine T.loop (α := Nat × List ByteArray) (fun z => [(0, .slice A l.length c), (1, .int .i64 t), (7, .slice A1 m1.length c1), (8, .pointer (some ⟨b1, 0, none⟩)), (14, .bool true), (15, .int .i64 (z.1 : Int))]) (fun z => [.blk b1 (.cells (rE r0 (A5, c5)).toArray 30 (0, 0)), .row 9 1 (.slice A5 r0.keys.length c5) r0.keys.length (z.2.flatMap kE), rM m1 (A1, c1), bag (m1.map mA)]) (fun z => z.1 ≤ r0.keys.length ∧ z.2.length = r0.keys.length) (fun z => r0.keys.length - z.1) (0, r0.keys) ?_ ?_ ?_ ?_
      · (repeat (first | exact Sub.nil | refine Sub.cons rfl ?_))
      · (repeat (first | exact List.nil_sublist _ | refine List.Sublist.cons_cons _ ?_ | refine List.Sublist.cons _ ?_))
      · exact ⟨Nat.zero_le _, rfl⟩
      · rintro ⟨j, zs⟩ ⟨hj, hzs⟩
        dsimp only at hj hzs ⊢
        by_cases hlt : j < r0.keys.length
        · repeat' (first
            | ((with_reducible refine ie_store ?_); (first | ((refine' Ef_storeA' rfl rfl ?q1 (rE_one _ _) ?q2 ?q3 ?_); (case q1 => exact siz_of rfl); (case q2 => (first | exact at0 | exact at1 | exact at2 | exact at3 | exact at4 | exact at5 | exact at6)); (case q3 => rfl)) | ((refine' Ef_storeA' rfl rfl ?q1 (mE_one _) ?q2 ?q3 ?_); (case q1 => exact siz_of rfl); (case q2 => (first | exact at0 | exact at1 | exact at2 | exact at3 | exact at4 | exact at5 | exact at6)); (case q3 => rfl)) | ((refine' Ef_store_row1 rfl rfl ?q1 ?q2 ?q3 ?q4 (kE_set zs j _) ?_); (case q1 => rfl); (case q2 => exact siz_of rfl); (case q3 => (first | exact at0 | exact at1 | exact at2 | exact at3 | exact at4 | exact at5 | exact at6)); (case q4 => omega))))
            | ((with_reducible refine ie_callf ?_); (first
            | ((with_reducible refine g_call 8 ?_); (first | refine Ef_callP rfl rfl ent_8 (fun w hp => hg1 w (hp.rd ha fun _ => List.not_mem_nil)) ?_))
            | ((with_reducible refine g_call 10 ?_); (first | (refine Ef_callNX rfl rfl ent_10 (fun w hp => to1 w (hp.rd ha fun _ => List.not_mem_nil) (hp.ins_old hia)) ?_; rintro ⟨⟨A1, c1⟩, m1⟩ hm1)))
            | ((with_reducible refine g_call 15 ?_); (first | (((refine' Ef_callN rfl rfl ent_15 (fun w hp => hsk A1 c1 m1 w hm1 (hp.rowOf ?q1) (hp.ins_bag ?q2)) ?_); (case q1 => (repeat (first | exact .head _ | apply List.Mem.tail))); (case q2 => (repeat (first | exact .head _ | apply List.Mem.tail)))); rintro ⟨A5, c5⟩)))
            | ((with_reducible refine g_call 16 ?_); (first | refine Ef_callP rfl rfl ent_16 (fun w hp => hra w (hp.rd ha fun _ => List.not_mem_nil)) ?_))
            | ((with_reducible refine g_call 13 ?_); (first | ((refine' Ef_callP rfl rfl ent_13 (fun w hp => rsreply_v r0 r0 (A5, c5) g1 w (hp.in_row ?q1) (hp.in_old hgi) hr4 _ (Rl.eqR_self _)) ?_); (case q1 => (repeat (first | exact .head _ | apply List.Mem.tail))))))
            | ((with_reducible refine g_call 17 ?_); (first | refine Ef_callP rfl rfl ent_17 (fun w hp => hfi w (hp.rd ha fun _ => List.not_mem_nil)) ?_))
            | ((with_reducible refine g_call 18 ?_); (first | ((refine' Ef_callP rfl rfl ent_18 (fun w hp => of_q A1 c1 m1 w hm1 (hp.rowOf ?q1) hl2 t _ hof) ?_); (case q1 => (repeat (first | exact .head _ | apply List.Mem.tail))))))
            | ((with_reducible refine g_call 19 ?_); (first | ((refine' Ef_callP rfl rfl ent_19 (fun w hp => may_q A1 c1 m1 w hm1 (hp.rowOf ?q1) hl2 _ hmy) ?_); (case q1 => (repeat (first | exact .head _ | apply List.Mem.tail))))))
            | ((with_reducible refine g_call 20 ?_); (first | refine Ef_callP rfl rfl ent_20 (fun w hp => hrm w (hp.rd ha fun _ => List.not_mem_nil)) ?_))
            | ((with_reducible refine g_call 21 ?_); (first | (((refine' Ef_callN rfl rfl ent_21 (fun w hp => from_q A1 c1 m1 w hm1 (hp.rowOf ?q1) hl2) ?_); (case q1 => (repeat (first | exact .head _ | apply List.Mem.tail)))); rintro ⟨A6, c6⟩)))
            | ((with_reducible refine g_call 11 ?_); (first | ((refine' Ef_callP rfl rfl ent_11 (fun w hp => rsame_q A6 c6 m1 A c l w hm1 rfl (hp.rowOf ?q1) (hp.rd ha fun _ => List.not_mem_nil) (hp.ins_bag ?q2) (hp.ins_old hia) hl4 hk4 _ (Rl.same_self _)) ?_); (case q1 => (repeat (first | exact .head _ | apply List.Mem.tail))); (case q2 => (repeat (first | exact .head _ | apply List.Mem.tail))))))
            | ((with_reducible refine g_call 14 ?_); (first | refine Ef_callP rfl rfl ent_14 (fun w _ => awake_v w) ?_))))
            | ((with_reducible refine g_draw ?_); (first | (((with_reducible refine' T.drawM (id := 12) [(0, false), (1, false), (2, true), (3, true), (5, true), (6, true), (4, false), (7, false), (8, false), (9, false), (10, true), (12, true), (11, false), (13, false), (14, false), (15, false), (16, false), (17, true), (19, true), (18, false), (20, false), (21, false), (22, false), (23, false), (24, false), (25, false)] mixd ?q1 ?_); (case q1 => kernel_rfl)))))
            | refine w1 ?_
            | (refine w2 ?_ ?_ <;> intro hc)
            | (refine w4 ?_; (first | ((fail_if_success have := b1); intro b1) | ((fail_if_success have := b2); intro b2) | intro _))
            | (refine w5 ?_; (first | ((fail_if_success have := A1); intro A1 c1) | ((fail_if_success have := A2); intro A2 c2) | ((fail_if_success have := A3); intro A3 c3) | ((fail_if_success have := A4); intro A4 c4) | ((fail_if_success have := A5); intro A5 c5) | ((fail_if_success have := A6); intro A6 c6) | intro _ _))
            | refine w3 ?_ ?_
            | fail_if_success skip)
          refine loopQ_n (j + 1, zs.set j _) ?_ (List.Sublist.refl _) ⟨show j + 1 ≤ _ by omega, by rw [List.length_set]; exact hzs⟩ (show r0.keys.length - (j + 1) < r0.keys.length - j by omega)
          · (repeat (first | exact Sub.nil | refine Sub.cons rfl ?_))
        · repeat' (first
            | ((with_reducible refine ie_store ?_); (first | ((refine' Ef_storeA' rfl rfl ?q1 (rE_one _ _) ?q2 ?q3 ?_); (case q1 => exact siz_of rfl); (case q2 => (first | exact at0 | exact at1 | exact at2 | exact at3 | exact at4 | exact at5 | exact at6)); (case q3 => rfl)) | ((refine' Ef_storeA' rfl rfl ?q1 (mE_one _) ?q2 ?q3 ?_); (case q1 => exact siz_of rfl); (case q2 => (first | exact at0 | exact at1 | exact at2 | exact at3 | exact at4 | exact at5 | exact at6)); (case q3 => rfl)) | ((refine' Ef_store_row1 rfl rfl ?q1 ?q2 ?q3 ?q4 (kE_set zs j _) ?_); (case q1 => rfl); (case q2 => exact siz_of rfl); (case q3 => (first | exact at0 | exact at1 | exact at2 | exact at3 | exact at4 | exact at5 | exact at6)); (case q4 => omega))))
            | ((with_reducible refine ie_callf ?_); (first
            | ((with_reducible refine g_call 8 ?_); (first | refine Ef_callP rfl rfl ent_8 (fun w hp => hg1 w (hp.rd ha fun _ => List.not_mem_nil)) ?_))
            | ((with_reducible refine g_call 10 ?_); (first | (refine Ef_callNX rfl rfl ent_10 (fun w hp => to1 w (hp.rd ha fun _ => List.not_mem_nil) (hp.ins_old hia)) ?_; rintro ⟨⟨A1, c1⟩, m1⟩ hm1)))
            | ((with_reducible refine g_call 15 ?_); (first | (((refine' Ef_callN rfl rfl ent_15 (fun w hp => hsk A1 c1 m1 w hm1 (hp.rowOf ?q1) (hp.ins_bag ?q2)) ?_); (case q1 => (repeat (first | exact .head _ | apply List.Mem.tail))); (case q2 => (repeat (first | exact .head _ | apply List.Mem.tail)))); rintro ⟨A5, c5⟩)))
            | ((with_reducible refine g_call 16 ?_); (first | refine Ef_callP rfl rfl ent_16 (fun w hp => hra w (hp.rd ha fun _ => List.not_mem_nil)) ?_))
            | ((with_reducible refine g_call 13 ?_); (first | ((refine' Ef_callP rfl rfl ent_13 (fun w hp => rsreply_v r0 r0 (A5, c5) g1 w (hp.in_row ?q1) (hp.in_old hgi) hr4 _ (Rl.eqR_self _)) ?_); (case q1 => (repeat (first | exact .head _ | apply List.Mem.tail))))))
            | ((with_reducible refine g_call 17 ?_); (first | refine Ef_callP rfl rfl ent_17 (fun w hp => hfi w (hp.rd ha fun _ => List.not_mem_nil)) ?_))
            | ((with_reducible refine g_call 18 ?_); (first | ((refine' Ef_callP rfl rfl ent_18 (fun w hp => of_q A1 c1 m1 w hm1 (hp.rowOf ?q1) hl2 t _ hof) ?_); (case q1 => (repeat (first | exact .head _ | apply List.Mem.tail))))))
            | ((with_reducible refine g_call 19 ?_); (first | ((refine' Ef_callP rfl rfl ent_19 (fun w hp => may_q A1 c1 m1 w hm1 (hp.rowOf ?q1) hl2 _ hmy) ?_); (case q1 => (repeat (first | exact .head _ | apply List.Mem.tail))))))
            | ((with_reducible refine g_call 20 ?_); (first | refine Ef_callP rfl rfl ent_20 (fun w hp => hrm w (hp.rd ha fun _ => List.not_mem_nil)) ?_))
            | ((with_reducible refine g_call 21 ?_); (first | (((refine' Ef_callN rfl rfl ent_21 (fun w hp => from_q A1 c1 m1 w hm1 (hp.rowOf ?q1) hl2) ?_); (case q1 => (repeat (first | exact .head _ | apply List.Mem.tail)))); rintro ⟨A6, c6⟩)))
            | ((with_reducible refine g_call 11 ?_); (first | ((refine' Ef_callP rfl rfl ent_11 (fun w hp => rsame_q A6 c6 m1 A c l w hm1 rfl (hp.rowOf ?q1) (hp.rd ha fun _ => List.not_mem_nil) (hp.ins_bag ?q2) (hp.ins_old hia) hl4 hk4 _ (Rl.same_self _)) ?_); (case q1 => (repeat (first | exact .head _ | apply List.Mem.tail))); (case q2 => (repeat (first | exact .head _ | apply List.Mem.tail))))))
            | ((with_reducible refine g_call 14 ?_); (first | refine Ef_callP rfl rfl ent_14 (fun w _ => awake_v w) ?_))))
            | ((with_reducible refine g_draw ?_); (first | (((with_reducible refine' T.drawM (id := 12) [(0, false), (1, false), (2, true), (3, true), (5, true), (6, true), (4, false), (7, false), (8, false), (9, false), (10, true), (12, true), (11, false), (13, false), (14, false), (15, false), (16, false), (17, true), (19, true), (18, false), (20, false), (21, false), (22, false), (23, false), (24, false), (25, false)] mixd ?q1 ?_); (case q1 => kernel_rfl)))))
            | refine w1 ?_
            | (refine w2 ?_ ?_ <;> intro hc)
            | (refine w4 ?_; (first | ((fail_if_success have := b1); intro b1) | ((fail_if_success have := b2); intro b2) | intro _))
            | (refine w5 ?_; (first | ((fail_if_success have := A1); intro A1 c1) | ((fail_if_success have := A2); intro A2 c2) | ((fail_if_success have := A3); intro A3 c3) | ((fail_if_success have := A4); intro A4 c4) | ((fail_if_success have := A5); intro A5 c5) | ((fail_if_success have := A6); intro A6 c6) | intro _ _))
            | refine w3 ?_ ?_
            | fail_if_success skip)
          exact ret_n [] (res1 rfl rfl) (List.nil_sublist _) ⟨rfl, rfl⟩
  · rw [h1] at hg1
    refine Sp.enter (n := 93) Try.func4 rfl rfl rfl (Hp.refl w) ?_
    repeat' (first
        | ((with_reducible refine ie_store ?_); (first | ((refine' Ef_storeA' rfl rfl ?q1 (rE_one _ _) ?q2 ?q3 ?_); (case q1 => exact siz_of rfl); (case q2 => (first | exact at0 | exact at1 | exact at2 | exact at3 | exact at4 | exact at5 | exact at6)); (case q3 => rfl)) | ((refine' Ef_storeA' rfl rfl ?q1 (mE_one _) ?q2 ?q3 ?_); (case q1 => exact siz_of rfl); (case q2 => (first | exact at0 | exact at1 | exact at2 | exact at3 | exact at4 | exact at5 | exact at6)); (case q3 => rfl)) | ((refine' Ef_store_row1 rfl rfl ?q1 ?q2 ?q3 ?q4 (kE_set zs j _) ?_); (case q1 => rfl); (case q2 => exact siz_of rfl); (case q3 => (first | exact at0 | exact at1 | exact at2 | exact at3 | exact at4 | exact at5 | exact at6)); (case q4 => omega))))
        | ((with_reducible refine ie_callf ?_); (first
        | ((with_reducible refine g_call 8 ?_); (first | refine Ef_callP rfl rfl ent_8 (fun w hp => hg1 w (hp.rd ha fun _ => List.not_mem_nil)) ?_))
        | ((with_reducible refine g_call 10 ?_); (first | (refine Ef_callNX rfl rfl ent_10 (fun w hp => to1 w (hp.rd ha fun _ => List.not_mem_nil) (hp.ins_old hia)) ?_; rintro ⟨⟨A1, c1⟩, m1⟩ hm1)))
        | ((with_reducible refine g_call 15 ?_); (first | (((refine' Ef_callN rfl rfl ent_15 (fun w hp => hsk A1 c1 m1 w hm1 (hp.rowOf ?q1) (hp.ins_bag ?q2)) ?_); (case q1 => (repeat (first | exact .head _ | apply List.Mem.tail))); (case q2 => (repeat (first | exact .head _ | apply List.Mem.tail)))); rintro ⟨A5, c5⟩)))
        | ((with_reducible refine g_call 16 ?_); (first | refine Ef_callP rfl rfl ent_16 (fun w hp => hra w (hp.rd ha fun _ => List.not_mem_nil)) ?_))
        | ((with_reducible refine g_call 13 ?_); (first | ((refine' Ef_callP rfl rfl ent_13 (fun w hp => rsreply_v r0 r0 (A5, c5) g1 w (hp.in_row ?q1) (hp.in_old hgi) hr4 _ (Rl.eqR_self _)) ?_); (case q1 => (repeat (first | exact .head _ | apply List.Mem.tail))))))
        | ((with_reducible refine g_call 17 ?_); (first | refine Ef_callP rfl rfl ent_17 (fun w hp => hfi w (hp.rd ha fun _ => List.not_mem_nil)) ?_))
        | ((with_reducible refine g_call 18 ?_); (first | ((refine' Ef_callP rfl rfl ent_18 (fun w hp => of_q A1 c1 m1 w hm1 (hp.rowOf ?q1) hl2 t _ hof) ?_); (case q1 => (repeat (first | exact .head _ | apply List.Mem.tail))))))
        | ((with_reducible refine g_call 19 ?_); (first | ((refine' Ef_callP rfl rfl ent_19 (fun w hp => may_q A1 c1 m1 w hm1 (hp.rowOf ?q1) hl2 _ hmy) ?_); (case q1 => (repeat (first | exact .head _ | apply List.Mem.tail))))))
        | ((with_reducible refine g_call 20 ?_); (first | refine Ef_callP rfl rfl ent_20 (fun w hp => hrm w (hp.rd ha fun _ => List.not_mem_nil)) ?_))
        | ((with_reducible refine g_call 21 ?_); (first | (((refine' Ef_callN rfl rfl ent_21 (fun w hp => from_q A1 c1 m1 w hm1 (hp.rowOf ?q1) hl2) ?_); (case q1 => (repeat (first | exact .head _ | apply List.Mem.tail)))); rintro ⟨A6, c6⟩)))
        | ((with_reducible refine g_call 11 ?_); (first | ((refine' Ef_callP rfl rfl ent_11 (fun w hp => rsame_q A6 c6 m1 A c l w hm1 rfl (hp.rowOf ?q1) (hp.rd ha fun _ => List.not_mem_nil) (hp.ins_bag ?q2) (hp.ins_old hia) hl4 hk4 _ (Rl.same_self _)) ?_); (case q1 => (repeat (first | exact .head _ | apply List.Mem.tail))); (case q2 => (repeat (first | exact .head _ | apply List.Mem.tail))))))
        | ((with_reducible refine g_call 14 ?_); (first | refine Ef_callP rfl rfl ent_14 (fun w _ => awake_v w) ?_))))
        | ((with_reducible refine g_draw ?_); (first | (((with_reducible refine' T.drawM (id := 12) [(0, false), (1, false), (2, true), (3, true), (5, true), (6, true), (4, false), (7, false), (8, false), (9, false), (10, true), (12, true), (11, false), (13, false), (14, false), (15, false), (16, false), (17, true), (19, true), (18, false), (20, false), (21, false), (22, false), (23, false), (24, false), (25, false)] mixd ?q1 ?_); (case q1 => kernel_rfl)))))
        | refine w1 ?_
        | (refine w2 ?_ ?_ <;> intro hc)
        | (refine w4 ?_; (first | ((fail_if_success have := b1); intro b1) | ((fail_if_success have := b2); intro b2) | intro _))
        | (refine w5 ?_; (first | ((fail_if_success have := A1); intro A1 c1) | ((fail_if_success have := A2); intro A2 c2) | ((fail_if_success have := A3); intro A3 c3) | ((fail_if_success have := A4); intro A4 c4) | ((fail_if_success have := A5); intro A5 c5) | ((fail_if_success have := A6); intro A6 c6) | intro _ _))
        | refine w3 ?_ ?_
        | fail_if_success skip)
    exact ret_n [] (res1 rfl rfl) (List.nil_sublist _) ⟨rfl, rfl⟩
end
end Go.Proofs.Ythiacfpfgdoliaa
