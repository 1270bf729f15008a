/- Law: what a note makes of a table: what a call comes to. -/
import Derived.Test.YthiacfpfgdoliaaT11
namespace Go.Proofs.Ythiacfpfgdoliaa
open Go.RowKit
set_option maxRecDepth 20000

theorem noteM_in {w : World} {l : List Me} {t i : Int} {r : Rp} {h : Hd} (hin : Ins w l) (hr : In w r h) : Ins w (Rl.noteM l t i r h).1 := fun x hx => by
  unfold Rl.noteM at hx
  split at hx
  · split at hx
    · cases hx
    · rcases Rl.put_mem Rl.fm hx with rfl | hx
      · exact hr
      · exact hin x hx
  · cases hx
theorem note_keys {p : List La} {t i : Int} {r : Rp} {k : Nat} (hp : ∀ x ∈ p, x.r.keys.length ≤ k) (hr : r.keys.length ≤ k) : ∀ x ∈ (Rl.note p t i r).1, x.r.keys.length ≤ k := fun x hx => by
  unfold Rl.note at hx
  split at hx
  · split at hx
    · cases hx
    · rcases Rl.put_mem Rl.fc hx with rfl | hx
      · exact hr
      · exact hp x hx
  · cases hx
theorem note_len (p : List La) (t i : Int) (r : Rp) : (Rl.note p t i r).1.length ≤ 2 * p.length + 1 := by
  unfold Rl.note
  split
  · split
    · exact Nat.zero_le _
    · have h1 : (Rl.lo Rl.fc p t).length ≤ p.length := List.length_filter_le _ _
      have h2 : (Rl.up Rl.fc p t).length ≤ p.length := List.length_filter_le _ _
      show (Rl.lo Rl.fc p t ++ _ :: Rl.up Rl.fc p t).length ≤ _
      rw [List.length_append, List.length_cons]; omega
  · exact Nat.zero_le _
/-- Where the keys lie, and how many they are. -/
def fo (x : Me) : Hd × Nat := (x.2, x.1.r.keys.length)
theorem fo_at {ms m3 : List Me} (h : ms.map fo = m3.map fo) {j : Nat} {x : Me} (hx : m3[j]? = some x) : ∃ y, ms[j]? = some y ∧ fo y = fo x := by
  have h1 : (ms.map fo)[j]? = some (fo x) := by rw [h, List.getElem?_map, hx]; rfl
  rw [List.getElem?_map] at h1
  cases hy : ms[j]? with
  | none => rw [hy] at h1; cases h1
  | some y => rw [hy] at h1; exact ⟨y, rfl, Option.some.inj h1⟩
theorem cut_at {α : Type} {l : List α} {j : Nat} {x : α} (h : l[j]? = some x) : l = l.take j ++ x :: l.drop (j + 1) := by
  obtain ⟨hj, rfl⟩ := List.getElem?_eq_some_iff.1 h
  rw [← List.drop_eq_getElem_cons hj, List.take_append_drop]

section
variable (A : Option Addr) (c : Nat) (l : List Me) (w : World) (ha : Rd w A l.length 77 (l.flatMap mE)) (hia : Ins w l) (hle : l.length ≤ 140737488355328) (hlk : ∀ x ∈ l, x.1.r.keys.length ≤ 140737488355328) (r : Rp) (h : Hd) (hr : In w r h) (hkr : r.keys.length ≤ 140737488355328)
include ha hia hle hlk hr hkr
set_option maxHeartbeats 8000000 in
theorem note_law (t i : Int) : Sp Try.prog 5 [.slice A l.length c, .int .i64 t, .int .i64 i, .agg (rE r h).toArray] w [] fun v N => v = .bool true ∧ N = [] := by
  have hg1 := fun w h => great_v A c l w h (by omega) hlk _ rfl
  cases h1 : Rl.big l
  · rw [h1] at hg1
    by_cases hr1 : 100 < r.keys.length
    · refine Sp.enter (n := 103) Try.func5 rfl rfl rfl (Hp.refl w) ?_
      repeat' (first
          | ((with_reducible refine ie_store ?_); (first | ((refine' Ef_storeA' rfl rfl ?q1 (rE_one _ _) ?q2 ?q3 ?_); (case q1 => exact siz_of rfl); (case q2 => (first | exact at0 | exact at1 | exact at2 | exact at3 | exact at4 | exact at5 | exact at6)); (case q3 => rfl)) | ((refine' Ef_storeC (C' := (rE r (A2, c2)).toArray) rfl rfl ?q1 ?q2 ?q3 ?q4 ?q5 ?_); (case q1 => rfl); (case q2 => exact siz_of rfl); (case q3 => (first | exact at0 | exact at1 | exact at2 | exact at3 | exact at4 | exact at5 | exact at6)); (case q4 => exact Nat.le_of_ble_eq_true rfl); (case q5 => rfl)) | ((refine' Ef_store_row1 rfl rfl ?q1 ?q2 ?q3 ?q4 (kE_set zs k _) ?_); (case q1 => rfl); (case q2 => exact siz_of rfl); (case q3 => (first | exact at0 | exact at1 | exact at2 | exact at3 | exact at4 | exact at5 | exact at6)); (case q4 => omega))))
          | ((with_reducible refine ie_callf ?_); (first
          | ((with_reducible refine g_call 8 ?_); (first | refine Ef_callP rfl rfl ent_8 (fun w hp => hg1 w (hp.rd ha fun _ => List.not_mem_nil)) ?_))
          | ((with_reducible refine g_call 10 ?_); (first | (refine Ef_callNX rfl rfl ent_10 (fun w hp => to1 w (hp.rd ha fun _ => List.not_mem_nil) (hp.ins_old hia)) ?_; rintro ⟨⟨A1, c1⟩, m1⟩ hm1)))
          | ((with_reducible refine g_call 22 ?_); (first | (((refine' Ef_callNX rfl rfl ent_22 (fun w hp => note_q A1 c1 m1 w hm1 (hp.rowOf ?q1) hl2 (hp.ins_bag ?q2) hk4 t i r (A2, c2) (hp.in_row ?q3) hr4 _ hQ) ?_); (case q1 => (repeat (first | exact .head _ | apply List.Mem.tail))); (case q2 => (repeat (first | exact .head _ | apply List.Mem.tail))); (case q3 => (repeat (first | exact .head _ | apply List.Mem.tail)))); rintro ⟨⟨A3, c3⟩, m3⟩ hm3)))
          | ((with_reducible refine g_call 23 ?_); (first | (refine Ef_callN rfl rfl ent_23 (fun w hp => hrn w (hp.rd ha fun _ => List.not_mem_nil)) ?_; rintro ⟨A4, c4⟩)))
          | ((with_reducible refine g_call 21 ?_); (first | (((refine' Ef_callN rfl rfl ent_21 (fun w hp => from_q A3 c3 m3 w hm3 (hp.rowOf ?q1) hql2) ?_); (case q1 => (repeat (first | exact .head _ | apply List.Mem.tail)))); rintro ⟨A6, c6⟩) | (((refine' Ef_callN rfl rfl ent_21 (fun w hp => from_q A1 c1 m1 w hm1 (hp.rowOf ?q1) hl2) ?_); (case q1 => (repeat (first | exact .head _ | apply List.Mem.tail)))); rintro ⟨A7, c7⟩)))
          | ((with_reducible refine g_call 11 ?_); (first | ((refine' Ef_callP rfl rfl ent_11 (fun w hp => rsame_q A6 c6 m3 A4 c4 W w hm3 hW (hp.rowOf ?q1) (hp.rowOf ?q2) (hp.ins_bag ?q3) (hp.ins_old hWi) hql4 hqk4 _ (Rl.same_self _)) ?_); (case q1 => (repeat (first | exact .head _ | apply List.Mem.tail))); (case q2 => (repeat (first | exact .head _ | apply List.Mem.tail))); (case q3 => (repeat (first | exact .head _ | apply List.Mem.tail)))) | ((refine' Ef_callP rfl rfl ent_11 (fun w hp => rsame_q A7 c7 m1 A c l w hm1 rfl (hp.rowOf ?q1) (hp.rd ha fun _ => List.not_mem_nil) (hp.ins_bag ?q2) (hp.ins_old hia) hl4 hk4 _ (Rl.same_self _)) ?_); (case q1 => (repeat (first | exact .head _ | apply List.Mem.tail))); (case q2 => (repeat (first | exact .head _ | apply List.Mem.tail))))))
          | ((with_reducible refine g_call 14 ?_); (first | refine Ef_callP rfl rfl ent_14 (fun w _ => awake_v w) ?_))))
          | refine w1 ?_
          | (refine w2 ?_ ?_ <;> intro hc)
          | (refine w4 ?_; (first | ((fail_if_success have := b1); intro b1) | ((fail_if_success have := b2); intro b2) | intro _))
          | (refine w5 ?_; (first | ((fail_if_success have := A1); intro A1 c1) | ((fail_if_success have := A2); intro A2 c2) | ((fail_if_success have := A3); intro A3 c3) | ((fail_if_success have := A4); intro A4 c4) | ((fail_if_success have := A5); intro A5 c5) | ((fail_if_success have := A6); intro A6 c6) | ((fail_if_success have := A7); intro A7 c7)))
          | refine w3 ?_ ?_
          | fail_if_success skip)
      exact ret_n [] (res1 rfl rfl) (List.nil_sublist _) ⟨rfl, rfl⟩
    obtain ⟨g1, g2⟩ := Rl.big_no h1
    have hr4 : r.keys.length ≤ 400 := by omega
    have hl2 : (l.map (·.1)).length ≤ 200 := by rw [List.length_map]; omega
    have hl4 : (l.map (·.1)).length ≤ 400 := by omega
    have hk4 := keys_la g2
    have to1 := fun w h hi => to_c A l.length c l w h rfl (by omega) hi g2
    have hrn := fun w hh => rnote_c A l.length c l t i r h w hh rfl (by omega)
    obtain ⟨hW, hWe⟩ := Rl.noteM_note l t i r h
    have hWi := noteM_in (t := t) (i := i) hia hr
    have hql := note_len (l.map (·.1)) t i r
    rw [List.length_map] at hql
    have hqk4 := note_keys (t := t) (i := i) hk4 hr4
    generalize hQ : Rl.note (l.map (·.1)) t i r = QQ at hW hWe hql hqk4
    obtain ⟨Q, e⟩ := QQ
    dsimp only at hW hWe hql hqk4
    have hql2 : Q.length ≤ 200 := by omega
    have hql4 : Q.length ≤ 400 := by omega
    have oK := one_flat kE_one r.keys
    have hrk : Rd w h.1 r.keys.length 1 (r.keys.flatMap kE) := hr
    generalize Rl.noteM l t i r h = WW at hrn hW hWe hWi
    obtain ⟨W, e'⟩ := WW
    dsimp only at hrn hW hWe hWi
    subst hWe
    clear h1 hql
    refine Sp.enter (n := 103) Try.func5 rfl rfl rfl (Hp.refl w) ?_
    repeat' (first
        | ((with_reducible refine ie_store ?_); (first | ((refine' Ef_storeA' rfl rfl ?q1 (rE_one _ _) ?q2 ?q3 ?_); (case q1 => exact siz_of rfl); (case q2 => (first | exact at0 | exact at1 | exact at2 | exact at3 | exact at4 | exact at5 | exact at6)); (case q3 => rfl)) | ((refine' Ef_storeC (C' := (rE r (A2, c2)).toArray) rfl rfl ?q1 ?q2 ?q3 ?q4 ?q5 ?_); (case q1 => rfl); (case q2 => exact siz_of rfl); (case q3 => (first | exact at0 | exact at1 | exact at2 | exact at3 | exact at4 | exact at5 | exact at6)); (case q4 => exact Nat.le_of_ble_eq_true rfl); (case q5 => rfl)) | ((refine' Ef_store_row1 rfl rfl ?q1 ?q2 ?q3 ?q4 (kE_set zs k _) ?_); (case q1 => rfl); (case q2 => exact siz_of rfl); (case q3 => (first | exact at0 | exact at1 | exact at2 | exact at3 | exact at4 | exact at5 | exact at6)); (case q4 => omega))))
        | ((with_reducible refine ie_callf ?_); (first
        | ((with_reducible refine g_call 8 ?_); (first | refine Ef_callP rfl rfl ent_8 (fun w hp => hg1 w (hp.rd ha fun _ => List.not_mem_nil)) ?_))
        | ((with_reducible refine g_call 10 ?_); (first | (refine Ef_callNX rfl rfl ent_10 (fun w hp => to1 w (hp.rd ha fun _ => List.not_mem_nil) (hp.ins_old hia)) ?_; rintro ⟨⟨A1, c1⟩, m1⟩ hm1)))
        | ((with_reducible refine g_call 22 ?_); (first | (((refine' Ef_callNX rfl rfl ent_22 (fun w hp => note_q A1 c1 m1 w hm1 (hp.rowOf ?q1) hl2 (hp.ins_bag ?q2) hk4 t i r (A2, c2) (hp.in_row ?q3) hr4 _ hQ) ?_); (case q1 => (repeat (first | exact .head _ | apply List.Mem.tail))); (case q2 => (repeat (first | exact .head _ | apply List.Mem.tail))); (case q3 => (repeat (first | exact .head _ | apply List.Mem.tail)))); rintro ⟨⟨A3, c3⟩, m3⟩ hm3)))
        | ((with_reducible refine g_call 23 ?_); (first | (refine Ef_callN rfl rfl ent_23 (fun w hp => hrn w (hp.rd ha fun _ => List.not_mem_nil)) ?_; rintro ⟨A4, c4⟩)))
        | ((with_reducible refine g_call 21 ?_); (first | (((refine' Ef_callN rfl rfl ent_21 (fun w hp => from_q A3 c3 m3 w hm3 (hp.rowOf ?q1) hql2) ?_); (case q1 => (repeat (first | exact .head _ | apply List.Mem.tail)))); rintro ⟨A6, c6⟩) | (((refine' Ef_callN rfl rfl ent_21 (fun w hp => from_q A1 c1 m1 w hm1 (hp.rowOf ?q1) hl2) ?_); (case q1 => (repeat (first | exact .head _ | apply List.Mem.tail)))); rintro ⟨A7, c7⟩)))
        | ((with_reducible refine g_call 11 ?_); (first | ((refine' Ef_callP rfl rfl ent_11 (fun w hp => rsame_q A6 c6 m3 A4 c4 W w hm3 hW (hp.rowOf ?q1) (hp.rowOf ?q2) (hp.ins_bag ?q3) (hp.ins_old hWi) hql4 hqk4 _ (Rl.same_self _)) ?_); (case q1 => (repeat (first | exact .head _ | apply List.Mem.tail))); (case q2 => (repeat (first | exact .head _ | apply List.Mem.tail))); (case q3 => (repeat (first | exact .head _ | apply List.Mem.tail)))) | ((refine' Ef_callP rfl rfl ent_11 (fun w hp => rsame_q A7 c7 m1 A c l w hm1 rfl (hp.rowOf ?q1) (hp.rd ha fun _ => List.not_mem_nil) (hp.ins_bag ?q2) (hp.ins_old hia) hl4 hk4 _ (Rl.same_self _)) ?_); (case q1 => (repeat (first | exact .head _ | apply List.Mem.tail))); (case q2 => (repeat (first | exact .head _ | apply List.Mem.tail))))))
        | ((with_reducible refine g_call 14 ?_); (first | refine Ef_callP rfl rfl ent_14 (fun w _ => awake_v w) ?_))))
        | refine w1 ?_
        | (refine w2 ?_ ?_ <;> intro hc)
        | (refine w4 ?_; (first | ((fail_if_success have := b1); intro b1) | ((fail_if_success have := b2); intro b2) | intro _))
        | (refine w5 ?_; (first | ((fail_if_success have := A1); intro A1 c1) | ((fail_if_success have := A2); intro A2 c2) | ((fail_if_success have := A3); intro A3 c3) | ((fail_if_success have := A4); intro A4 c4) | ((fail_if_success have := A5); intro A5 c5) | ((fail_if_success have := A6); intro A6 c6) | ((fail_if_success have := A7); intro A7 c7)))
        | refine w3 ?_ ?_
        | fail_if_success skip)
    refine T.loop (α := Nat × List ByteArray) (fun z => [(0, .slice A l.length c), (9, .slice A1 m1.length c1), (10, .pointer (some ⟨b2, 0, none⟩)), (11, .slice A3 m3.length c3), (12, .int .i64 e'), (13, .slice A4 W.length c4), (14, .int .i64 e'), (15, .int .i64 (z.1 : Int))])
      (fun z => [rD W (A4, c4), rM m3 (A3, c3), bag (m3.map mA), .row 9 1 (.slice A2 r.keys.length c2) r.keys.length (z.2.flatMap kE), .blk b2 (.cells (rE r (A2, c2)).toArray 30 (0, 0)), rM m1 (A1, c1), bag (m1.map mA)]) (fun z => z.1 ≤ r.keys.length ∧ z.2.length = r.keys.length) (fun z => r.keys.length - z.1) (0, r.keys) ?_ ?_ ?_ ?_
    · (repeat (first | exact Sub.nil | refine Sub.cons rfl ?_))
    · (repeat (first | exact List.nil_sublist _ | refine List.Sublist.cons_cons _ ?_ | refine List.Sublist.cons _ ?_))
    · exact ⟨Nat.zero_le _, rfl⟩
    · rintro ⟨k, zs⟩ ⟨hk, hzs⟩
      dsimp only at hk hzs ⊢
      by_cases hlt : k < r.keys.length
      · repeat' (first
          | ((with_reducible refine ie_store ?_); (first | ((refine' Ef_storeA' rfl rfl ?q1 (rE_one _ _) ?q2 ?q3 ?_); (case q1 => exact siz_of rfl); (case q2 => (first | exact at0 | exact at1 | exact at2 | exact at3 | exact at4 | exact at5 | exact at6)); (case q3 => rfl)) | ((refine' Ef_storeC (C' := (rE r (A2, c2)).toArray) rfl rfl ?q1 ?q2 ?q3 ?q4 ?q5 ?_); (case q1 => rfl); (case q2 => exact siz_of rfl); (case q3 => (first | exact at0 | exact at1 | exact at2 | exact at3 | exact at4 | exact at5 | exact at6)); (case q4 => exact Nat.le_of_ble_eq_true rfl); (case q5 => rfl)) | ((refine' Ef_store_row1 rfl rfl ?q1 ?q2 ?q3 ?q4 (kE_set zs k _) ?_); (case q1 => rfl); (case q2 => exact siz_of rfl); (case q3 => (first | exact at0 | exact at1 | exact at2 | exact at3 | exact at4 | exact at5 | exact at6)); (case q4 => omega))))
          | ((with_reducible refine ie_callf ?_); (first
          | ((with_reducible refine g_call 8 ?_); (first | refine Ef_callP rfl rfl ent_8 (fun w hp => hg1 w (hp.rd ha fun _ => List.not_mem_nil)) ?_))
          | ((with_reducible refine g_call 10 ?_); (first | (refine Ef_callNX rfl rfl ent_10 (fun w hp => to1 w (hp.rd ha fun _ => List.not_mem_nil) (hp.ins_old hia)) ?_; rintro ⟨⟨A1, c1⟩, m1⟩ hm1)))
          | ((with_reducible refine g_call 22 ?_); (first | (((refine' Ef_callNX rfl rfl ent_22 (fun w hp => note_q A1 c1 m1 w hm1 (hp.rowOf ?q1) hl2 (hp.ins_bag ?q2) hk4 t i r (A2, c2) (hp.in_row ?q3) hr4 _ hQ) ?_); (case q1 => (repeat (first | exact .head _ | apply List.Mem.tail))); (case q2 => (repeat (first | exact .head _ | apply List.Mem.tail))); (case q3 => (repeat (first | exact .head _ | apply List.Mem.tail)))); rintro ⟨⟨A3, c3⟩, m3⟩ hm3)))
          | ((with_reducible refine g_call 23 ?_); (first | (refine Ef_callN rfl rfl ent_23 (fun w hp => hrn w (hp.rd ha fun _ => List.not_mem_nil)) ?_; rintro ⟨A4, c4⟩)))
          | ((with_reducible refine g_call 21 ?_); (first | (((refine' Ef_callN rfl rfl ent_21 (fun w hp => from_q A3 c3 m3 w hm3 (hp.rowOf ?q1) hql2) ?_); (case q1 => (repeat (first | exact .head _ | apply List.Mem.tail)))); rintro ⟨A6, c6⟩) | (((refine' Ef_callN rfl rfl ent_21 (fun w hp => from_q A1 c1 m1 w hm1 (hp.rowOf ?q1) hl2) ?_); (case q1 => (repeat (first | exact .head _ | apply List.Mem.tail)))); rintro ⟨A7, c7⟩)))
          | ((with_reducible refine g_call 11 ?_); (first | ((refine' Ef_callP rfl rfl ent_11 (fun w hp => rsame_q A6 c6 m3 A4 c4 W w hm3 hW (hp.rowOf ?q1) (hp.rowOf ?q2) (hp.ins_bag ?q3) (hp.ins_old hWi) hql4 hqk4 _ (Rl.same_self _)) ?_); (case q1 => (repeat (first | exact .head _ | apply List.Mem.tail))); (case q2 => (repeat (first | exact .head _ | apply List.Mem.tail))); (case q3 => (repeat (first | exact .head _ | apply List.Mem.tail)))) | ((refine' Ef_callP rfl rfl ent_11 (fun w hp => rsame_q A7 c7 m1 A c l w hm1 rfl (hp.rowOf ?q1) (hp.rd ha fun _ => List.not_mem_nil) (hp.ins_bag ?q2) (hp.ins_old hia) hl4 hk4 _ (Rl.same_self _)) ?_); (case q1 => (repeat (first | exact .head _ | apply List.Mem.tail))); (case q2 => (repeat (first | exact .head _ | apply List.Mem.tail))))))
          | ((with_reducible refine g_call 14 ?_); (first | refine Ef_callP rfl rfl ent_14 (fun w _ => awake_v w) ?_))))
          | refine w1 ?_
          | (refine w2 ?_ ?_ <;> intro hc)
          | (refine w4 ?_; (first | ((fail_if_success have := b1); intro b1) | ((fail_if_success have := b2); intro b2) | intro _))
          | (refine w5 ?_; (first | ((fail_if_success have := A1); intro A1 c1) | ((fail_if_success have := A2); intro A2 c2) | ((fail_if_success have := A3); intro A3 c3) | ((fail_if_success have := A4); intro A4 c4) | ((fail_if_success have := A5); intro A5 c5) | ((fail_if_success have := A6); intro A6 c6) | ((fail_if_success have := A7); intro A7 c7)))
          | refine w3 ?_ ?_
          | fail_if_success skip)
        refine loopQ_n (k + 1, zs.set k _) ?_ (List.Sublist.refl _) ⟨show k + 1 ≤ _ by omega, by rw [List.length_set]; exact hzs⟩ (show r.keys.length - (k + 1) < r.keys.length - k by omega)
        · (repeat (first | exact Sub.nil | refine Sub.cons rfl ?_))
      · repeat' (first
          | ((with_reducible refine ie_store ?_); (first | ((refine' Ef_storeA' rfl rfl ?q1 (rE_one _ _) ?q2 ?q3 ?_); (case q1 => exact siz_of rfl); (case q2 => (first | exact at0 | exact at1 | exact at2 | exact at3 | exact at4 | exact at5 | exact at6)); (case q3 => rfl)) | ((refine' Ef_storeC (C' := (rE r (A2, c2)).toArray) rfl rfl ?q1 ?q2 ?q3 ?q4 ?q5 ?_); (case q1 => rfl); (case q2 => exact siz_of rfl); (case q3 => (first | exact at0 | exact at1 | exact at2 | exact at3 | exact at4 | exact at5 | exact at6)); (case q4 => exact Nat.le_of_ble_eq_true rfl); (case q5 => rfl)) | ((refine' Ef_store_row1 rfl rfl ?q1 ?q2 ?q3 ?q4 (kE_set zs k _) ?_); (case q1 => rfl); (case q2 => exact siz_of rfl); (case q3 => (first | exact at0 | exact at1 | exact at2 | exact at3 | exact at4 | exact at5 | exact at6)); (case q4 => omega))))
          | ((with_reducible refine ie_callf ?_); (first
          | ((with_reducible refine g_call 8 ?_); (first | refine Ef_callP rfl rfl ent_8 (fun w hp => hg1 w (hp.rd ha fun _ => List.not_mem_nil)) ?_))
          | ((with_reducible refine g_call 10 ?_); (first | (refine Ef_callNX rfl rfl ent_10 (fun w hp => to1 w (hp.rd ha fun _ => List.not_mem_nil) (hp.ins_old hia)) ?_; rintro ⟨⟨A1, c1⟩, m1⟩ hm1)))
          | ((with_reducible refine g_call 22 ?_); (first | (((refine' Ef_callNX rfl rfl ent_22 (fun w hp => note_q A1 c1 m1 w hm1 (hp.rowOf ?q1) hl2 (hp.ins_bag ?q2) hk4 t i r (A2, c2) (hp.in_row ?q3) hr4 _ hQ) ?_); (case q1 => (repeat (first | exact .head _ | apply List.Mem.tail))); (case q2 => (repeat (first | exact .head _ | apply List.Mem.tail))); (case q3 => (repeat (first | exact .head _ | apply List.Mem.tail)))); rintro ⟨⟨A3, c3⟩, m3⟩ hm3)))
          | ((with_reducible refine g_call 23 ?_); (first | (refine Ef_callN rfl rfl ent_23 (fun w hp => hrn w (hp.rd ha fun _ => List.not_mem_nil)) ?_; rintro ⟨A4, c4⟩)))
          | ((with_reducible refine g_call 21 ?_); (first | (((refine' Ef_callN rfl rfl ent_21 (fun w hp => from_q A3 c3 m3 w hm3 (hp.rowOf ?q1) hql2) ?_); (case q1 => (repeat (first | exact .head _ | apply List.Mem.tail)))); rintro ⟨A6, c6⟩) | (((refine' Ef_callN rfl rfl ent_21 (fun w hp => from_q A1 c1 m1 w hm1 (hp.rowOf ?q1) hl2) ?_); (case q1 => (repeat (first | exact .head _ | apply List.Mem.tail)))); rintro ⟨A7, c7⟩)))
          | ((with_reducible refine g_call 11 ?_); (first | ((refine' Ef_callP rfl rfl ent_11 (fun w hp => rsame_q A6 c6 m3 A4 c4 W w hm3 hW (hp.rowOf ?q1) (hp.rowOf ?q2) (hp.ins_bag ?q3) (hp.ins_old hWi) hql4 hqk4 _ (Rl.same_self _)) ?_); (case q1 => (repeat (first | exact .head _ | apply List.Mem.tail))); (case q2 => (repeat (first | exact .head _ | apply List.Mem.tail))); (case q3 => (repeat (first | exact .head _ | apply List.Mem.tail)))) | ((refine' Ef_callP rfl rfl ent_11 (fun w hp => rsame_q A7 c7 m1 A c l w hm1 rfl (hp.rowOf ?q1) (hp.rd ha fun _ => List.not_mem_nil) (hp.ins_bag ?q2) (hp.ins_old hia) hl4 hk4 _ (Rl.same_self _)) ?_); (case q1 => (repeat (first | exact .head _ | apply List.Mem.tail))); (case q2 => (repeat (first | exact .head _ | apply List.Mem.tail))))))
          | ((with_reducible refine g_call 14 ?_); (first | refine Ef_callP rfl rfl ent_14 (fun w _ => awake_v w) ?_))))
          | refine w1 ?_
          | (refine w2 ?_ ?_ <;> intro hc)
          | (refine w4 ?_; (first | ((fail_if_success have := b1); intro b1) | ((fail_if_success have := b2); intro b2) | intro _))
          | (refine w5 ?_; (first | ((fail_if_success have := A1); intro A1 c1) | ((fail_if_success have := A2); intro A2 c2) | ((fail_if_success have := A3); intro A3 c3) | ((fail_if_success have := A4); intro A4 c4) | ((fail_if_success have := A5); intro A5 c5) | ((fail_if_success have := A6); intro A6 c6) | ((fail_if_success have := A7); intro A7 c7)))
          | refine w3 ?_ ?_
          | fail_if_success skip)
        refine T.loopM (α := Nat × List Me) (fun z => [(0, .slice A l.length c), (9, .slice A1 m1.length c1), (11, .slice A3 m3.length c3), (16, .int .i64 (z.1 : Int))])
          (fun z => [bag (z.2.map mA), rM m3 (A3, c3), rM m1 (A1, c1), bag (m1.map mA)]) (fun z => z.1 ≤ m3.length ∧ z.2.map fo = m3.map fo) (fun z => m3.length - z.1) (0, m3) ?_ ?_ ?_ ?_
        · (repeat (first | exact Sub.nil | refine Sub.cons rfl ?_))
        · exact fun _ h => h.ofPart (by (repeat (first | exact Part.nil | refine Part.p0 ?_ | refine Part.p1 ?_ | refine Part.p2 ?_ | refine Part.p3 ?_ | refine Part.p4 ?_ | refine Part.p5 ?_ | refine Part.p6 ?_)))
        · exact ⟨Nat.zero_le _, rfl⟩
        · rintro ⟨j, ms⟩ ⟨hj, hms⟩
          dsimp only at hj hms ⊢
          have hm3l : m3.length = Q.length := len_map hm3
          by_cases hjl : j < m3.length
          · obtain ⟨x, hx⟩ := some_of_lt (l := m3) (i := j) hjl
            obtain ⟨⟨y, h3⟩, hy, hyx⟩ := fo_at hms hx
            obtain ⟨rfl, hyl⟩ : h3 = x.2 ∧ y.r.keys.length = x.1.r.keys.length := ⟨congrArg Prod.fst hyx, congrArg Prod.snd hyx⟩
            have e4 : (m3.flatMap mE)[j * 77 + 2 + 2]? = some (.slice x.2.1 x.1.r.keys.length x.2.2) := enc_at mE_len hx (j := 4) (by decide)
            have hkx : x.1.r.keys.length ≤ 400 := keys_map hm3 hqk4 x (mem_of_some hx)
            have hcut := cut_at hy
            generalize hpre : ms.take j = pre at hcut
            generalize hpost : ms.drop (j + 1) = post at hcut
            have hbag : ∀ w', Hp w [] [bag (ms.map mA), rM m3 (A3, c3), rM m1 (A1, c1), bag (m1.map mA)] w' → Hp w [] [.row 9 1 (.slice x.2.1 x.1.r.keys.length x.2.2) x.1.r.keys.length (y.r.keys.flatMap kE), bag (pre.map mA), bag (post.map mA), rM m3 (A3, c3), rM m1 (A1, c1), bag (m1.map mA)] w' := fun w' hp => by
              rw [hcut, List.map_append, List.map_cons] at hp
              have h1 := hp.bagTake
              rw [← hyl]
              exact h1
            refine T.mem hbag ?_
            clear hbag
            repeat' (first
                | ((with_reducible refine ie_store ?_); (first | ((refine' Ef_storeA' rfl rfl ?q1 (rE_one _ _) ?q2 ?q3 ?_); (case q1 => exact siz_of rfl); (case q2 => (first | exact at0 | exact at1 | exact at2 | exact at3 | exact at4 | exact at5 | exact at6)); (case q3 => rfl)) | ((refine' Ef_storeC (C' := (rE r (A2, c2)).toArray) rfl rfl ?q1 ?q2 ?q3 ?q4 ?q5 ?_); (case q1 => rfl); (case q2 => exact siz_of rfl); (case q3 => (first | exact at0 | exact at1 | exact at2 | exact at3 | exact at4 | exact at5 | exact at6)); (case q4 => exact Nat.le_of_ble_eq_true rfl); (case q5 => rfl)) | ((refine' Ef_store_row1 rfl rfl ?q1 ?q2 ?q3 ?q4 (kE_set zs k _) ?_); (case q1 => rfl); (case q2 => exact siz_of rfl); (case q3 => (first | exact at0 | exact at1 | exact at2 | exact at3 | exact at4 | exact at5 | exact at6)); (case q4 => omega))))
                | ((with_reducible refine ie_callf ?_); (first
                | ((with_reducible refine g_call 8 ?_); (first | refine Ef_callP rfl rfl ent_8 (fun w hp => hg1 w (hp.rd ha fun _ => List.not_mem_nil)) ?_))
                | ((with_reducible refine g_call 10 ?_); (first | (refine Ef_callNX rfl rfl ent_10 (fun w hp => to1 w (hp.rd ha fun _ => List.not_mem_nil) (hp.ins_old hia)) ?_; rintro ⟨⟨A1, c1⟩, m1⟩ hm1)))
                | ((with_reducible refine g_call 22 ?_); (first | (((refine' Ef_callNX rfl rfl ent_22 (fun w hp => note_q A1 c1 m1 w hm1 (hp.rowOf ?q1) hl2 (hp.ins_bag ?q2) hk4 t i r (A2, c2) (hp.in_row ?q3) hr4 _ hQ) ?_); (case q1 => (repeat (first | exact .head _ | apply List.Mem.tail))); (case q2 => (repeat (first | exact .head _ | apply List.Mem.tail))); (case q3 => (repeat (first | exact .head _ | apply List.Mem.tail)))); rintro ⟨⟨A3, c3⟩, m3⟩ hm3)))
                | ((with_reducible refine g_call 23 ?_); (first | (refine Ef_callN rfl rfl ent_23 (fun w hp => hrn w (hp.rd ha fun _ => List.not_mem_nil)) ?_; rintro ⟨A4, c4⟩)))
                | ((with_reducible refine g_call 21 ?_); (first | (((refine' Ef_callN rfl rfl ent_21 (fun w hp => from_q A3 c3 m3 w hm3 (hp.rowOf ?q1) hql2) ?_); (case q1 => (repeat (first | exact .head _ | apply List.Mem.tail)))); rintro ⟨A6, c6⟩) | (((refine' Ef_callN rfl rfl ent_21 (fun w hp => from_q A1 c1 m1 w hm1 (hp.rowOf ?q1) hl2) ?_); (case q1 => (repeat (first | exact .head _ | apply List.Mem.tail)))); rintro ⟨A7, c7⟩)))
                | ((with_reducible refine g_call 11 ?_); (first | ((refine' Ef_callP rfl rfl ent_11 (fun w hp => rsame_q A6 c6 m3 A4 c4 W w hm3 hW (hp.rowOf ?q1) (hp.rowOf ?q2) (hp.ins_bag ?q3) (hp.ins_old hWi) hql4 hqk4 _ (Rl.same_self _)) ?_); (case q1 => (repeat (first | exact .head _ | apply List.Mem.tail))); (case q2 => (repeat (first | exact .head _ | apply List.Mem.tail))); (case q3 => (repeat (first | exact .head _ | apply List.Mem.tail)))) | ((refine' Ef_callP rfl rfl ent_11 (fun w hp => rsame_q A7 c7 m1 A c l w hm1 rfl (hp.rowOf ?q1) (hp.rd ha fun _ => List.not_mem_nil) (hp.ins_bag ?q2) (hp.ins_old hia) hl4 hk4 _ (Rl.same_self _)) ?_); (case q1 => (repeat (first | exact .head _ | apply List.Mem.tail))); (case q2 => (repeat (first | exact .head _ | apply List.Mem.tail))))))
                | ((with_reducible refine g_call 14 ?_); (first | refine Ef_callP rfl rfl ent_14 (fun w _ => awake_v w) ?_))))
                | refine w1 ?_
                | (refine w2 ?_ ?_ <;> intro hc)
                | (refine w4 ?_; (first | ((fail_if_success have := b1); intro b1) | ((fail_if_success have := b2); intro b2) | intro _))
                | (refine w5 ?_; (first | ((fail_if_success have := A1); intro A1 c1) | ((fail_if_success have := A2); intro A2 c2) | ((fail_if_success have := A3); intro A3 c3) | ((fail_if_success have := A4); intro A4 c4) | ((fail_if_success have := A5); intro A5 c5) | ((fail_if_success have := A6); intro A6 c6) | ((fail_if_success have := A7); intro A7 c7)))
                | refine w3 ?_ ?_
                | fail_if_success skip)
            refine T.loop (α := Nat × List ByteArray) (fun z => [(0, .slice A l.length c), (9, .slice A1 m1.length c1), (11, .slice A3 m3.length c3), (16, .int .i64 (j : Int)), (17, .int .i64 (z.1 : Int))])
              (fun z => [.row 9 1 (.slice x.2.1 x.1.r.keys.length x.2.2) x.1.r.keys.length (z.2.flatMap kE), bag (pre.map mA), bag (post.map mA), rM m3 (A3, c3), rM m1 (A1, c1), bag (m1.map mA)]) (fun z => z.1 ≤ x.1.r.keys.length ∧ z.2.length = x.1.r.keys.length) (fun z => x.1.r.keys.length - z.1) (0, y.r.keys) ?_ ?_ ?_ ?_
            · (repeat (first | exact Sub.nil | refine Sub.cons rfl ?_))
            · (repeat (first | exact List.nil_sublist _ | refine List.Sublist.cons_cons _ ?_ | refine List.Sublist.cons _ ?_))
            · exact ⟨Nat.zero_le _, hyl⟩
            · rintro ⟨k, zs⟩ ⟨hk, hzs⟩
              dsimp only at hk hzs ⊢
              by_cases hlk : k < x.1.r.keys.length
              · repeat' (first
                  | ((with_reducible refine ie_store ?_); (first | ((refine' Ef_storeA' rfl rfl ?q1 (rE_one _ _) ?q2 ?q3 ?_); (case q1 => exact siz_of rfl); (case q2 => (first | exact at0 | exact at1 | exact at2 | exact at3 | exact at4 | exact at5 | exact at6)); (case q3 => rfl)) | ((refine' Ef_storeC (C' := (rE r (A2, c2)).toArray) rfl rfl ?q1 ?q2 ?q3 ?q4 ?q5 ?_); (case q1 => rfl); (case q2 => exact siz_of rfl); (case q3 => (first | exact at0 | exact at1 | exact at2 | exact at3 | exact at4 | exact at5 | exact at6)); (case q4 => exact Nat.le_of_ble_eq_true rfl); (case q5 => rfl)) | ((refine' Ef_store_row1 rfl rfl ?q1 ?q2 ?q3 ?q4 (kE_set zs k _) ?_); (case q1 => rfl); (case q2 => exact siz_of rfl); (case q3 => (first | exact at0 | exact at1 | exact at2 | exact at3 | exact at4 | exact at5 | exact at6)); (case q4 => omega))))
                  | ((with_reducible refine ie_callf ?_); (first
                  | ((with_reducible refine g_call 8 ?_); (first | refine Ef_callP rfl rfl ent_8 (fun w hp => hg1 w (hp.rd ha fun _ => List.not_mem_nil)) ?_))
                  | ((with_reducible refine g_call 10 ?_); (first | (refine Ef_callNX rfl rfl ent_10 (fun w hp => to1 w (hp.rd ha fun _ => List.not_mem_nil) (hp.ins_old hia)) ?_; rintro ⟨⟨A1, c1⟩, m1⟩ hm1)))
                  | ((with_reducible refine g_call 22 ?_); (first | (((refine' Ef_callNX rfl rfl ent_22 (fun w hp => note_q A1 c1 m1 w hm1 (hp.rowOf ?q1) hl2 (hp.ins_bag ?q2) hk4 t i r (A2, c2) (hp.in_row ?q3) hr4 _ hQ) ?_); (case q1 => (repeat (first | exact .head _ | apply List.Mem.tail))); (case q2 => (repeat (first | exact .head _ | apply List.Mem.tail))); (case q3 => (repeat (first | exact .head _ | apply List.Mem.tail)))); rintro ⟨⟨A3, c3⟩, m3⟩ hm3)))
                  | ((with_reducible refine g_call 23 ?_); (first | (refine Ef_callN rfl rfl ent_23 (fun w hp => hrn w (hp.rd ha fun _ => List.not_mem_nil)) ?_; rintro ⟨A4, c4⟩)))
                  | ((with_reducible refine g_call 21 ?_); (first | (((refine' Ef_callN rfl rfl ent_21 (fun w hp => from_q A3 c3 m3 w hm3 (hp.rowOf ?q1) hql2) ?_); (case q1 => (repeat (first | exact .head _ | apply List.Mem.tail)))); rintro ⟨A6, c6⟩) | (((refine' Ef_callN rfl rfl ent_21 (fun w hp => from_q A1 c1 m1 w hm1 (hp.rowOf ?q1) hl2) ?_); (case q1 => (repeat (first | exact .head _ | apply List.Mem.tail)))); rintro ⟨A7, c7⟩)))
                  | ((with_reducible refine g_call 11 ?_); (first | ((refine' Ef_callP rfl rfl ent_11 (fun w hp => rsame_q A6 c6 m3 A4 c4 W w hm3 hW (hp.rowOf ?q1) (hp.rowOf ?q2) (hp.ins_bag ?q3) (hp.ins_old hWi) hql4 hqk4 _ (Rl.same_self _)) ?_); (case q1 => (repeat (first | exact .head _ | apply List.Mem.tail))); (case q2 => (repeat (first | exact .head _ | apply List.Mem.tail))); (case q3 => (repeat (first | exact .head _ | apply List.Mem.tail)))) | ((refine' Ef_callP rfl rfl ent_11 (fun w hp => rsame_q A7 c7 m1 A c l w hm1 rfl (hp.rowOf ?q1) (hp.rd ha fun _ => List.not_mem_nil) (hp.ins_bag ?q2) (hp.ins_old hia) hl4 hk4 _ (Rl.same_self _)) ?_); (case q1 => (repeat (first | exact .head _ | apply List.Mem.tail))); (case q2 => (repeat (first | exact .head _ | apply List.Mem.tail))))))
                  | ((with_reducible refine g_call 14 ?_); (first | refine Ef_callP rfl rfl ent_14 (fun w _ => awake_v w) ?_))))
                  | refine w1 ?_
                  | (refine w2 ?_ ?_ <;> intro hc)
                  | (refine w4 ?_; (first | ((fail_if_success have := b1); intro b1) | ((fail_if_success have := b2); intro b2) | intro _))
                  | (refine w5 ?_; (first | ((fail_if_success have := A1); intro A1 c1) | ((fail_if_success have := A2); intro A2 c2) | ((fail_if_success have := A3); intro A3 c3) | ((fail_if_success have := A4); intro A4 c4) | ((fail_if_success have := A5); intro A5 c5) | ((fail_if_success have := A6); intro A6 c6) | ((fail_if_success have := A7); intro A7 c7)))
                  | refine w3 ?_ ?_
                  | fail_if_success skip)
                refine loopQ_n (k + 1, zs.set k _) ?_ (List.Sublist.refl _) ⟨show k + 1 ≤ _ by omega, by rw [List.length_set]; exact hzs⟩ (show x.1.r.keys.length - (k + 1) < x.1.r.keys.length - k by omega)
                · (repeat (first | exact Sub.nil | refine Sub.cons rfl ?_))
              · repeat' (first
                  | ((with_reducible refine ie_store ?_); (first | ((refine' Ef_storeA' rfl rfl ?q1 (rE_one _ _) ?q2 ?q3 ?_); (case q1 => exact siz_of rfl); (case q2 => (first | exact at0 | exact at1 | exact at2 | exact at3 | exact at4 | exact at5 | exact at6)); (case q3 => rfl)) | ((refine' Ef_storeC (C' := (rE r (A2, c2)).toArray) rfl rfl ?q1 ?q2 ?q3 ?q4 ?q5 ?_); (case q1 => rfl); (case q2 => exact siz_of rfl); (case q3 => (first | exact at0 | exact at1 | exact at2 | exact at3 | exact at4 | exact at5 | exact at6)); (case q4 => exact Nat.le_of_ble_eq_true rfl); (case q5 => rfl)) | ((refine' Ef_store_row1 rfl rfl ?q1 ?q2 ?q3 ?q4 (kE_set zs k _) ?_); (case q1 => rfl); (case q2 => exact siz_of rfl); (case q3 => (first | exact at0 | exact at1 | exact at2 | exact at3 | exact at4 | exact at5 | exact at6)); (case q4 => omega))))
                  | ((with_reducible refine ie_callf ?_); (first
                  | ((with_reducible refine g_call 8 ?_); (first | refine Ef_callP rfl rfl ent_8 (fun w hp => hg1 w (hp.rd ha fun _ => List.not_mem_nil)) ?_))
                  | ((with_reducible refine g_call 10 ?_); (first | (refine Ef_callNX rfl rfl ent_10 (fun w hp => to1 w (hp.rd ha fun _ => List.not_mem_nil) (hp.ins_old hia)) ?_; rintro ⟨⟨A1, c1⟩, m1⟩ hm1)))
                  | ((with_reducible refine g_call 22 ?_); (first | (((refine' Ef_callNX rfl rfl ent_22 (fun w hp => note_q A1 c1 m1 w hm1 (hp.rowOf ?q1) hl2 (hp.ins_bag ?q2) hk4 t i r (A2, c2) (hp.in_row ?q3) hr4 _ hQ) ?_); (case q1 => (repeat (first | exact .head _ | apply List.Mem.tail))); (case q2 => (repeat (first | exact .head _ | apply List.Mem.tail))); (case q3 => (repeat (first | exact .head _ | apply List.Mem.tail)))); rintro ⟨⟨A3, c3⟩, m3⟩ hm3)))
                  | ((with_reducible refine g_call 23 ?_); (first | (refine Ef_callN rfl rfl ent_23 (fun w hp => hrn w (hp.rd ha fun _ => List.not_mem_nil)) ?_; rintro ⟨A4, c4⟩)))
                  | ((with_reducible refine g_call 21 ?_); (first | (((refine' Ef_callN rfl rfl ent_21 (fun w hp => from_q A3 c3 m3 w hm3 (hp.rowOf ?q1) hql2) ?_); (case q1 => (repeat (first | exact .head _ | apply List.Mem.tail)))); rintro ⟨A6, c6⟩) | (((refine' Ef_callN rfl rfl ent_21 (fun w hp => from_q A1 c1 m1 w hm1 (hp.rowOf ?q1) hl2) ?_); (case q1 => (repeat (first | exact .head _ | apply List.Mem.tail)))); rintro ⟨A7, c7⟩)))
                  | ((with_reducible refine g_call 11 ?_); (first | ((refine' Ef_callP rfl rfl ent_11 (fun w hp => rsame_q A6 c6 m3 A4 c4 W w hm3 hW (hp.rowOf ?q1) (hp.rowOf ?q2) (hp.ins_bag ?q3) (hp.ins_old hWi) hql4 hqk4 _ (Rl.same_self _)) ?_); (case q1 => (repeat (first | exact .head _ | apply List.Mem.tail))); (case q2 => (repeat (first | exact .head _ | apply List.Mem.tail))); (case q3 => (repeat (first | exact .head _ | apply List.Mem.tail)))) | ((refine' Ef_callP rfl rfl ent_11 (fun w hp => rsame_q A7 c7 m1 A c l w hm1 rfl (hp.rowOf ?q1) (hp.rd ha fun _ => List.not_mem_nil) (hp.ins_bag ?q2) (hp.ins_old hia) hl4 hk4 _ (Rl.same_self _)) ?_); (case q1 => (repeat (first | exact .head _ | apply List.Mem.tail))); (case q2 => (repeat (first | exact .head _ | apply List.Mem.tail))))))
                  | ((with_reducible refine g_call 14 ?_); (first | refine Ef_callP rfl rfl ent_14 (fun w _ => awake_v w) ?_))))
                  | refine w1 ?_
                  | (refine w2 ?_ ?_ <;> intro hc)
                  | (refine w4 ?_; (first | ((fail_if_success have := b1); intro b1) | ((fail_if_success have := b2); intro b2) | intro _))
                  | (refine w5 ?_; (first | ((fail_if_success have := A1); intro A1 c1) | ((fail_if_success have := A2); intro A2 c2) | ((fail_if_success have := A3); intro A3 c3) | ((fail_if_success have := A4); intro A4 c4) | ((fail_if_success have := A5); intro A5 c5) | ((fail_if_success have := A6); intro A6 c6) | ((fail_if_success have := A7); intro A7 c7)))
                  | refine w3 ?_ ?_
                  | fail_if_success skip)
                refine loopH_n (j + 1, pre ++ (⟨y.c, y.id, ⟨y.r.err, y.r.val, zs, y.r.n, y.r.lk⟩⟩, x.2) :: post) ?_ ?_ ⟨show j + 1 ≤ _ by omega, ?_⟩ (show m3.length - (j + 1) < m3.length - j by omega)
                · (repeat (first | exact Sub.nil | refine Sub.cons rfl ?_))
                · intro w' hp
                  rw [← hzs] at hp
                  dsimp only
                  rw [List.map_append, List.map_cons]
                  exact Hp.bagBack hp
                · rw [← hms, hcut, List.map_append, List.map_append, List.map_cons, List.map_cons]
                  unfold fo
                  dsimp only
                  rw [hzs, hyl]
          · repeat' (first
              | ((with_reducible refine ie_store ?_); (first | ((refine' Ef_storeA' rfl rfl ?q1 (rE_one _ _) ?q2 ?q3 ?_); (case q1 => exact siz_of rfl); (case q2 => (first | exact at0 | exact at1 | exact at2 | exact at3 | exact at4 | exact at5 | exact at6)); (case q3 => rfl)) | ((refine' Ef_storeC (C' := (rE r (A2, c2)).toArray) rfl rfl ?q1 ?q2 ?q3 ?q4 ?q5 ?_); (case q1 => rfl); (case q2 => exact siz_of rfl); (case q3 => (first | exact at0 | exact at1 | exact at2 | exact at3 | exact at4 | exact at5 | exact at6)); (case q4 => exact Nat.le_of_ble_eq_true rfl); (case q5 => rfl)) | ((refine' Ef_store_row1 rfl rfl ?q1 ?q2 ?q3 ?q4 (kE_set zs k _) ?_); (case q1 => rfl); (case q2 => exact siz_of rfl); (case q3 => (first | exact at0 | exact at1 | exact at2 | exact at3 | exact at4 | exact at5 | exact at6)); (case q4 => omega))))
              | ((with_reducible refine ie_callf ?_); (first
              | ((with_reducible refine g_call 8 ?_); (first | refine Ef_callP rfl rfl ent_8 (fun w hp => hg1 w (hp.rd ha fun _ => List.not_mem_nil)) ?_))
              | ((with_reducible refine g_call 10 ?_); (first | (refine Ef_callNX rfl rfl ent_10 (fun w hp => to1 w (hp.rd ha fun _ => List.not_mem_nil) (hp.ins_old hia)) ?_; rintro ⟨⟨A1, c1⟩, m1⟩ hm1)))
              | ((with_reducible refine g_call 22 ?_); (first | (((refine' Ef_callNX rfl rfl ent_22 (fun w hp => note_q A1 c1 m1 w hm1 (hp.rowOf ?q1) hl2 (hp.ins_bag ?q2) hk4 t i r (A2, c2) (hp.in_row ?q3) hr4 _ hQ) ?_); (case q1 => (repeat (first | exact .head _ | apply List.Mem.tail))); (case q2 => (repeat (first | exact .head _ | apply List.Mem.tail))); (case q3 => (repeat (first | exact .head _ | apply List.Mem.tail)))); rintro ⟨⟨A3, c3⟩, m3⟩ hm3)))
              | ((with_reducible refine g_call 23 ?_); (first | (refine Ef_callN rfl rfl ent_23 (fun w hp => hrn w (hp.rd ha fun _ => List.not_mem_nil)) ?_; rintro ⟨A4, c4⟩)))
              | ((with_reducible refine g_call 21 ?_); (first | (((refine' Ef_callN rfl rfl ent_21 (fun w hp => from_q A3 c3 m3 w hm3 (hp.rowOf ?q1) hql2) ?_); (case q1 => (repeat (first | exact .head _ | apply List.Mem.tail)))); rintro ⟨A6, c6⟩) | (((refine' Ef_callN rfl rfl ent_21 (fun w hp => from_q A1 c1 m1 w hm1 (hp.rowOf ?q1) hl2) ?_); (case q1 => (repeat (first | exact .head _ | apply List.Mem.tail)))); rintro ⟨A7, c7⟩)))
              | ((with_reducible refine g_call 11 ?_); (first | ((refine' Ef_callP rfl rfl ent_11 (fun w hp => rsame_q A6 c6 m3 A4 c4 W w hm3 hW (hp.rowOf ?q1) (hp.rowOf ?q2) (hp.ins_bag ?q3) (hp.ins_old hWi) hql4 hqk4 _ (Rl.same_self _)) ?_); (case q1 => (repeat (first | exact .head _ | apply List.Mem.tail))); (case q2 => (repeat (first | exact .head _ | apply List.Mem.tail))); (case q3 => (repeat (first | exact .head _ | apply List.Mem.tail)))) | ((refine' Ef_callP rfl rfl ent_11 (fun w hp => rsame_q A7 c7 m1 A c l w hm1 rfl (hp.rowOf ?q1) (hp.rd ha fun _ => List.not_mem_nil) (hp.ins_bag ?q2) (hp.ins_old hia) hl4 hk4 _ (Rl.same_self _)) ?_); (case q1 => (repeat (first | exact .head _ | apply List.Mem.tail))); (case q2 => (repeat (first | exact .head _ | apply List.Mem.tail))))))
              | ((with_reducible refine g_call 14 ?_); (first | refine Ef_callP rfl rfl ent_14 (fun w _ => awake_v w) ?_))))
              | refine w1 ?_
              | (refine w2 ?_ ?_ <;> intro hc)
              | (refine w4 ?_; (first | ((fail_if_success have := b1); intro b1) | ((fail_if_success have := b2); intro b2) | intro _))
              | (refine w5 ?_; (first | ((fail_if_success have := A1); intro A1 c1) | ((fail_if_success have := A2); intro A2 c2) | ((fail_if_success have := A3); intro A3 c3) | ((fail_if_success have := A4); intro A4 c4) | ((fail_if_success have := A5); intro A5 c5) | ((fail_if_success have := A6); intro A6 c6) | ((fail_if_success have := A7); intro A7 c7)))
              | refine w3 ?_ ?_
              | fail_if_success skip)
            exact ret_n [] (res1 rfl rfl) (List.nil_sublist _) ⟨rfl, rfl⟩
  · rw [h1] at hg1
    refine Sp.enter (n := 103) Try.func5 rfl rfl rfl (Hp.refl w) ?_
    repeat' (first
        | ((with_reducible refine ie_store ?_); (first | ((refine' Ef_storeA' rfl rfl ?q1 (rE_one _ _) ?q2 ?q3 ?_); (case q1 => exact siz_of rfl); (case q2 => (first | exact at0 | exact at1 | exact at2 | exact at3 | exact at4 | exact at5 | exact at6)); (case q3 => rfl)) | ((refine' Ef_storeC (C' := (rE r (A2, c2)).toArray) rfl rfl ?q1 ?q2 ?q3 ?q4 ?q5 ?_); (case q1 => rfl); (case q2 => exact siz_of rfl); (case q3 => (first | exact at0 | exact at1 | exact at2 | exact at3 | exact at4 | exact at5 | exact at6)); (case q4 => exact Nat.le_of_ble_eq_true rfl); (case q5 => rfl)) | ((refine' Ef_store_row1 rfl rfl ?q1 ?q2 ?q3 ?q4 (kE_set zs k _) ?_); (case q1 => rfl); (case q2 => exact siz_of rfl); (case q3 => (first | exact at0 | exact at1 | exact at2 | exact at3 | exact at4 | exact at5 | exact at6)); (case q4 => omega))))
        | ((with_reducible refine ie_callf ?_); (first
        | ((with_reducible refine g_call 8 ?_); (first | refine Ef_callP rfl rfl ent_8 (fun w hp => hg1 w (hp.rd ha fun _ => List.not_mem_nil)) ?_))
        | ((with_reducible refine g_call 10 ?_); (first | (refine Ef_callNX rfl rfl ent_10 (fun w hp => to1 w (hp.rd ha fun _ => List.not_mem_nil) (hp.ins_old hia)) ?_; rintro ⟨⟨A1, c1⟩, m1⟩ hm1)))
        | ((with_reducible refine g_call 22 ?_); (first | (((refine' Ef_callNX rfl rfl ent_22 (fun w hp => note_q A1 c1 m1 w hm1 (hp.rowOf ?q1) hl2 (hp.ins_bag ?q2) hk4 t i r (A2, c2) (hp.in_row ?q3) hr4 _ hQ) ?_); (case q1 => (repeat (first | exact .head _ | apply List.Mem.tail))); (case q2 => (repeat (first | exact .head _ | apply List.Mem.tail))); (case q3 => (repeat (first | exact .head _ | apply List.Mem.tail)))); rintro ⟨⟨A3, c3⟩, m3⟩ hm3)))
        | ((with_reducible refine g_call 23 ?_); (first | (refine Ef_callN rfl rfl ent_23 (fun w hp => hrn w (hp.rd ha fun _ => List.not_mem_nil)) ?_; rintro ⟨A4, c4⟩)))
        | ((with_reducible refine g_call 21 ?_); (first | (((refine' Ef_callN rfl rfl ent_21 (fun w hp => from_q A3 c3 m3 w hm3 (hp.rowOf ?q1) hql2) ?_); (case q1 => (repeat (first | exact .head _ | apply List.Mem.tail)))); rintro ⟨A6, c6⟩) | (((refine' Ef_callN rfl rfl ent_21 (fun w hp => from_q A1 c1 m1 w hm1 (hp.rowOf ?q1) hl2) ?_); (case q1 => (repeat (first | exact .head _ | apply List.Mem.tail)))); rintro ⟨A7, c7⟩)))
        | ((with_reducible refine g_call 11 ?_); (first | ((refine' Ef_callP rfl rfl ent_11 (fun w hp => rsame_q A6 c6 m3 A4 c4 W w hm3 hW (hp.rowOf ?q1) (hp.rowOf ?q2) (hp.ins_bag ?q3) (hp.ins_old hWi) hql4 hqk4 _ (Rl.same_self _)) ?_); (case q1 => (repeat (first | exact .head _ | apply List.Mem.tail))); (case q2 => (repeat (first | exact .head _ | apply List.Mem.tail))); (case q3 => (repeat (first | exact .head _ | apply List.Mem.tail)))) | ((refine' Ef_callP rfl rfl ent_11 (fun w hp => rsame_q A7 c7 m1 A c l w hm1 rfl (hp.rowOf ?q1) (hp.rd ha fun _ => List.not_mem_nil) (hp.ins_bag ?q2) (hp.ins_old hia) hl4 hk4 _ (Rl.same_self _)) ?_); (case q1 => (repeat (first | exact .head _ | apply List.Mem.tail))); (case q2 => (repeat (first | exact .head _ | apply List.Mem.tail))))))
        | ((with_reducible refine g_call 14 ?_); (first | refine Ef_callP rfl rfl ent_14 (fun w _ => awake_v w) ?_))))
        | refine w1 ?_
        | (refine w2 ?_ ?_ <;> intro hc)
        | (refine w4 ?_; (first | ((fail_if_success have := b1); intro b1) | ((fail_if_success have := b2); intro b2) | intro _))
        | (refine w5 ?_; (first | ((fail_if_success have := A1); intro A1 c1) | ((fail_if_success have := A2); intro A2 c2) | ((fail_if_success have := A3); intro A3 c3) | ((fail_if_success have := A4); intro A4 c4) | ((fail_if_success have := A5); intro A5 c5) | ((fail_if_success have := A6); intro A6 c6) | ((fail_if_success have := A7); intro A7 c7)))
        | refine w3 ?_ ?_
        | fail_if_success skip)
    exact ret_n [] (res1 rfl rfl) (List.nil_sublist _) ⟨rfl, rfl⟩
end
end Go.Proofs.Ythiacfpfgdoliaa
