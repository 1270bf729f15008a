/- slices.Insert of one client: what a call of it comes to: for every table that is owned, every place. -/
import Derived.Test.YthiacfpfgdoliaaT6
namespace Go.Proofs.Ythiacfpfgdoliaa
open Go.RowKit
set_option maxRecDepth 20000

theorem g_dst {P : Program} {n : Nat} {w0 : World} {R : List Nat} {L : List (Nat × Value)} {M : List Asrt} {op : Op} {ty : TypeId} {K : List (Nat × Value) → List Asrt → Prop} (d : Nat) (h : Ef P n w0 R (some d) op ty L M K) : Ef P n w0 R (some d) op ty L M K := h
theorem ov_name : (Try.f36.name == "runtime.NumGoroutine") = false := by kernel_rfl
theorem ov_body : Try.f36.body.isNone = true := by kernel_rfl
theorem ov_next : Extern.findNext Try.f36 = none := by kernel_rfl
theorem ov_find : Extern.find Try.f36 = some (Extern.SlicesOverlaps.overlaps #[33, 33] #[4]) := by kernel_rfl

def insM (l : List Me) (i : Nat) (x : Me) : List Me := l.take i ++ x :: l.drop i
theorem insM_len (l : List Me) (i : Nat) (x : Me) (h : i ≤ l.length) : (insM l i x).length = l.length + 1 := by
  unfold insM
  rw [List.length_append, List.length_cons, List.length_take, List.length_drop]; omega

section
variable (A : Option Addr) (cap : Nat) (l : List Me) (B : Option Addr) (capv : Nat) (x : Me) (i : Nat) (w : World) (R : List Nat) (hi : i ≤ l.length) (h64 : l.length ≤ 300) (hp : Hp w R [.row 55 77 (.slice B 1 capv) 1 (mE x), rM l (A, cap)] w)
include hi h64 hp
set_option maxHeartbeats 4000000 in
theorem ins_c : Sp Try.prog 33 [.slice A l.length cap, .int .i64 (i : Int), .slice B 1 capv] w R fun v N => ∃ z : Option Addr × Nat, v = .slice z.1 (insM l i x).length z.2 ∧ N = [rM (insM l i x) z] := by
  have hcap : l.length ≤ cap := hp.capOf (e := 55) (k := 77) (xs := l.flatMap mE) (.tail _ (.head _))
  have hlen := insM_len l i x hi
  have oL := one_flat mE_one l
  have oX := mE_one x
  by_cases hin : i = l.length
  · have e1 : insM l i x = l ++ [x] := by unfold insM; rw [hin, List.take_length, List.drop_length]
    refine Sp.enter (n := 95) Try.func33 rfl rfl rfl hp ?_
    repeat' (first
        | ((with_reducible refine ie_callf ?_); (first | ((with_reducible refine g_call 36 ?_); (first | ((refine' Ef_overlaps (i := 0) (j := 1) (d2 := i + 1) (k2 := 77) (el := 55) (A := B) (B := A) (m1 := 1) (m2 := l.length + 1) rfl rfl Try.func36 ov_name ov_body ov_next ov_find (und_of rfl) (siz_of rfl) rfl rfl ?q1 ?q2 (Nat.succ_pos _) ?q3 ?_); (case q1 => decide); (case q2 => decide); (case q3 => decide))))))
        | (first
        | ((refine' Ef_cap rfl rfl ?q1 ?_); (case q1 => exact und_of rfl))
        | ((((refine' Ef_appZ (q := l.length + 1 - i) rfl rfl rfl ?q1 ?q2 ?q3 (fun w hp => (hp.rowOf ?q4).upto mE_len ?q5) ?q6 ?q7 ?q8 ?q9 ?q10 ?_); (case q1 => omega); (case q2 => exact app_of rfl); (case q3 => exact und_of rfl); (case q4 => (repeat (first | exact .head _ | apply List.Mem.tail))); (case q5 => omega); (case q6 => omega); (case q7 => omega); (case q8 => omega); (case q9 => omega); (case q10 => omega))); intro bz cz zz hzl hzc; rw [hiq] at hzc ⊢)
        | ((with_reducible refine g_dst 45 ?_); ((refine' Ef_copy (i := 0) (d0 := i) (q := 1) (A := some ⟨bz, 0, none⟩) (A2 := B) (m := l.length + 1) (k := 77) (news := mE x) rfl rfl rfl ?q1 ?q2 rfl (fun w hp => hp.rowOf ?q3) (mE_one x) ?q4 ?q5 (c1 zz hzl) ?_); (case q1 => exact und_of rfl); (case q2 => exact siz_of rfl); (case q3 => (repeat (first | exact .head _ | apply List.Mem.tail))); (case q4 => omega); (case q5 => omega)))
        | ((with_reducible refine g_dst 54 ?_); ((refine' Ef_copy (i := 0) (d0 := i + 1) (q := l.length - i) (A := some ⟨bz, 0, none⟩) (A2 := subA A cap i 77) (m := l.length + 1) (k := 77) (news := (l.drop i).flatMap mE) rfl rfl rfl ?q1 ?q2 rfl (fun w hp => (hp.rowOf (A := A) (m := l.length) ?q3).from_ mE_len rfl hi hcap) o2 ?q4 ?q5 (c2 zz hzl) ?_); (case q1 => exact und_of rfl); (case q2 => exact siz_of rfl); (case q3 => (repeat (first | exact .head _ | apply List.Mem.tail))); (case q4 => omega); (case q5 => omega)))
        | ((with_reducible refine g_dst 77 ?_); ((refine' Ef_copy (i := 1) (d0 := i + 1) (q := l.length - i) (A := A) (A2 := subA A cap i 77) (m := l.length + 1) (k := 77) (news := ((l.flatMap mE ++ ys).drop (i * 77)).take ((l.length + 1 - i) * 77)) rfl rfl rfl ?q1 ?q2 rfl (fun w hp => (hp.rowOf (A := A) (m := l.length + 1) ?q3).part (l := i) (m := l.length + 1 - i) hi3 (.inl hroom)) o3 ?q4 ?q5 c3 ?_); (case q1 => exact und_of rfl); (case q2 => exact siz_of rfl); (case q3 => (repeat (first | exact .head _ | apply List.Mem.tail))); (case q4 => omega); (case q5 => omega)))
        | ((with_reducible refine g_dst 82 ?_); ((refine' Ef_copy (i := 1) (d0 := i) (q := 1) (A := A) (A2 := B) (m := l.length + 1) (k := 77) (news := mE x) rfl rfl rfl ?q1 ?q2 rfl (fun w hp => hp.rowOf ?q3) (mE_one x) ?q4 ?q5 c4 ?_); (case q1 => exact und_of rfl); (case q2 => exact siz_of rfl); (case q3 => (repeat (first | exact .head _ | apply List.Mem.tail))); (case q4 => omega); (case q5 => omega))))
        | ((with_reducible refine g_draw ?_); (first | (((with_reducible refine' T.draw0 (id := 11) [(0, true), (1, true), (2, true), (3, true), (4, true), (5, true), (6, false), (7, false), (8, false)] mixd ?q1 ?_); (case q1 => kernel_rfl))) | (((with_reducible refine' T.draw0 (id := 15) [(0, true), (1, true), (2, true), (3, true), (4, true), (5, true), (6, false), (7, false), (8, false)] mixd ?q1 ?_); (case q1 => kernel_rfl)))))
        | refine w1 ?_
        | (refine w2 ?_ ?_ <;> intro hc)
        | (first | ((refine' ⟨_, Yl_sl_l (l := i + 1) rfl rfl ?q1 ?q2 ?q3, ?_⟩); (case q1 => exact und_of rfl); (case q2 => exact siz_of rfl); (case q3 => omega)))
        | (refine w4 ?_; (intro _))
        | (refine w5 ?_; (first | ((fail_if_success have := A1); intro A1 c1) | ((fail_if_success have := A2); intro A2 c2) | ((fail_if_success have := A3); intro A3 c3) | ((fail_if_success have := A4); intro A4 c4) | intro _ _))
        | refine w3 ?_ ?_
        | fail_if_success skip)
    refine ret_n [rM (insM l i x) (A1, c1)] (res1 rfl rfl) ?_ ⟨(A1, c1), by rw [hlen], rfl⟩
    unfold rM
    rw [hlen, e1, List.flatMap_append]
    refine List.Sublist.cons _ ?_
    simp
  have hti : (l.take i).length = i := by rw [List.length_take]; omega
  by_cases hroom : l.length + 1 ≤ cap
  · refine Sp.enter (n := 95) Try.func33 rfl rfl rfl hp ?_
    refine T.rowExt (m' := l.length + 1) 1 rfl (by omega) hroom ?_
    intro ys hys
    have hi3 : i + (l.length + 1 - i) ≤ l.length + 1 := by omega
    have hys3 : ys.length = 1 * 77 := by rw [hys]; congr 1; omega
    have n3 : (((l.flatMap mE ++ ys).drop (i * 77)).take ((l.length + 1 - i) * 77)).take ((l.length - i) * 77) = (l.drop i).flatMap mE := by
      have hll := flat_length mE_len l
      have h3 : i * 77 ≤ l.length * 77 := Nat.mul_le_mul_right _ hi
      rw [List.take_take, Nat.min_eq_left (Nat.mul_le_mul_right _ (by omega)), List.drop_append_of_le_length (by rw [hll]; exact h3), flat_drop mE_len,
        List.take_append_of_le_length (by rw [flat_length mE_len, List.length_drop]; exact Nat.le_refl _), List.take_of_length_le (by rw [flat_length mE_len, List.length_drop]; exact Nat.le_refl _)]
    have o3 : ∀ u ∈ (((l.flatMap mE ++ ys).drop (i * 77)).take ((l.length + 1 - i) * 77)).take ((l.length - i) * 77), u.oneCell' = true := by rw [n3]; exact one_flat mE_one _
    have c3 : setAll (l.flatMap mE ++ ys) ((i + 1) * 77) ((((l.flatMap mE ++ ys).drop (i * 77)).take ((l.length + 1 - i) * 77)).take ((l.length - i) * 77)) = (l.take (i + 1) ++ l.drop i).flatMap mE := by
      rw [n3]
      exact setAll_data mE_len l (l.drop i) ys (i + 1) 1 hys3 (by omega) (by rw [List.length_drop]; omega)
    have c4 : setAll ((l.take (i + 1) ++ l.drop i).flatMap mE) (i * 77) ((mE x).take (1 * 77)) = (insM l i x).flatMap mE := by
      have h1 := setAll_in mE_len (l.take (i + 1) ++ l.drop i) [x] i (by simp; omega)
      rw [show ([x] : List Me).flatMap mE = (mE x).take (1 * 77) by rw [List.take_of_length_le (Nat.le_of_eq (mE_len x))]; simp] at h1
      rw [h1]
      refine congrArg (List.flatMap mE) ?_
      have ht1 : (l.take (i + 1)).length = i + 1 := by rw [List.length_take]; omega
      unfold insM
      rw [List.take_append_of_le_length (by omega), List.take_take, Nat.min_eq_left (by omega), List.length_singleton, List.drop_append_of_le_length (by omega), List.drop_of_length_le (by omega)]
      simp
    repeat' (first
        | ((with_reducible refine ie_callf ?_); (first | ((with_reducible refine g_call 36 ?_); (first | ((refine' Ef_overlaps (i := 0) (j := 1) (d2 := i + 1) (k2 := 77) (el := 55) (A := B) (B := A) (m1 := 1) (m2 := l.length + 1) rfl rfl Try.func36 ov_name ov_body ov_next ov_find (und_of rfl) (siz_of rfl) rfl rfl ?q1 ?q2 (Nat.succ_pos _) ?q3 ?_); (case q1 => decide); (case q2 => decide); (case q3 => decide))))))
        | (first
        | ((refine' Ef_cap rfl rfl ?q1 ?_); (case q1 => exact und_of rfl))
        | ((((refine' Ef_appZ (q := l.length + 1 - i) rfl rfl rfl ?q1 ?q2 ?q3 (fun w hp => (hp.rowOf ?q4).upto mE_len ?q5) ?q6 ?q7 ?q8 ?q9 ?q10 ?_); (case q1 => omega); (case q2 => exact app_of rfl); (case q3 => exact und_of rfl); (case q4 => (repeat (first | exact .head _ | apply List.Mem.tail))); (case q5 => omega); (case q6 => omega); (case q7 => omega); (case q8 => omega); (case q9 => omega); (case q10 => omega))); intro bz cz zz hzl hzc; rw [hiq] at hzc ⊢)
        | ((with_reducible refine g_dst 45 ?_); ((refine' Ef_copy (i := 0) (d0 := i) (q := 1) (A := some ⟨bz, 0, none⟩) (A2 := B) (m := l.length + 1) (k := 77) (news := mE x) rfl rfl rfl ?q1 ?q2 rfl (fun w hp => hp.rowOf ?q3) (mE_one x) ?q4 ?q5 (c1 zz hzl) ?_); (case q1 => exact und_of rfl); (case q2 => exact siz_of rfl); (case q3 => (repeat (first | exact .head _ | apply List.Mem.tail))); (case q4 => omega); (case q5 => omega)))
        | ((with_reducible refine g_dst 54 ?_); ((refine' Ef_copy (i := 0) (d0 := i + 1) (q := l.length - i) (A := some ⟨bz, 0, none⟩) (A2 := subA A cap i 77) (m := l.length + 1) (k := 77) (news := (l.drop i).flatMap mE) rfl rfl rfl ?q1 ?q2 rfl (fun w hp => (hp.rowOf (A := A) (m := l.length) ?q3).from_ mE_len rfl hi hcap) o2 ?q4 ?q5 (c2 zz hzl) ?_); (case q1 => exact und_of rfl); (case q2 => exact siz_of rfl); (case q3 => (repeat (first | exact .head _ | apply List.Mem.tail))); (case q4 => omega); (case q5 => omega)))
        | ((with_reducible refine g_dst 77 ?_); ((refine' Ef_copy (i := 1) (d0 := i + 1) (q := l.length - i) (A := A) (A2 := subA A cap i 77) (m := l.length + 1) (k := 77) (news := ((l.flatMap mE ++ ys).drop (i * 77)).take ((l.length + 1 - i) * 77)) rfl rfl rfl ?q1 ?q2 rfl (fun w hp => (hp.rowOf (A := A) (m := l.length + 1) ?q3).part (l := i) (m := l.length + 1 - i) hi3 (.inl hroom)) o3 ?q4 ?q5 c3 ?_); (case q1 => exact und_of rfl); (case q2 => exact siz_of rfl); (case q3 => (repeat (first | exact .head _ | apply List.Mem.tail))); (case q4 => omega); (case q5 => omega)))
        | ((with_reducible refine g_dst 82 ?_); ((refine' Ef_copy (i := 1) (d0 := i) (q := 1) (A := A) (A2 := B) (m := l.length + 1) (k := 77) (news := mE x) rfl rfl rfl ?q1 ?q2 rfl (fun w hp => hp.rowOf ?q3) (mE_one x) ?q4 ?q5 c4 ?_); (case q1 => exact und_of rfl); (case q2 => exact siz_of rfl); (case q3 => (repeat (first | exact .head _ | apply List.Mem.tail))); (case q4 => omega); (case q5 => omega))))
        | ((with_reducible refine g_draw ?_); (first | (((with_reducible refine' T.draw0 (id := 11) [(0, true), (1, true), (2, true), (3, true), (4, true), (5, true), (6, false), (7, false), (8, false)] mixd ?q1 ?_); (case q1 => kernel_rfl))) | (((with_reducible refine' T.draw0 (id := 15) [(0, true), (1, true), (2, true), (3, true), (4, true), (5, true), (6, false), (7, false), (8, false)] mixd ?q1 ?_); (case q1 => kernel_rfl)))))
        | refine w1 ?_
        | (refine w2 ?_ ?_ <;> intro hc)
        | (first | ((refine' ⟨_, Yl_sl_l (l := i + 1) rfl rfl ?q1 ?q2 ?q3, ?_⟩); (case q1 => exact und_of rfl); (case q2 => exact siz_of rfl); (case q3 => omega)))
        | (refine w4 ?_; (intro _))
        | (refine w5 ?_; (first | ((fail_if_success have := A1); intro A1 c1) | ((fail_if_success have := A2); intro A2 c2) | ((fail_if_success have := A3); intro A3 c3) | ((fail_if_success have := A4); intro A4 c4) | intro _ _))
        | refine w3 ?_ ?_
        | fail_if_success skip)
    refine ret_n [rM (insM l i x) (A, cap)] (res1 rfl rfl) ?_ ⟨(A, cap), by rw [hlen], rfl⟩
    unfold rM
    rw [hlen]
    refine List.Sublist.cons _ ?_
    exact List.Sublist.refl _
  · have hiq : i + (l.length + 1 - i) = l.length + 1 := by omega
    have c1 : ∀ zz : List Value, zz.length = (l.length + 1 - i) * 77 → setAll ((l.take i).flatMap mE ++ zz) (i * 77) ((mE x).take (1 * 77)) = (l.take i ++ [x]).flatMap mE ++ zz.drop (1 * 77) := fun zz hz => by
      have h1 := setAll_end mE_len (l.take i) [x] zz (l.length + 1 - i) hz (by simp; omega)
      rw [hti, show ([x] : List Me).flatMap mE = (mE x).take (1 * 77) by rw [List.take_of_length_le (Nat.le_of_eq (mE_len x))]; simp] at h1
      exact h1
    have n2 : ((l.drop i).flatMap mE).take ((l.length - i) * 77) = (l.drop i).flatMap mE := List.take_of_length_le (by rw [flat_length mE_len, List.length_drop]; exact Nat.le_refl _)
    have o2 : ∀ u ∈ ((l.drop i).flatMap mE).take ((l.length - i) * 77), u.oneCell' = true := by rw [n2]; exact one_flat mE_one _
    have c2 : ∀ zz : List Value, zz.length = (l.length + 1 - i) * 77 → setAll ((l.take i ++ [x]).flatMap mE ++ zz.drop (1 * 77)) ((i + 1) * 77) (((l.drop i).flatMap mE).take ((l.length - i) * 77)) = (insM l i x).flatMap mE := fun zz hz => by
      have h1 := setAll_data mE_len (l.take i ++ [x]) (l.drop i) (zz.drop (1 * 77)) (i + 1) (l.length - i) (by rw [List.length_drop, hz]; omega) (by simp; omega) (by simp; omega)
      rw [n2, h1]
      refine congrArg (List.flatMap mE) ?_
      unfold insM
      rw [List.take_of_length_le (by simp; omega)]
      simp
    refine Sp.enter (n := 95) Try.func33 rfl rfl rfl hp ?_
    repeat' (first
        | ((with_reducible refine ie_callf ?_); (first | ((with_reducible refine g_call 36 ?_); (first | ((refine' Ef_overlaps (i := 0) (j := 1) (d2 := i + 1) (k2 := 77) (el := 55) (A := B) (B := A) (m1 := 1) (m2 := l.length + 1) rfl rfl Try.func36 ov_name ov_body ov_next ov_find (und_of rfl) (siz_of rfl) rfl rfl ?q1 ?q2 (Nat.succ_pos _) ?q3 ?_); (case q1 => decide); (case q2 => decide); (case q3 => decide))))))
        | (first
        | ((refine' Ef_cap rfl rfl ?q1 ?_); (case q1 => exact und_of rfl))
        | ((((refine' Ef_appZ (q := l.length + 1 - i) rfl rfl rfl ?q1 ?q2 ?q3 (fun w hp => (hp.rowOf ?q4).upto mE_len ?q5) ?q6 ?q7 ?q8 ?q9 ?q10 ?_); (case q1 => omega); (case q2 => exact app_of rfl); (case q3 => exact und_of rfl); (case q4 => (repeat (first | exact .head _ | apply List.Mem.tail))); (case q5 => omega); (case q6 => omega); (case q7 => omega); (case q8 => omega); (case q9 => omega); (case q10 => omega))); intro bz cz zz hzl hzc; rw [hiq] at hzc ⊢)
        | ((with_reducible refine g_dst 45 ?_); ((refine' Ef_copy (i := 0) (d0 := i) (q := 1) (A := some ⟨bz, 0, none⟩) (A2 := B) (m := l.length + 1) (k := 77) (news := mE x) rfl rfl rfl ?q1 ?q2 rfl (fun w hp => hp.rowOf ?q3) (mE_one x) ?q4 ?q5 (c1 zz hzl) ?_); (case q1 => exact und_of rfl); (case q2 => exact siz_of rfl); (case q3 => (repeat (first | exact .head _ | apply List.Mem.tail))); (case q4 => omega); (case q5 => omega)))
        | ((with_reducible refine g_dst 54 ?_); ((refine' Ef_copy (i := 0) (d0 := i + 1) (q := l.length - i) (A := some ⟨bz, 0, none⟩) (A2 := subA A cap i 77) (m := l.length + 1) (k := 77) (news := (l.drop i).flatMap mE) rfl rfl rfl ?q1 ?q2 rfl (fun w hp => (hp.rowOf (A := A) (m := l.length) ?q3).from_ mE_len rfl hi hcap) o2 ?q4 ?q5 (c2 zz hzl) ?_); (case q1 => exact und_of rfl); (case q2 => exact siz_of rfl); (case q3 => (repeat (first | exact .head _ | apply List.Mem.tail))); (case q4 => omega); (case q5 => omega)))
        | ((with_reducible refine g_dst 77 ?_); ((refine' Ef_copy (i := 1) (d0 := i + 1) (q := l.length - i) (A := A) (A2 := subA A cap i 77) (m := l.length + 1) (k := 77) (news := ((l.flatMap mE ++ ys).drop (i * 77)).take ((l.length + 1 - i) * 77)) rfl rfl rfl ?q1 ?q2 rfl (fun w hp => (hp.rowOf (A := A) (m := l.length + 1) ?q3).part (l := i) (m := l.length + 1 - i) hi3 (.inl hroom)) o3 ?q4 ?q5 c3 ?_); (case q1 => exact und_of rfl); (case q2 => exact siz_of rfl); (case q3 => (repeat (first | exact .head _ | apply List.Mem.tail))); (case q4 => omega); (case q5 => omega)))
        | ((with_reducible refine g_dst 82 ?_); ((refine' Ef_copy (i := 1) (d0 := i) (q := 1) (A := A) (A2 := B) (m := l.length + 1) (k := 77) (news := mE x) rfl rfl rfl ?q1 ?q2 rfl (fun w hp => hp.rowOf ?q3) (mE_one x) ?q4 ?q5 c4 ?_); (case q1 => exact und_of rfl); (case q2 => exact siz_of rfl); (case q3 => (repeat (first | exact .head _ | apply List.Mem.tail))); (case q4 => omega); (case q5 => omega))))
        | ((with_reducible refine g_draw ?_); (first | (((with_reducible refine' T.draw0 (id := 11) [(0, true), (1, true), (2, true), (3, true), (4, true), (5, true), (6, false), (7, false), (8, false)] mixd ?q1 ?_); (case q1 => kernel_rfl))) | (((with_reducible refine' T.draw0 (id := 15) [(0, true), (1, true), (2, true), (3, true), (4, true), (5, true), (6, false), (7, false), (8, false)] mixd ?q1 ?_); (case q1 => kernel_rfl)))))
        | refine w1 ?_
        | (refine w2 ?_ ?_ <;> intro hc)
        | (first | ((refine' ⟨_, Yl_sl_l (l := i + 1) rfl rfl ?q1 ?q2 ?q3, ?_⟩); (case q1 => exact und_of rfl); (case q2 => exact siz_of rfl); (case q3 => omega)))
        | (refine w4 ?_; (intro _))
        | (refine w5 ?_; (first | ((fail_if_success have := A1); intro A1 c1) | ((fail_if_success have := A2); intro A2 c2) | ((fail_if_success have := A3); intro A3 c3) | ((fail_if_success have := A4); intro A4 c4) | intro _ _))
        | refine w3 ?_ ?_
        | fail_if_success skip)
    refine ret_n [rM (insM l i x) (some ⟨bz, 0, none⟩, cz)] (res1 rfl rfl) ?_ ⟨(some ⟨bz, 0, none⟩, cz), by rw [hlen], rfl⟩
    unfold rM
    rw [hlen]
    refine List.Sublist.cons_cons _ (List.nil_sublist _)
end
end Go.Proofs.Ythiacfpfgdoliaa
