/- The law on lists, one behind the other: what a call of it comes to. -/
import Derived.Test.YtimmabejfigleaaT8
import Derived.Test.YtimmabejfigleaaKu
namespace Go.Proofs.Ytimmabejfigleaa
open Go.RowKit
set_option maxRecDepth 20000

theorem wrap_mod (i m : Int) (h0 : 0 < m) (h1 : m ≤ 100000) : IntKind.wrap .i64 (IntKind.wrap .u64 i % m) = IntKind.wrap .u64 i % m := by
  have h2 := Int.emod_nonneg (IntKind.wrap .u64 i) (Int.ne_of_gt h0)
  have h3 := Int.emod_lt_of_pos (IntKind.wrap .u64 i) h0
  generalize IntKind.wrap .u64 i % m = z at h2 h3 ⊢
  simp [IntKind.wrap, IntKind.signed, IntKind.bits]; omega

section
variable (A : Option Addr) (cap : Nat) (l : List Pr) (w : World) (hr : Rd w A l.length 2 (l.flatMap pE)) (hle : l.length ≤ 9223372036854775807)
include hr hle
set_option maxHeartbeats 16000000 in
theorem tells_c (k y n : Int) : Sp Try.prog 3 [.agg (sV k y (A, cap) l.length), .int .i64 n] w [] fun v N => v = .bool true ∧ N = [] := by
  have hgr := fun w => great_v A l.length cap w k y
  by_cases hbig : (l.length : Int) > 100
  · rw [decide_eq_true hbig] at hgr
    refine Sp.enter (n := 96) Try.func3 rfl rfl rfl (Hp.refl w) ?_
    repeat' (first
        | ((with_reducible refine ie_callf ?_); (first
        | ((with_reducible refine g_call 9 ?_); (first | refine Ef_callP rfl rfl ent_9 (fun w _ => hgr w) ?_))
        | ((with_reducible refine g_call 11 ?_); (first | (((refine' Ef_callN rfl rfl ent_11 (fun w hp => to_c A l.length cap l w (hp.rd hr fun _ => List.not_mem_nil) rfl ?q1 k y) ?_); (case q1 => omega)); (first | ((fail_if_success have := A1); rintro ⟨A1, c1⟩) | ((fail_if_success have := A2); rintro ⟨A2, c2⟩) | rintro ⟨_, _⟩))))
        | ((with_reducible refine g_call 13 ?_); (first | (((refine' Ef_callN rfl rfl ent_13 (fun w hp => hls w (rT_rd (hp.rowOf ?q1)) (hp.capOf (A := A1) (m := l.length + 1) (cap := c1) ?q2)) ?_); (case q1 => (repeat (first | exact .head _ | apply List.Mem.tail))); (case q2 => (repeat (first | exact .head _ | apply List.Mem.tail)))); (first | ((fail_if_success have := A1); rintro ⟨A1, c1⟩) | ((fail_if_success have := A2); rintro ⟨A2, c2⟩) | rintro ⟨_, _⟩))))
        | ((with_reducible refine g_call 12 ?_); (first | ((refine' Ef_callP rfl rfl ent_12 (fun w hp => hus A1 c1 w (rT_rd (hp.rowOf ?q1))) ?_); (case q1 => (repeat (first | exact .head _ | apply List.Mem.tail))))))
        | ((with_reducible refine g_call 14 ?_); (first | ((refine' Ef_callP rfl rfl ent_14 (fun w hp => hge w (rT_rd (hp.rowOf ?q1))) ?_); (case q1 => (repeat (first | exact .head _ | apply List.Mem.tail))))))
        | ((with_reducible refine g_call 10 ?_); (first | refine Ef_callP rfl rfl ent_10 (fun w _ => awake_c w) ?_))))
        | ((with_reducible refine g_draw ?_); (first | (((with_reducible refine' T.drawM (id := 14) [(0, true), (1, true), (2, false), (3, false), (4, false), (5, false), (6, false), (7, true), (8, true), (9, false), (10, false)] mixd ?q1 ?_); (case q1 => kernel_rfl)))))
        | refine w1 ?_
        | (refine w2 ?_ ?_ <;> intro hc)
        | (first | ((refine' ⟨_, Yl_convW (k := .i64) (k' := .u64) rfl ?q1 ?q2, ?_⟩); (case q1 => exact und_of rfl); (case q2 => exact und_of rfl)) | ((refine' ⟨_, Yl_convI (k := .u64) (k' := .i64) rfl ?q1 ?q2 (wrap_mod _ 7 ?q3 ?q4), ?_⟩); (case q1 => exact und_of rfl); (case q2 => exact und_of rfl); (case q3 => decide); (case q4 => decide)) | ((refine' ⟨_, Yl_remE rfl rfl ?q1 ?q2 rfl, ?_⟩); (case q1 => exact wrap_u64_lo _); (case q2 => decide)) | ((refine' ⟨_, Yl_addS rfl rfl ?q1, ?_⟩); (case q1 => exact hsz)))
        | (refine w4 ?_; (first | ((fail_if_success have := b1); intro b1) | ((fail_if_success have := b2); intro b2) | intro _))
        | (refine w5 ?_; (first | ((fail_if_success have := A1); intro A1 c1) | ((fail_if_success have := A2); intro A2 c2) | intro _ _))
        | refine w3 ?_ ?_
        | fail_if_success skip)
    exact ret_n [] (res1 rfl rfl) (List.nil_sublist _) ⟨rfl, rfl⟩
  rw [decide_eq_false hbig] at hgr
  obtain ⟨nn, hn1, hnn⟩ : ∃ nn : Nat, 1 ≤ nn ∧ 1 + IntKind.wrap .u64 n % 7 = (nn : Int) := by
    obtain ⟨j, hj, he⟩ := rem_nat (IntKind.wrap .u64 n) 7 (by decide)
    refine ⟨j + 1, by omega, ?_⟩
    rw [show (7 : Int) = ((7 : Nat) : Int) from rfl, he]
    omega
  have hn7 : nn ≤ 7 := by
    have := Int.emod_lt_of_pos (IntKind.wrap .u64 n) (show (0 : Int) < 7 by decide)
    omega
  have hn0 : 0 ≤ IntKind.wrap .u64 n % 7 := Int.emod_nonneg _ (by decide)
  have hus := fun A' c' w h => used_c A' l.length c' l w h rfl (by omega) k y
  have hlf := fun A' c' f w h (h2 : l.length + 1 ≤ c') => list_c A' l.length c' l w h rfl (by omega) (by omega) k y f (1 + IntKind.wrap .u64 n % 7)
  cases hb : Ks.may k y l with
  | false =>
    rw [hb, if_neg Bool.false_ne_true, if_neg Bool.false_ne_true] at hus
    have hlr : ∀ f, Ks.listR k y l f (1 + IntKind.wrap .u64 n % 7) = [] := fun f => by unfold Ks.listR; rw [hb]; rfl
    refine Sp.enter (n := 96) Try.func3 rfl rfl rfl (Hp.refl w) ?_
    repeat' (first
        | ((with_reducible refine ie_callf ?_); (first
        | ((with_reducible refine g_call 9 ?_); (first | refine Ef_callP rfl rfl ent_9 (fun w _ => hgr w) ?_))
        | ((with_reducible refine g_call 11 ?_); (first | (((refine' Ef_callN rfl rfl ent_11 (fun w hp => to_c A l.length cap l w (hp.rd hr fun _ => List.not_mem_nil) rfl ?q1 k y) ?_); (case q1 => omega)); (first | ((fail_if_success have := A1); rintro ⟨A1, c1⟩) | ((fail_if_success have := A2); rintro ⟨A2, c2⟩) | rintro ⟨_, _⟩))))
        | ((with_reducible refine g_call 13 ?_); (first | (((refine' Ef_callN rfl rfl ent_13 (fun w hp => hls w (rT_rd (hp.rowOf ?q1)) (hp.capOf (A := A1) (m := l.length + 1) (cap := c1) ?q2)) ?_); (case q1 => (repeat (first | exact .head _ | apply List.Mem.tail))); (case q2 => (repeat (first | exact .head _ | apply List.Mem.tail)))); (first | ((fail_if_success have := A1); rintro ⟨A1, c1⟩) | ((fail_if_success have := A2); rintro ⟨A2, c2⟩) | rintro ⟨_, _⟩))))
        | ((with_reducible refine g_call 12 ?_); (first | ((refine' Ef_callP rfl rfl ent_12 (fun w hp => hus A1 c1 w (rT_rd (hp.rowOf ?q1))) ?_); (case q1 => (repeat (first | exact .head _ | apply List.Mem.tail))))))
        | ((with_reducible refine g_call 14 ?_); (first | ((refine' Ef_callP rfl rfl ent_14 (fun w hp => hge w (rT_rd (hp.rowOf ?q1))) ?_); (case q1 => (repeat (first | exact .head _ | apply List.Mem.tail))))))
        | ((with_reducible refine g_call 10 ?_); (first | refine Ef_callP rfl rfl ent_10 (fun w _ => awake_c w) ?_))))
        | ((with_reducible refine g_draw ?_); (first | (((with_reducible refine' T.drawM (id := 14) [(0, true), (1, true), (2, false), (3, false), (4, false), (5, false), (6, false), (7, true), (8, true), (9, false), (10, false)] mixd ?q1 ?_); (case q1 => kernel_rfl)))))
        | refine w1 ?_
        | (refine w2 ?_ ?_ <;> intro hc)
        | (first | ((refine' ⟨_, Yl_convW (k := .i64) (k' := .u64) rfl ?q1 ?q2, ?_⟩); (case q1 => exact und_of rfl); (case q2 => exact und_of rfl)) | ((refine' ⟨_, Yl_convI (k := .u64) (k' := .i64) rfl ?q1 ?q2 (wrap_mod _ 7 ?q3 ?q4), ?_⟩); (case q1 => exact und_of rfl); (case q2 => exact und_of rfl); (case q3 => decide); (case q4 => decide)) | ((refine' ⟨_, Yl_remE rfl rfl ?q1 ?q2 rfl, ?_⟩); (case q1 => exact wrap_u64_lo _); (case q2 => decide)) | ((refine' ⟨_, Yl_addS rfl rfl ?q1, ?_⟩); (case q1 => exact hsz)))
        | (refine w4 ?_; (first | ((fail_if_success have := b1); intro b1) | ((fail_if_success have := b2); intro b2) | intro _))
        | (refine w5 ?_; (first | ((fail_if_success have := A1); intro A1 c1) | ((fail_if_success have := A2); intro A2 c2) | intro _ _))
        | refine w3 ?_ ?_
        | fail_if_success skip)
    have hls := fun w h h2 => hlf A1 c1 ⟨#[]⟩ w h h2
    rw [hlr] at hls
    refine T.part (M' := [.blk b2 (.cells (sV k y (A1, c1) l.length) 30 (0, 0)), rT l (A1, c1)]) (by (repeat (first | exact Part.nil | refine Part.p0 ?_ | refine Part.p1 ?_ | refine Part.p2 ?_ | refine Part.p3 ?_ | refine Part.p4 ?_ | refine Part.p5 ?_ | refine Part.p6 ?_))) ?_
    refine T.loop (α := Nat) (fun _ => [(1, .int .i64 (1 + IntKind.wrap .u64 n % 7)), (5, .pointer (some ⟨b2, 0, none⟩)), (6, .int .i64 0), (7, .int .i64 0), (8, .string ⟨#[]⟩), (9, .int .i64 0), (10, .int .i64 0), (11, .int .i64 0)]) (fun _ => [.blk b2 (.cells (sV k y (A1, c1) l.length) 30 (0, 0)), rT l (A1, c1)]) (fun _ => True) (fun z => z) 0 ?_ ?_ ?_ ?_
    · (repeat (first | exact Sub.nil | refine Sub.cons rfl ?_))
    · (repeat (first | exact List.nil_sublist _ | refine List.Sublist.cons_cons _ ?_ | refine List.Sublist.cons _ ?_))
    · trivial
    · rintro z _
      repeat' (first
          | ((with_reducible refine ie_callf ?_); (first
          | ((with_reducible refine g_call 9 ?_); (first | refine Ef_callP rfl rfl ent_9 (fun w _ => hgr w) ?_))
          | ((with_reducible refine g_call 11 ?_); (first | (((refine' Ef_callN rfl rfl ent_11 (fun w hp => to_c A l.length cap l w (hp.rd hr fun _ => List.not_mem_nil) rfl ?q1 k y) ?_); (case q1 => omega)); (first | ((fail_if_success have := A1); rintro ⟨A1, c1⟩) | ((fail_if_success have := A2); rintro ⟨A2, c2⟩) | rintro ⟨_, _⟩))))
          | ((with_reducible refine g_call 13 ?_); (first | (((refine' Ef_callN rfl rfl ent_13 (fun w hp => hls w (rT_rd (hp.rowOf ?q1)) (hp.capOf (A := A1) (m := l.length + 1) (cap := c1) ?q2)) ?_); (case q1 => (repeat (first | exact .head _ | apply List.Mem.tail))); (case q2 => (repeat (first | exact .head _ | apply List.Mem.tail)))); (first | ((fail_if_success have := A1); rintro ⟨A1, c1⟩) | ((fail_if_success have := A2); rintro ⟨A2, c2⟩) | rintro ⟨_, _⟩))))
          | ((with_reducible refine g_call 12 ?_); (first | ((refine' Ef_callP rfl rfl ent_12 (fun w hp => hus A1 c1 w (rT_rd (hp.rowOf ?q1))) ?_); (case q1 => (repeat (first | exact .head _ | apply List.Mem.tail))))))
          | ((with_reducible refine g_call 14 ?_); (first | ((refine' Ef_callP rfl rfl ent_14 (fun w hp => hge w (rT_rd (hp.rowOf ?q1))) ?_); (case q1 => (repeat (first | exact .head _ | apply List.Mem.tail))))))
          | ((with_reducible refine g_call 10 ?_); (first | refine Ef_callP rfl rfl ent_10 (fun w _ => awake_c w) ?_))))
          | ((with_reducible refine g_draw ?_); (first | (((with_reducible refine' T.drawM (id := 14) [(0, true), (1, true), (2, false), (3, false), (4, false), (5, false), (6, false), (7, true), (8, true), (9, false), (10, false)] mixd ?q1 ?_); (case q1 => kernel_rfl)))))
          | refine w1 ?_
          | (refine w2 ?_ ?_ <;> intro hc)
          | (first | ((refine' ⟨_, Yl_convW (k := .i64) (k' := .u64) rfl ?q1 ?q2, ?_⟩); (case q1 => exact und_of rfl); (case q2 => exact und_of rfl)) | ((refine' ⟨_, Yl_convI (k := .u64) (k' := .i64) rfl ?q1 ?q2 (wrap_mod _ 7 ?q3 ?q4), ?_⟩); (case q1 => exact und_of rfl); (case q2 => exact und_of rfl); (case q3 => decide); (case q4 => decide)) | ((refine' ⟨_, Yl_remE rfl rfl ?q1 ?q2 rfl, ?_⟩); (case q1 => exact wrap_u64_lo _); (case q2 => decide)) | ((refine' ⟨_, Yl_addS rfl rfl ?q1, ?_⟩); (case q1 => exact hsz)))
          | (refine w4 ?_; (first | ((fail_if_success have := b1); intro b1) | ((fail_if_success have := b2); intro b2) | intro _))
          | (refine w5 ?_; (first | ((fail_if_success have := A1); intro A1 c1) | ((fail_if_success have := A2); intro A2 c2) | intro _ _))
          | refine w3 ?_ ?_
          | fail_if_success skip)
      refine T.loop (α := Nat) (fun _ => [(1, .int .i64 (1 + IntKind.wrap .u64 n % 7)), (5, .pointer (some ⟨b2, 0, none⟩)), (6, .int .i64 0), (7, .int .i64 0), (9, .int .i64 0), (10, .int .i64 0), (12, .slice A2 0 c2), (13, .int .i64 0)]) (fun _ => []) (fun _ => True) (fun z => z) 0 ?_ ?_ ?_ ?_
      · (repeat (first | exact Sub.nil | refine Sub.cons rfl ?_))
      · (repeat (first | exact List.nil_sublist _ | refine List.Sublist.cons_cons _ ?_ | refine List.Sublist.cons _ ?_))
      · trivial
      · rintro z _
        repeat' (first
            | ((with_reducible refine ie_callf ?_); (first
            | ((with_reducible refine g_call 9 ?_); (first | refine Ef_callP rfl rfl ent_9 (fun w _ => hgr w) ?_))
            | ((with_reducible refine g_call 11 ?_); (first | (((refine' Ef_callN rfl rfl ent_11 (fun w hp => to_c A l.length cap l w (hp.rd hr fun _ => List.not_mem_nil) rfl ?q1 k y) ?_); (case q1 => omega)); (first | ((fail_if_success have := A1); rintro ⟨A1, c1⟩) | ((fail_if_success have := A2); rintro ⟨A2, c2⟩) | rintro ⟨_, _⟩))))
            | ((with_reducible refine g_call 13 ?_); (first | (((refine' Ef_callN rfl rfl ent_13 (fun w hp => hls w (rT_rd (hp.rowOf ?q1)) (hp.capOf (A := A1) (m := l.length + 1) (cap := c1) ?q2)) ?_); (case q1 => (repeat (first | exact .head _ | apply List.Mem.tail))); (case q2 => (repeat (first | exact .head _ | apply List.Mem.tail)))); (first | ((fail_if_success have := A1); rintro ⟨A1, c1⟩) | ((fail_if_success have := A2); rintro ⟨A2, c2⟩) | rintro ⟨_, _⟩))))
            | ((with_reducible refine g_call 12 ?_); (first | ((refine' Ef_callP rfl rfl ent_12 (fun w hp => hus A1 c1 w (rT_rd (hp.rowOf ?q1))) ?_); (case q1 => (repeat (first | exact .head _ | apply List.Mem.tail))))))
            | ((with_reducible refine g_call 14 ?_); (first | ((refine' Ef_callP rfl rfl ent_14 (fun w hp => hge w (rT_rd (hp.rowOf ?q1))) ?_); (case q1 => (repeat (first | exact .head _ | apply List.Mem.tail))))))
            | ((with_reducible refine g_call 10 ?_); (first | refine Ef_callP rfl rfl ent_10 (fun w _ => awake_c w) ?_))))
            | ((with_reducible refine g_draw ?_); (first | (((with_reducible refine' T.drawM (id := 14) [(0, true), (1, true), (2, false), (3, false), (4, false), (5, false), (6, false), (7, true), (8, true), (9, false), (10, false)] mixd ?q1 ?_); (case q1 => kernel_rfl)))))
            | refine w1 ?_
            | (refine w2 ?_ ?_ <;> intro hc)
            | (first | ((refine' ⟨_, Yl_convW (k := .i64) (k' := .u64) rfl ?q1 ?q2, ?_⟩); (case q1 => exact und_of rfl); (case q2 => exact und_of rfl)) | ((refine' ⟨_, Yl_convI (k := .u64) (k' := .i64) rfl ?q1 ?q2 (wrap_mod _ 7 ?q3 ?q4), ?_⟩); (case q1 => exact und_of rfl); (case q2 => exact und_of rfl); (case q3 => decide); (case q4 => decide)) | ((refine' ⟨_, Yl_remE rfl rfl ?q1 ?q2 rfl, ?_⟩); (case q1 => exact wrap_u64_lo _); (case q2 => decide)) | ((refine' ⟨_, Yl_addS rfl rfl ?q1, ?_⟩); (case q1 => exact hsz)))
            | (refine w4 ?_; (first | ((fail_if_success have := b1); intro b1) | ((fail_if_success have := b2); intro b2) | intro _))
            | (refine w5 ?_; (first | ((fail_if_success have := A1); intro A1 c1) | ((fail_if_success have := A2); intro A2 c2) | intro _ _))
            | refine w3 ?_ ?_
            | fail_if_success skip)
        exact ret_n [] (res1 rfl rfl) (List.nil_sublist _) ⟨rfl, rfl⟩
  | true =>
    rw [hb, if_pos rfl, if_pos rfl] at hus
    have hm := (Ks.may_iff _ _ _).1 hb
    have hml := Ks.may_len hm
    have hmc := hm.c
    have hmy := hm.y1
    have hlr : ∀ i, i ≤ l.length → Ks.listR k y l (Ks.fr l i) (1 + IntKind.wrap .u64 n % 7) = ((l.drop i).map (·.1)).take nn := fun i hi => by
      unfold Ks.listR
      rw [hb, if_pos rfl, Ks.ge_fr hm.so hi, hnn, Int.toNat_natCast]
    refine Sp.enter (n := 96) Try.func3 rfl rfl rfl (Hp.refl w) ?_
    repeat' (first
        | ((with_reducible refine ie_callf ?_); (first
        | ((with_reducible refine g_call 9 ?_); (first | refine Ef_callP rfl rfl ent_9 (fun w _ => hgr w) ?_))
        | ((with_reducible refine g_call 11 ?_); (first | (((refine' Ef_callN rfl rfl ent_11 (fun w hp => to_c A l.length cap l w (hp.rd hr fun _ => List.not_mem_nil) rfl ?q1 k y) ?_); (case q1 => omega)); (first | ((fail_if_success have := A1); rintro ⟨A1, c1⟩) | ((fail_if_success have := A2); rintro ⟨A2, c2⟩) | rintro ⟨_, _⟩))))
        | ((with_reducible refine g_call 13 ?_); (first | (((refine' Ef_callN rfl rfl ent_13 (fun w hp => hls w (rT_rd (hp.rowOf ?q1)) (hp.capOf (A := A1) (m := l.length + 1) (cap := c1) ?q2)) ?_); (case q1 => (repeat (first | exact .head _ | apply List.Mem.tail))); (case q2 => (repeat (first | exact .head _ | apply List.Mem.tail)))); (first | ((fail_if_success have := A1); rintro ⟨A1, c1⟩) | ((fail_if_success have := A2); rintro ⟨A2, c2⟩) | rintro ⟨_, _⟩))))
        | ((with_reducible refine g_call 12 ?_); (first | ((refine' Ef_callP rfl rfl ent_12 (fun w hp => hus A1 c1 w (rT_rd (hp.rowOf ?q1))) ?_); (case q1 => (repeat (first | exact .head _ | apply List.Mem.tail))))))
        | ((with_reducible refine g_call 14 ?_); (first | ((refine' Ef_callP rfl rfl ent_14 (fun w hp => hge w (rT_rd (hp.rowOf ?q1))) ?_); (case q1 => (repeat (first | exact .head _ | apply List.Mem.tail))))))
        | ((with_reducible refine g_call 10 ?_); (first | refine Ef_callP rfl rfl ent_10 (fun w _ => awake_c w) ?_))))
        | ((with_reducible refine g_draw ?_); (first | (((with_reducible refine' T.drawM (id := 14) [(0, true), (1, true), (2, false), (3, false), (4, false), (5, false), (6, false), (7, true), (8, true), (9, false), (10, false)] mixd ?q1 ?_); (case q1 => kernel_rfl)))))
        | refine w1 ?_
        | (refine w2 ?_ ?_ <;> intro hc)
        | (first | ((refine' ⟨_, Yl_convW (k := .i64) (k' := .u64) rfl ?q1 ?q2, ?_⟩); (case q1 => exact und_of rfl); (case q2 => exact und_of rfl)) | ((refine' ⟨_, Yl_convI (k := .u64) (k' := .i64) rfl ?q1 ?q2 (wrap_mod _ 7 ?q3 ?q4), ?_⟩); (case q1 => exact und_of rfl); (case q2 => exact und_of rfl); (case q3 => decide); (case q4 => decide)) | ((refine' ⟨_, Yl_remE rfl rfl ?q1 ?q2 rfl, ?_⟩); (case q1 => exact wrap_u64_lo _); (case q2 => decide)) | ((refine' ⟨_, Yl_addS rfl rfl ?q1, ?_⟩); (case q1 => exact hsz)))
        | (refine w4 ?_; (first | ((fail_if_success have := b1); intro b1) | ((fail_if_success have := b2); intro b2) | intro _))
        | (refine w5 ?_; (first | ((fail_if_success have := A1); intro A1 c1) | ((fail_if_success have := A2); intro A2 c2) | intro _ _))
        | refine w3 ?_ ?_
        | fail_if_success skip)
    refine T.part (M' := [.blk b2 (.cells (sV k y (A1, c1) l.length) 30 (0, 0)), rT l (A1, c1)]) (by (repeat (first | exact Part.nil | refine Part.p0 ?_ | refine Part.p1 ?_ | refine Part.p2 ?_ | refine Part.p3 ?_ | refine Part.p4 ?_ | refine Part.p5 ?_ | refine Part.p6 ?_))) ?_
    refine T.loop (α := Nat × Nat) (fun z => [(1, .int .i64 (1 + IntKind.wrap .u64 n % 7)), (5, .pointer (some ⟨b2, 0, none⟩)), (6, .int .i64 (l.length : Int)), (7, .int .i64 (Ks.cnt l : Int)), (8, .string (Ks.fr l z.2)), (9, .int .i64 (z.2 : Int)), (10, .int .i64 (Ks.cnt (l.take z.2) : Int)), (11, .int .i64 (z.1 : Int))]) (fun _ => [.blk b2 (.cells (sV k y (A1, c1) l.length) 30 (0, 0)), rT l (A1, c1)]) (fun z => z.1 ≤ z.2 ∧ z.2 ≤ l.length) (fun z => l.length - z.2) (0, 0) ?_ ?_ ?_ ?_
    · (repeat (first | exact Sub.nil | refine Sub.cons rfl ?_))
    · (repeat (first | exact List.nil_sublist _ | refine List.Sublist.cons_cons _ ?_ | refine List.Sublist.cons _ ?_))
    · exact ⟨Nat.le_refl _, Nat.zero_le _⟩
    · rintro ⟨t, i⟩ ⟨ht, hi⟩
      dsimp only at ht hi ⊢
      have hls := fun w h h2 => hlf A1 c1 (Ks.fr l i) w h h2
      rw [hlr i hi] at hls
      obtain ⟨g, hg⟩ : ∃ g, ((l.drop i).map (·.1)).take nn = g := ⟨_, rfl⟩
      have hgl : g.length = min nn (l.length - i) := by rw [← hg, List.length_take, List.length_map, List.length_drop]
      have hgx : ∀ j x, l[i + j]? = some x → j < g.length → g[j]? = some x.1 := fun j x hx hj => by
        rw [← hg, List.getElem?_take_of_lt (by omega), List.getElem?_map, List.getElem?_drop, hx]
        rfl
      rw [hg] at hls
      clear hg
      repeat' (first
          | ((with_reducible refine ie_callf ?_); (first
          | ((with_reducible refine g_call 9 ?_); (first | refine Ef_callP rfl rfl ent_9 (fun w _ => hgr w) ?_))
          | ((with_reducible refine g_call 11 ?_); (first | (((refine' Ef_callN rfl rfl ent_11 (fun w hp => to_c A l.length cap l w (hp.rd hr fun _ => List.not_mem_nil) rfl ?q1 k y) ?_); (case q1 => omega)); (first | ((fail_if_success have := A1); rintro ⟨A1, c1⟩) | ((fail_if_success have := A2); rintro ⟨A2, c2⟩) | rintro ⟨_, _⟩))))
          | ((with_reducible refine g_call 13 ?_); (first | (((refine' Ef_callN rfl rfl ent_13 (fun w hp => hls w (rT_rd (hp.rowOf ?q1)) (hp.capOf (A := A1) (m := l.length + 1) (cap := c1) ?q2)) ?_); (case q1 => (repeat (first | exact .head _ | apply List.Mem.tail))); (case q2 => (repeat (first | exact .head _ | apply List.Mem.tail)))); (first | ((fail_if_success have := A1); rintro ⟨A1, c1⟩) | ((fail_if_success have := A2); rintro ⟨A2, c2⟩) | rintro ⟨_, _⟩))))
          | ((with_reducible refine g_call 12 ?_); (first | ((refine' Ef_callP rfl rfl ent_12 (fun w hp => hus A1 c1 w (rT_rd (hp.rowOf ?q1))) ?_); (case q1 => (repeat (first | exact .head _ | apply List.Mem.tail))))))
          | ((with_reducible refine g_call 14 ?_); (first | ((refine' Ef_callP rfl rfl ent_14 (fun w hp => hge w (rT_rd (hp.rowOf ?q1))) ?_); (case q1 => (repeat (first | exact .head _ | apply List.Mem.tail))))))
          | ((with_reducible refine g_call 10 ?_); (first | refine Ef_callP rfl rfl ent_10 (fun w _ => awake_c w) ?_))))
          | ((with_reducible refine g_draw ?_); (first | (((with_reducible refine' T.drawM (id := 14) [(0, true), (1, true), (2, false), (3, false), (4, false), (5, false), (6, false), (7, true), (8, true), (9, false), (10, false)] mixd ?q1 ?_); (case q1 => kernel_rfl)))))
          | refine w1 ?_
          | (refine w2 ?_ ?_ <;> intro hc)
          | (first | ((refine' ⟨_, Yl_convW (k := .i64) (k' := .u64) rfl ?q1 ?q2, ?_⟩); (case q1 => exact und_of rfl); (case q2 => exact und_of rfl)) | ((refine' ⟨_, Yl_convI (k := .u64) (k' := .i64) rfl ?q1 ?q2 (wrap_mod _ 7 ?q3 ?q4), ?_⟩); (case q1 => exact und_of rfl); (case q2 => exact und_of rfl); (case q3 => decide); (case q4 => decide)) | ((refine' ⟨_, Yl_remE rfl rfl ?q1 ?q2 rfl, ?_⟩); (case q1 => exact wrap_u64_lo _); (case q2 => decide)) | ((refine' ⟨_, Yl_addS rfl rfl ?q1, ?_⟩); (case q1 => exact hsz)))
          | (refine w4 ?_; (first | ((fail_if_success have := b1); intro b1) | ((fail_if_success have := b2); intro b2) | intro _))
          | (refine w5 ?_; (first | ((fail_if_success have := A1); intro A1 c1) | ((fail_if_success have := A2); intro A2 c2) | intro _ _))
          | refine w3 ?_ ?_
          | fail_if_success skip)
      refine T.part (M' := [rK g (A2, c2), .blk b2 (.cells (sV k y (A1, c1) l.length) 30 (0, 0)), rT l (A1, c1)]) (by (repeat (first | exact Part.nil | refine Part.p0 ?_ | refine Part.p1 ?_ | refine Part.p2 ?_ | refine Part.p3 ?_ | refine Part.p4 ?_ | refine Part.p5 ?_ | refine Part.p6 ?_))) ?_
      refine T.loop (α := Nat) (fun j => [(1, .int .i64 (1 + IntKind.wrap .u64 n % 7)), (5, .pointer (some ⟨b2, 0, none⟩)), (6, .int .i64 (l.length : Int)), (7, .int .i64 (Ks.cnt l : Int)), (8, .string (Ks.fr l (i + j))), (9, .int .i64 ((i + j : Nat) : Int)), (10, .int .i64 (Ks.cnt (l.take (i + j)) : Int)), (11, .int .i64 (t : Int)), (12, .slice A2 g.length c2), (13, .int .i64 (j : Int))]) (fun _ => [rK g (A2, c2), .blk b2 (.cells (sV k y (A1, c1) l.length) 30 (0, 0)), rT l (A1, c1)]) (fun j => j ≤ g.length) (fun j => g.length - j) 0 ?_ ?_ ?_ ?_
      · (repeat (first | exact Sub.nil | refine Sub.cons rfl ?_))
      · exact List.Sublist.refl _
      · exact Nat.zero_le _
      · rintro j hj
        by_cases hlt : j < g.length
        · obtain ⟨x, hx⟩ := some_of_lt (l := l) (i := i + j) (by omega)
          have e0 : (g.flatMap kE)[j * 1]? = some (.string x.1) := enc_at kE_len (hgx j x hx hlt) (j := 0) (by decide)
          have hge := fun w h => get_c A1 l.length c1 l w h rfl (by omega) k y x.1
          rw [Ks.getR_self hm (mem_of_some hx)] at hge
          dsimp only at hge
          have hfl := Ks.fr_le hm.so hx
          have hpx := of_decide_eq_true (hm.pr x (mem_of_some hx))
          have hct := Ks.cnt_take hx
          have hcl := Ks.cnt_le l (i + j + 1)
          have hsz : x.1.size + (⟨#[0]⟩ : ByteArray).size ≤ 9223372036854775807 := by
            have : (⟨#[0]⟩ : ByteArray).size = 1 := rfl
            omega
          have e8 : Ks.fr l (i + (j + 1)) = x.1 ++ ⟨#[0]⟩ := Ks.fr_succ hx
          have e9 : ((i + (j + 1) : Nat) : Int) = ((i + j : Nat) : Int) + 1 := by omega
          have e10 : ((Ks.cnt (l.take (i + (j + 1))) : Nat) : Int) = (Ks.cnt (l.take (i + j)) : Int) + (x.1.size : Int) + (x.2.size : Int) := by
            rw [show i + (j + 1) = i + j + 1 from rfl, hct]
            omega
          repeat' (first
              | ((with_reducible refine ie_callf ?_); (first
              | ((with_reducible refine g_call 9 ?_); (first | refine Ef_callP rfl rfl ent_9 (fun w _ => hgr w) ?_))
              | ((with_reducible refine g_call 11 ?_); (first | (((refine' Ef_callN rfl rfl ent_11 (fun w hp => to_c A l.length cap l w (hp.rd hr fun _ => List.not_mem_nil) rfl ?q1 k y) ?_); (case q1 => omega)); (first | ((fail_if_success have := A1); rintro ⟨A1, c1⟩) | ((fail_if_success have := A2); rintro ⟨A2, c2⟩) | rintro ⟨_, _⟩))))
              | ((with_reducible refine g_call 13 ?_); (first | (((refine' Ef_callN rfl rfl ent_13 (fun w hp => hls w (rT_rd (hp.rowOf ?q1)) (hp.capOf (A := A1) (m := l.length + 1) (cap := c1) ?q2)) ?_); (case q1 => (repeat (first | exact .head _ | apply List.Mem.tail))); (case q2 => (repeat (first | exact .head _ | apply List.Mem.tail)))); (first | ((fail_if_success have := A1); rintro ⟨A1, c1⟩) | ((fail_if_success have := A2); rintro ⟨A2, c2⟩) | rintro ⟨_, _⟩))))
              | ((with_reducible refine g_call 12 ?_); (first | ((refine' Ef_callP rfl rfl ent_12 (fun w hp => hus A1 c1 w (rT_rd (hp.rowOf ?q1))) ?_); (case q1 => (repeat (first | exact .head _ | apply List.Mem.tail))))))
              | ((with_reducible refine g_call 14 ?_); (first | ((refine' Ef_callP rfl rfl ent_14 (fun w hp => hge w (rT_rd (hp.rowOf ?q1))) ?_); (case q1 => (repeat (first | exact .head _ | apply List.Mem.tail))))))
              | ((with_reducible refine g_call 10 ?_); (first | refine Ef_callP rfl rfl ent_10 (fun w _ => awake_c w) ?_))))
              | ((with_reducible refine g_draw ?_); (first | (((with_reducible refine' T.drawM (id := 14) [(0, true), (1, true), (2, false), (3, false), (4, false), (5, false), (6, false), (7, true), (8, true), (9, false), (10, false)] mixd ?q1 ?_); (case q1 => kernel_rfl)))))
              | refine w1 ?_
              | (refine w2 ?_ ?_ <;> intro hc)
              | (first | ((refine' ⟨_, Yl_convW (k := .i64) (k' := .u64) rfl ?q1 ?q2, ?_⟩); (case q1 => exact und_of rfl); (case q2 => exact und_of rfl)) | ((refine' ⟨_, Yl_convI (k := .u64) (k' := .i64) rfl ?q1 ?q2 (wrap_mod _ 7 ?q3 ?q4), ?_⟩); (case q1 => exact und_of rfl); (case q2 => exact und_of rfl); (case q3 => decide); (case q4 => decide)) | ((refine' ⟨_, Yl_remE rfl rfl ?q1 ?q2 rfl, ?_⟩); (case q1 => exact wrap_u64_lo _); (case q2 => decide)) | ((refine' ⟨_, Yl_addS rfl rfl ?q1, ?_⟩); (case q1 => exact hsz)))
              | (refine w4 ?_; (first | ((fail_if_success have := b1); intro b1) | ((fail_if_success have := b2); intro b2) | intro _))
              | (refine w5 ?_; (first | ((fail_if_success have := A1); intro A1 c1) | ((fail_if_success have := A2); intro A2 c2) | intro _ _))
              | refine w3 ?_ ?_
              | fail_if_success skip)
          refine loopQ_n (j + 1) ?_ ?_ (show j + 1 ≤ g.length by omega) (show g.length - (j + 1) < g.length - j by omega)
          · rw [e8, e9, e10]
            (repeat (first | exact Sub.nil | refine Sub.cons rfl ?_))
          · (repeat (first | exact List.nil_sublist _ | refine List.Sublist.cons_cons _ ?_ | refine List.Sublist.cons _ ?_))
        · obtain rfl : j = g.length := by omega
          by_cases hq : (g.length : Int) < 1 + IntKind.wrap .u64 n % 7
          · have hil : i + g.length = l.length := by omega
            rw [hil, List.take_of_length_le (Nat.le_refl _)]
            repeat' (first
                | ((with_reducible refine ie_callf ?_); (first
                | ((with_reducible refine g_call 9 ?_); (first | refine Ef_callP rfl rfl ent_9 (fun w _ => hgr w) ?_))
                | ((with_reducible refine g_call 11 ?_); (first | (((refine' Ef_callN rfl rfl ent_11 (fun w hp => to_c A l.length cap l w (hp.rd hr fun _ => List.not_mem_nil) rfl ?q1 k y) ?_); (case q1 => omega)); (first | ((fail_if_success have := A1); rintro ⟨A1, c1⟩) | ((fail_if_success have := A2); rintro ⟨A2, c2⟩) | rintro ⟨_, _⟩))))
                | ((with_reducible refine g_call 13 ?_); (first | (((refine' Ef_callN rfl rfl ent_13 (fun w hp => hls w (rT_rd (hp.rowOf ?q1)) (hp.capOf (A := A1) (m := l.length + 1) (cap := c1) ?q2)) ?_); (case q1 => (repeat (first | exact .head _ | apply List.Mem.tail))); (case q2 => (repeat (first | exact .head _ | apply List.Mem.tail)))); (first | ((fail_if_success have := A1); rintro ⟨A1, c1⟩) | ((fail_if_success have := A2); rintro ⟨A2, c2⟩) | rintro ⟨_, _⟩))))
                | ((with_reducible refine g_call 12 ?_); (first | ((refine' Ef_callP rfl rfl ent_12 (fun w hp => hus A1 c1 w (rT_rd (hp.rowOf ?q1))) ?_); (case q1 => (repeat (first | exact .head _ | apply List.Mem.tail))))))
                | ((with_reducible refine g_call 14 ?_); (first | ((refine' Ef_callP rfl rfl ent_14 (fun w hp => hge w (rT_rd (hp.rowOf ?q1))) ?_); (case q1 => (repeat (first | exact .head _ | apply List.Mem.tail))))))
                | ((with_reducible refine g_call 10 ?_); (first | refine Ef_callP rfl rfl ent_10 (fun w _ => awake_c w) ?_))))
                | ((with_reducible refine g_draw ?_); (first | (((with_reducible refine' T.drawM (id := 14) [(0, true), (1, true), (2, false), (3, false), (4, false), (5, false), (6, false), (7, true), (8, true), (9, false), (10, false)] mixd ?q1 ?_); (case q1 => kernel_rfl)))))
                | refine w1 ?_
                | (refine w2 ?_ ?_ <;> intro hc)
                | (first | ((refine' ⟨_, Yl_convW (k := .i64) (k' := .u64) rfl ?q1 ?q2, ?_⟩); (case q1 => exact und_of rfl); (case q2 => exact und_of rfl)) | ((refine' ⟨_, Yl_convI (k := .u64) (k' := .i64) rfl ?q1 ?q2 (wrap_mod _ 7 ?q3 ?q4), ?_⟩); (case q1 => exact und_of rfl); (case q2 => exact und_of rfl); (case q3 => decide); (case q4 => decide)) | ((refine' ⟨_, Yl_remE rfl rfl ?q1 ?q2 rfl, ?_⟩); (case q1 => exact wrap_u64_lo _); (case q2 => decide)) | ((refine' ⟨_, Yl_addS rfl rfl ?q1, ?_⟩); (case q1 => exact hsz)))
                | (refine w4 ?_; (first | ((fail_if_success have := b1); intro b1) | ((fail_if_success have := b2); intro b2) | intro _))
                | (refine w5 ?_; (first | ((fail_if_success have := A1); intro A1 c1) | ((fail_if_success have := A2); intro A2 c2) | intro _ _))
                | refine w3 ?_ ?_
                | fail_if_success skip)
            exact ret_n [] (res1 rfl rfl) (List.nil_sublist _) ⟨rfl, rfl⟩
          · repeat' (first
              | ((with_reducible refine ie_callf ?_); (first
              | ((with_reducible refine g_call 9 ?_); (first | refine Ef_callP rfl rfl ent_9 (fun w _ => hgr w) ?_))
              | ((with_reducible refine g_call 11 ?_); (first | (((refine' Ef_callN rfl rfl ent_11 (fun w hp => to_c A l.length cap l w (hp.rd hr fun _ => List.not_mem_nil) rfl ?q1 k y) ?_); (case q1 => omega)); (first | ((fail_if_success have := A1); rintro ⟨A1, c1⟩) | ((fail_if_success have := A2); rintro ⟨A2, c2⟩) | rintro ⟨_, _⟩))))
              | ((with_reducible refine g_call 13 ?_); (first | (((refine' Ef_callN rfl rfl ent_13 (fun w hp => hls w (rT_rd (hp.rowOf ?q1)) (hp.capOf (A := A1) (m := l.length + 1) (cap := c1) ?q2)) ?_); (case q1 => (repeat (first | exact .head _ | apply List.Mem.tail))); (case q2 => (repeat (first | exact .head _ | apply List.Mem.tail)))); (first | ((fail_if_success have := A1); rintro ⟨A1, c1⟩) | ((fail_if_success have := A2); rintro ⟨A2, c2⟩) | rintro ⟨_, _⟩))))
              | ((with_reducible refine g_call 12 ?_); (first | ((refine' Ef_callP rfl rfl ent_12 (fun w hp => hus A1 c1 w (rT_rd (hp.rowOf ?q1))) ?_); (case q1 => (repeat (first | exact .head _ | apply List.Mem.tail))))))
              | ((with_reducible refine g_call 14 ?_); (first | ((refine' Ef_callP rfl rfl ent_14 (fun w hp => hge w (rT_rd (hp.rowOf ?q1))) ?_); (case q1 => (repeat (first | exact .head _ | apply List.Mem.tail))))))
              | ((with_reducible refine g_call 10 ?_); (first | refine Ef_callP rfl rfl ent_10 (fun w _ => awake_c w) ?_))))
              | ((with_reducible refine g_draw ?_); (first | (((with_reducible refine' T.drawM (id := 14) [(0, true), (1, true), (2, false), (3, false), (4, false), (5, false), (6, false), (7, true), (8, true), (9, false), (10, false)] mixd ?q1 ?_); (case q1 => kernel_rfl)))))
              | refine w1 ?_
              | (refine w2 ?_ ?_ <;> intro hc)
              | (first | ((refine' ⟨_, Yl_convW (k := .i64) (k' := .u64) rfl ?q1 ?q2, ?_⟩); (case q1 => exact und_of rfl); (case q2 => exact und_of rfl)) | ((refine' ⟨_, Yl_convI (k := .u64) (k' := .i64) rfl ?q1 ?q2 (wrap_mod _ 7 ?q3 ?q4), ?_⟩); (case q1 => exact und_of rfl); (case q2 => exact und_of rfl); (case q3 => decide); (case q4 => decide)) | ((refine' ⟨_, Yl_remE rfl rfl ?q1 ?q2 rfl, ?_⟩); (case q1 => exact wrap_u64_lo _); (case q2 => decide)) | ((refine' ⟨_, Yl_addS rfl rfl ?q1, ?_⟩); (case q1 => exact hsz)))
              | (refine w4 ?_; (first | ((fail_if_success have := b1); intro b1) | ((fail_if_success have := b2); intro b2) | intro _))
              | (refine w5 ?_; (first | ((fail_if_success have := A1); intro A1 c1) | ((fail_if_success have := A2); intro A2 c2) | intro _ _))
              | refine w3 ?_ ?_
              | fail_if_success skip)
            refine loopQ_n (t + 1, i + g.length) ?_ ?_ ⟨show t + 1 ≤ i + g.length by omega, show i + g.length ≤ l.length by omega⟩ (show l.length - (i + g.length) < l.length - i by omega)
            · (repeat (first | exact Sub.nil | refine Sub.cons rfl ?_))
            · (repeat (first | exact List.nil_sublist _ | refine List.Sublist.cons_cons _ ?_ | refine List.Sublist.cons _ ?_))
end
end Go.Proofs.Ytimmabejfigleaa
