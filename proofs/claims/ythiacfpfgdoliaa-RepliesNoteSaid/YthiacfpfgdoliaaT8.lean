/- What a note makes of a table: what a call comes to. -/
import Derived.Test.YthiacfpfgdoliaaT7
import Derived.Test.YthiacfpfgdoliaaRn
namespace Go.Proofs.Ythiacfpfgdoliaa
open Go.RowKit
set_option maxRecDepth 20000

theorem rE_all (r : Rp) (h : Hd) : (rE r h).toArray.all (·.oneCell') = true := by
  rw [Array.all_eq_true_iff_forall_mem]
  intro u hu
  exact rE_one r h u (by simpa using hu)
theorem Hp.bagIns {w0 w : World} {R : List Nat} {ms : List Me} {i : Nat} {x : Me} {z : Hd} (hp : Hp w0 R [rM (insM ms i x) z, mA x, bag (ms.map mA)] w) : Hp w0 R [rM (insM ms i x) z, bag ((insM ms i x).map mA)] w := by
  have h1 : Hp w0 R [mA x, bag (ms.map mA), rM (insM ms i x) z] w := hp.ofPart (by (repeat (first | exact Part.nil | refine Part.p0 ?_ | refine Part.p1 ?_ | refine Part.p2 ?_ | refine Part.p3 ?_ | refine Part.p4 ?_ | refine Part.p5 ?_ | refine Part.p6 ?_)))
  have h2 := h1.bagAdd
  have hperm : (ms.map mA ++ [mA x]).Perm ((insM ms i x).map mA) := by
    unfold insM
    conv => lhs; rw [← List.take_append_drop i ms]
    rw [List.map_append, List.map_append, List.map_cons]
    exact (List.perm_append_singleton _ _).trans List.perm_middle.symm
  exact (h2.bagPerm hperm).ofPart (by (repeat (first | exact Part.nil | refine Part.p0 ?_ | refine Part.p1 ?_ | refine Part.p2 ?_ | refine Part.p3 ?_ | refine Part.p4 ?_ | refine Part.p5 ?_ | refine Part.p6 ?_)))

section
variable (A : Option Addr) (len cap : Nat) (l : List Me) (t i : Int) (r : Rp) (h : Hd) (w : World) (hr : Rd w A len 77 (l.flatMap mE)) (hl : l.length = len) (hle : len ≤ 200) (hin : Ins w l) (h4 : ∀ x ∈ l, x.1.r.keys.length ≤ 400) (ha : In w r h) (hk : r.keys.length ≤ 400)
include hr hl hle hin h4 ha hk
set_option maxHeartbeats 8000000 in
theorem note0_c : Sp Try.prog 22 [.slice A len cap, .int .i64 t, .int .i64 i, .agg (rE r h).toArray] w [] fun v N => ∃ y : Hd × List Me, y.2.map (·.1) = (Rl.note (l.map (·.1)) t i r).1 ∧ v = .tuple #[.slice y.1.1 y.2.length y.1.2, .int .i64 (Rl.note (l.map (·.1)) t i r).2] ∧ ∀ w', Hp w [] N w' → Hp w [] [rM y.2 y.1, bag (y.2.map mA)] w' := by
  have hma := fun w h => may_v A len cap l w h hl (by omega) _ rfl
  have hft := fun w => fits_v t i _ w rfl
  have hof := fun w h => of_c A len cap l t w h hl (by omega)
  rw [Rl.ofM_eq] at hof
  unfold Rl.note
  cases hm : Rl.may (l.map (·.1))
  · rw [hm] at hma
    refine Sp.enter (n := 65) Try.func22 rfl rfl rfl (Hp.refl w) ?_
    refine T.row0e 55 77 ?_
    repeat' (first
        | ((with_reducible refine is_load ?_); (first | ((refine' ⟨_, Yl_loadA_at rfl ?qa ?qb ?ql ?qc, ?_⟩); (case qa => exact agg_of rfl); (case qb => (repeat (first | exact .head _ | apply List.Mem.tail))); (case qc => (first | exact mE_rE _)); (case ql => rfl))))
        | ((with_reducible refine is_build ?_); (first | refine ⟨_, Yl_build rfl (b_build55 _ _ _ _), ?_⟩))
        | ((with_reducible refine ie_store ?_); (first | ((refine' Ef_storeA' rfl rfl ?q1 (mE_one _) ?q2 ?q3 ?_); (case q1 => exact siz_of rfl); (case q2 => (first | exact at0 | exact at1 | exact at2 | exact at3 | exact at4 | exact at5 | exact at6)); (case q3 => rfl)) | ((refine' Ef_storeM (C' := (mE (x.1, (A2, c2))).toArray) rfl rfl ?q1 (rE_all _ _) ?q2 ?q3 ?q4 ?_); (case q1 => exact siz_of rfl); (case q2 => (first | exact at0 | exact at1 | exact at2 | exact at3 | exact at4 | exact at5 | exact at6)); (case q3 => exact Nat.le_of_ble_eq_true rfl); (case q4 => rfl))))
        | ((with_reducible refine ie_callf ?_); (first
        | ((with_reducible refine g_call 19 ?_); (first | refine Ef_callP rfl rfl ent_19 (fun w hp => hma w (hp.rd hr fun _ => List.not_mem_nil)) ?_))
        | ((with_reducible refine g_call 27 ?_); (first | refine Ef_callP rfl rfl ent_27 (fun w _ => hft w) ?_))
        | ((with_reducible refine g_call 18 ?_); (first | refine Ef_callP rfl rfl ent_18 (fun w hp => hof w (hp.rd hr fun _ => List.not_mem_nil)) ?_))
        | ((with_reducible refine g_call 28 ?_); (first | (refine Ef_callN rfl rfl ent_28 (fun w hp => hcp w (hp.in_old hx2)) ?_; rintro ⟨A2, c2⟩) | (refine Ef_callN rfl rfl ent_28 (fun w hp => hcq w (hp.in_old ha)) ?_; rintro ⟨A2, c2⟩)))
        | ((with_reducible refine g_call 31 ?_); (first | ((refine' Ef_callP rfl rfl ent_31 (fun w1 hp => hix w1 (hp.blkOf ?q1) (hp.rowOf ?q2)) ?_); (case q1 => (repeat (first | exact .head _ | apply List.Mem.tail))); (case q2 => (repeat (first | exact .head _ | apply List.Mem.tail))))))
        | ((with_reducible refine g_call 33 ?_); (first | (refine Ef_callX (φ := fun _ => True) [true, true] rfl rfl ent_33 rfl rfl rfl (fun w hp => hins _ _ _ _ _ hp) ?_; rintro ⟨A3, c3⟩ _) | (refine Ef_callX (φ := fun _ => True) [true, false, true] rfl rfl ent_33 rfl rfl rfl (fun w hp => hins _ _ _ _ _ hp) ?_; rintro ⟨A3, c3⟩ _)))))
        | (first | ((((refine' Ef_appG_row (news := mE _) rfl rfl rfl ?q1 ?q2 ?q3 (mE_one _) ?q4 ?q5 ?_); (case q1 => exact app_of rfl); (case q2 => (first | exact at0 | exact at1 | exact at2 | exact at3 | exact at4 | exact at5 | exact at6)); (case q3 => (repeat (first | exact .head _ | apply List.Mem.tail))); (case q4 => omega); (case q5 => omega))); (first | ((fail_if_success have := A1); intro A1 c1) | ((fail_if_success have := A2); intro A2 c2) | ((fail_if_success have := A3); intro A3 c3) | intro _ _)))
        | ((with_reducible refine g_draw ?_); (first | (((with_reducible refine' T.draw (id := 16) [(0, true), (1, true), (2, true), (3, true), (4, false), (5, false), (6, false), (7, false), (8, false), (9, false), (10, false)] [.blk b1 (.cells #[.int .i64 t] 3 (0, 0))] mixd ?q1 ?q2 ?_); (case q1 => kernel_rfl); (case q2 => (repeat (first | exact List.nil_sublist _ | refine List.Sublist.cons_cons _ ?_ | refine List.Sublist.cons _ ?_)))))))
        | refine w1 ?_
        | (refine w2 ?_ ?_ <;> intro hc)
        | (first | refine ⟨_, Yl_mkf rfl, ?_⟩)
        | (refine w4 ?_; (first | ((fail_if_success have := b1); intro b1) | ((fail_if_success have := b2); intro b2) | intro _))
        | (refine w5 ?_; (first | ((fail_if_success have := A1); intro A1 c1) | ((fail_if_success have := A2); intro A2 c2) | ((fail_if_success have := A3); intro A3 c3) | intro _ _))
        | refine w3 ?_ ?_
        | fail_if_success skip)
    exact ret_n [rM [] (none, 0)] (res2 rfl rfl rfl) (by (repeat (first | exact List.nil_sublist _ | refine List.Sublist.cons_cons _ ?_ | refine List.Sublist.cons _ ?_))) ⟨((none, 0), []), rfl, rfl, fun w' hp => (Hp.bagNil hp).ofPart (by (repeat (first | exact Part.nil | refine Part.p0 ?_ | refine Part.p1 ?_ | refine Part.p2 ?_ | refine Part.p3 ?_ | refine Part.p4 ?_ | refine Part.p5 ?_ | refine Part.p6 ?_)))⟩
  rw [hm] at hma
  cases hf : Rl.fits t i
  · rw [hf] at hft
    refine Sp.enter (n := 65) Try.func22 rfl rfl rfl (Hp.refl w) ?_
    refine T.row0e 55 77 ?_
    repeat' (first
        | ((with_reducible refine is_load ?_); (first | ((refine' ⟨_, Yl_loadA_at rfl ?qa ?qb ?ql ?qc, ?_⟩); (case qa => exact agg_of rfl); (case qb => (repeat (first | exact .head _ | apply List.Mem.tail))); (case qc => (first | exact mE_rE _)); (case ql => rfl))))
        | ((with_reducible refine is_build ?_); (first | refine ⟨_, Yl_build rfl (b_build55 _ _ _ _), ?_⟩))
        | ((with_reducible refine ie_store ?_); (first | ((refine' Ef_storeA' rfl rfl ?q1 (mE_one _) ?q2 ?q3 ?_); (case q1 => exact siz_of rfl); (case q2 => (first | exact at0 | exact at1 | exact at2 | exact at3 | exact at4 | exact at5 | exact at6)); (case q3 => rfl)) | ((refine' Ef_storeM (C' := (mE (x.1, (A2, c2))).toArray) rfl rfl ?q1 (rE_all _ _) ?q2 ?q3 ?q4 ?_); (case q1 => exact siz_of rfl); (case q2 => (first | exact at0 | exact at1 | exact at2 | exact at3 | exact at4 | exact at5 | exact at6)); (case q3 => exact Nat.le_of_ble_eq_true rfl); (case q4 => rfl))))
        | ((with_reducible refine ie_callf ?_); (first
        | ((with_reducible refine g_call 19 ?_); (first | refine Ef_callP rfl rfl ent_19 (fun w hp => hma w (hp.rd hr fun _ => List.not_mem_nil)) ?_))
        | ((with_reducible refine g_call 27 ?_); (first | refine Ef_callP rfl rfl ent_27 (fun w _ => hft w) ?_))
        | ((with_reducible refine g_call 18 ?_); (first | refine Ef_callP rfl rfl ent_18 (fun w hp => hof w (hp.rd hr fun _ => List.not_mem_nil)) ?_))
        | ((with_reducible refine g_call 28 ?_); (first | (refine Ef_callN rfl rfl ent_28 (fun w hp => hcp w (hp.in_old hx2)) ?_; rintro ⟨A2, c2⟩) | (refine Ef_callN rfl rfl ent_28 (fun w hp => hcq w (hp.in_old ha)) ?_; rintro ⟨A2, c2⟩)))
        | ((with_reducible refine g_call 31 ?_); (first | ((refine' Ef_callP rfl rfl ent_31 (fun w1 hp => hix w1 (hp.blkOf ?q1) (hp.rowOf ?q2)) ?_); (case q1 => (repeat (first | exact .head _ | apply List.Mem.tail))); (case q2 => (repeat (first | exact .head _ | apply List.Mem.tail))))))
        | ((with_reducible refine g_call 33 ?_); (first | (refine Ef_callX (φ := fun _ => True) [true, true] rfl rfl ent_33 rfl rfl rfl (fun w hp => hins _ _ _ _ _ hp) ?_; rintro ⟨A3, c3⟩ _) | (refine Ef_callX (φ := fun _ => True) [true, false, true] rfl rfl ent_33 rfl rfl rfl (fun w hp => hins _ _ _ _ _ hp) ?_; rintro ⟨A3, c3⟩ _)))))
        | (first | ((((refine' Ef_appG_row (news := mE _) rfl rfl rfl ?q1 ?q2 ?q3 (mE_one _) ?q4 ?q5 ?_); (case q1 => exact app_of rfl); (case q2 => (first | exact at0 | exact at1 | exact at2 | exact at3 | exact at4 | exact at5 | exact at6)); (case q3 => (repeat (first | exact .head _ | apply List.Mem.tail))); (case q4 => omega); (case q5 => omega))); (first | ((fail_if_success have := A1); intro A1 c1) | ((fail_if_success have := A2); intro A2 c2) | ((fail_if_success have := A3); intro A3 c3) | intro _ _)))
        | ((with_reducible refine g_draw ?_); (first | (((with_reducible refine' T.draw (id := 16) [(0, true), (1, true), (2, true), (3, true), (4, false), (5, false), (6, false), (7, false), (8, false), (9, false), (10, false)] [.blk b1 (.cells #[.int .i64 t] 3 (0, 0))] mixd ?q1 ?q2 ?_); (case q1 => kernel_rfl); (case q2 => (repeat (first | exact List.nil_sublist _ | refine List.Sublist.cons_cons _ ?_ | refine List.Sublist.cons _ ?_)))))))
        | refine w1 ?_
        | (refine w2 ?_ ?_ <;> intro hc)
        | (first | refine ⟨_, Yl_mkf rfl, ?_⟩)
        | (refine w4 ?_; (first | ((fail_if_success have := b1); intro b1) | ((fail_if_success have := b2); intro b2) | intro _))
        | (refine w5 ?_; (first | ((fail_if_success have := A1); intro A1 c1) | ((fail_if_success have := A2); intro A2 c2) | ((fail_if_success have := A3); intro A3 c3) | intro _ _))
        | refine w3 ?_ ?_
        | fail_if_success skip)
    exact ret_n [rM [] (none, 0)] (res2 rfl rfl rfl) (by (repeat (first | exact List.nil_sublist _ | refine List.Sublist.cons_cons _ ?_ | refine List.Sublist.cons _ ?_))) ⟨((none, 0), []), rfl, rfl, fun w' hp => (Hp.bagNil hp).ofPart (by (repeat (first | exact Part.nil | refine Part.p0 ?_ | refine Part.p1 ?_ | refine Part.p2 ?_ | refine Part.p3 ?_ | refine Part.p4 ?_ | refine Part.p5 ?_ | refine Part.p6 ?_)))⟩
  rw [hf] at hft
  rw [Bool.and_self, if_pos rfl]
  have hM := (Rl.may_iff _).1 hm
  by_cases g1 : i ≤ Rl.ofL (l.map (·.1)) t
  · rw [if_pos g1]
    refine Sp.enter (n := 65) Try.func22 rfl rfl rfl (Hp.refl w) ?_
    refine T.row0e 55 77 ?_
    repeat' (first
        | ((with_reducible refine is_load ?_); (first | ((refine' ⟨_, Yl_loadA_at rfl ?qa ?qb ?ql ?qc, ?_⟩); (case qa => exact agg_of rfl); (case qb => (repeat (first | exact .head _ | apply List.Mem.tail))); (case qc => (first | exact mE_rE _)); (case ql => rfl))))
        | ((with_reducible refine is_build ?_); (first | refine ⟨_, Yl_build rfl (b_build55 _ _ _ _), ?_⟩))
        | ((with_reducible refine ie_store ?_); (first | ((refine' Ef_storeA' rfl rfl ?q1 (mE_one _) ?q2 ?q3 ?_); (case q1 => exact siz_of rfl); (case q2 => (first | exact at0 | exact at1 | exact at2 | exact at3 | exact at4 | exact at5 | exact at6)); (case q3 => rfl)) | ((refine' Ef_storeM (C' := (mE (x.1, (A2, c2))).toArray) rfl rfl ?q1 (rE_all _ _) ?q2 ?q3 ?q4 ?_); (case q1 => exact siz_of rfl); (case q2 => (first | exact at0 | exact at1 | exact at2 | exact at3 | exact at4 | exact at5 | exact at6)); (case q3 => exact Nat.le_of_ble_eq_true rfl); (case q4 => rfl))))
        | ((with_reducible refine ie_callf ?_); (first
        | ((with_reducible refine g_call 19 ?_); (first | refine Ef_callP rfl rfl ent_19 (fun w hp => hma w (hp.rd hr fun _ => List.not_mem_nil)) ?_))
        | ((with_reducible refine g_call 27 ?_); (first | refine Ef_callP rfl rfl ent_27 (fun w _ => hft w) ?_))
        | ((with_reducible refine g_call 18 ?_); (first | refine Ef_callP rfl rfl ent_18 (fun w hp => hof w (hp.rd hr fun _ => List.not_mem_nil)) ?_))
        | ((with_reducible refine g_call 28 ?_); (first | (refine Ef_callN rfl rfl ent_28 (fun w hp => hcp w (hp.in_old hx2)) ?_; rintro ⟨A2, c2⟩) | (refine Ef_callN rfl rfl ent_28 (fun w hp => hcq w (hp.in_old ha)) ?_; rintro ⟨A2, c2⟩)))
        | ((with_reducible refine g_call 31 ?_); (first | ((refine' Ef_callP rfl rfl ent_31 (fun w1 hp => hix w1 (hp.blkOf ?q1) (hp.rowOf ?q2)) ?_); (case q1 => (repeat (first | exact .head _ | apply List.Mem.tail))); (case q2 => (repeat (first | exact .head _ | apply List.Mem.tail))))))
        | ((with_reducible refine g_call 33 ?_); (first | (refine Ef_callX (φ := fun _ => True) [true, true] rfl rfl ent_33 rfl rfl rfl (fun w hp => hins _ _ _ _ _ hp) ?_; rintro ⟨A3, c3⟩ _) | (refine Ef_callX (φ := fun _ => True) [true, false, true] rfl rfl ent_33 rfl rfl rfl (fun w hp => hins _ _ _ _ _ hp) ?_; rintro ⟨A3, c3⟩ _)))))
        | (first | ((((refine' Ef_appG_row (news := mE _) rfl rfl rfl ?q1 ?q2 ?q3 (mE_one _) ?q4 ?q5 ?_); (case q1 => exact app_of rfl); (case q2 => (first | exact at0 | exact at1 | exact at2 | exact at3 | exact at4 | exact at5 | exact at6)); (case q3 => (repeat (first | exact .head _ | apply List.Mem.tail))); (case q4 => omega); (case q5 => omega))); (first | ((fail_if_success have := A1); intro A1 c1) | ((fail_if_success have := A2); intro A2 c2) | ((fail_if_success have := A3); intro A3 c3) | intro _ _)))
        | ((with_reducible refine g_draw ?_); (first | (((with_reducible refine' T.draw (id := 16) [(0, true), (1, true), (2, true), (3, true), (4, false), (5, false), (6, false), (7, false), (8, false), (9, false), (10, false)] [.blk b1 (.cells #[.int .i64 t] 3 (0, 0))] mixd ?q1 ?q2 ?_); (case q1 => kernel_rfl); (case q2 => (repeat (first | exact List.nil_sublist _ | refine List.Sublist.cons_cons _ ?_ | refine List.Sublist.cons _ ?_)))))))
        | refine w1 ?_
        | (refine w2 ?_ ?_ <;> intro hc)
        | (first | refine ⟨_, Yl_mkf rfl, ?_⟩)
        | (refine w4 ?_; (first | ((fail_if_success have := b1); intro b1) | ((fail_if_success have := b2); intro b2) | intro _))
        | (refine w5 ?_; (first | ((fail_if_success have := A1); intro A1 c1) | ((fail_if_success have := A2); intro A2 c2) | ((fail_if_success have := A3); intro A3 c3) | intro _ _))
        | refine w3 ?_ ?_
        | fail_if_success skip)
    exact ret_n [rM [] (none, 0)] (res2 rfl rfl rfl) (by (repeat (first | exact List.nil_sublist _ | refine List.Sublist.cons_cons _ ?_ | refine List.Sublist.cons _ ?_))) ⟨((none, 0), []), rfl, rfl, fun w' hp => (Hp.bagNil hp).ofPart (by (repeat (first | exact Part.nil | refine Part.p0 ?_ | refine Part.p1 ?_ | refine Part.p2 ?_ | refine Part.p3 ?_ | refine Part.p4 ?_ | refine Part.p5 ?_ | refine Part.p6 ?_)))⟩
  rw [if_neg g1]
  have hcq := fun w h1 => copied_c r h w h1 hk
  refine Sp.enter (n := 65) Try.func22 rfl rfl rfl (Hp.refl w) ?_
  refine T.mem (fun _ h => h.bagNil) ?_
  refine T.row0e 55 77 ?_
  repeat' (first
      | ((with_reducible refine is_load ?_); (first | ((refine' ⟨_, Yl_loadA_at rfl ?qa ?qb ?ql ?qc, ?_⟩); (case qa => exact agg_of rfl); (case qb => (repeat (first | exact .head _ | apply List.Mem.tail))); (case qc => (first | exact mE_rE _)); (case ql => rfl))))
      | ((with_reducible refine is_build ?_); (first | refine ⟨_, Yl_build rfl (b_build55 _ _ _ _), ?_⟩))
      | ((with_reducible refine ie_store ?_); (first | ((refine' Ef_storeA' rfl rfl ?q1 (mE_one _) ?q2 ?q3 ?_); (case q1 => exact siz_of rfl); (case q2 => (first | exact at0 | exact at1 | exact at2 | exact at3 | exact at4 | exact at5 | exact at6)); (case q3 => rfl)) | ((refine' Ef_storeM (C' := (mE (x.1, (A2, c2))).toArray) rfl rfl ?q1 (rE_all _ _) ?q2 ?q3 ?q4 ?_); (case q1 => exact siz_of rfl); (case q2 => (first | exact at0 | exact at1 | exact at2 | exact at3 | exact at4 | exact at5 | exact at6)); (case q3 => exact Nat.le_of_ble_eq_true rfl); (case q4 => rfl))))
      | ((with_reducible refine ie_callf ?_); (first
      | ((with_reducible refine g_call 19 ?_); (first | refine Ef_callP rfl rfl ent_19 (fun w hp => hma w (hp.rd hr fun _ => List.not_mem_nil)) ?_))
      | ((with_reducible refine g_call 27 ?_); (first | refine Ef_callP rfl rfl ent_27 (fun w _ => hft w) ?_))
      | ((with_reducible refine g_call 18 ?_); (first | refine Ef_callP rfl rfl ent_18 (fun w hp => hof w (hp.rd hr fun _ => List.not_mem_nil)) ?_))
      | ((with_reducible refine g_call 28 ?_); (first | (refine Ef_callN rfl rfl ent_28 (fun w hp => hcp w (hp.in_old hx2)) ?_; rintro ⟨A2, c2⟩) | (refine Ef_callN rfl rfl ent_28 (fun w hp => hcq w (hp.in_old ha)) ?_; rintro ⟨A2, c2⟩)))
      | ((with_reducible refine g_call 31 ?_); (first | ((refine' Ef_callP rfl rfl ent_31 (fun w1 hp => hix w1 (hp.blkOf ?q1) (hp.rowOf ?q2)) ?_); (case q1 => (repeat (first | exact .head _ | apply List.Mem.tail))); (case q2 => (repeat (first | exact .head _ | apply List.Mem.tail))))))
      | ((with_reducible refine g_call 33 ?_); (first | (refine Ef_callX (φ := fun _ => True) [true, true] rfl rfl ent_33 rfl rfl rfl (fun w hp => hins _ _ _ _ _ hp) ?_; rintro ⟨A3, c3⟩ _) | (refine Ef_callX (φ := fun _ => True) [true, false, true] rfl rfl ent_33 rfl rfl rfl (fun w hp => hins _ _ _ _ _ hp) ?_; rintro ⟨A3, c3⟩ _)))))
      | (first | ((((refine' Ef_appG_row (news := mE _) rfl rfl rfl ?q1 ?q2 ?q3 (mE_one _) ?q4 ?q5 ?_); (case q1 => exact app_of rfl); (case q2 => (first | exact at0 | exact at1 | exact at2 | exact at3 | exact at4 | exact at5 | exact at6)); (case q3 => (repeat (first | exact .head _ | apply List.Mem.tail))); (case q4 => omega); (case q5 => omega))); (first | ((fail_if_success have := A1); intro A1 c1) | ((fail_if_success have := A2); intro A2 c2) | ((fail_if_success have := A3); intro A3 c3) | intro _ _)))
      | ((with_reducible refine g_draw ?_); (first | (((with_reducible refine' T.draw (id := 16) [(0, true), (1, true), (2, true), (3, true), (4, false), (5, false), (6, false), (7, false), (8, false), (9, false), (10, false)] [.blk b1 (.cells #[.int .i64 t] 3 (0, 0))] mixd ?q1 ?q2 ?_); (case q1 => kernel_rfl); (case q2 => (repeat (first | exact List.nil_sublist _ | refine List.Sublist.cons_cons _ ?_ | refine List.Sublist.cons _ ?_)))))))
      | refine w1 ?_
      | (refine w2 ?_ ?_ <;> intro hc)
      | (first | refine ⟨_, Yl_mkf rfl, ?_⟩)
      | (refine w4 ?_; (first | ((fail_if_success have := b1); intro b1) | ((fail_if_success have := b2); intro b2) | intro _))
      | (refine w5 ?_; (first | ((fail_if_success have := A1); intro A1 c1) | ((fail_if_success have := A2); intro A2 c2) | ((fail_if_success have := A3); intro A3 c3) | intro _ _))
      | refine w3 ?_ ?_
      | fail_if_success skip)
  refine T.loopM (α := Nat × (Option Addr × Nat) × List Me) (fun z => [(2, .int .i64 i), (5, .pointer (some ⟨b1, 0, none⟩)), (7, .pointer (some ⟨b2, 0, none⟩)), (10, .slice z.2.1.1 z.2.2.length z.2.1.2), (30, .slice A len cap), (31, .int .i64 (len : Int)), (32, .int .i64 (z.1 : Int))]) (fun z => [rM z.2.2 z.2.1, bag (z.2.2.map mA), .blk b2 (.cells (rE r h).toArray 30 (0, 0)), .blk b1 (.cells #[.int .i64 t] 3 (0, 0))]) (fun z => z.1 ≤ len ∧ z.2.2.map (·.1) = ((l.take z.1).map (·.1)).filter (fun x => !decide (Rl.fc x = t))) (fun z => len - z.1) (0, (none, 0), []) ?_ ?_ ?_ ?_
  · (repeat (first | exact Sub.nil | refine Sub.cons rfl ?_))
  · exact fun _ h => h.ofPart (by unfold rM; (repeat (first | exact Part.nil | refine Part.p0 ?_ | refine Part.p1 ?_ | refine Part.p2 ?_ | refine Part.p3 ?_ | refine Part.p4 ?_ | refine Part.p5 ?_ | refine Part.p6 ?_)))
  · exact ⟨Nat.zero_le _, rfl⟩
  · rintro ⟨j, ⟨A1, c1⟩, ms⟩ ⟨hi, hms⟩
    dsimp only at hi hms ⊢
    have hml : ms.length ≤ j := by
      have h1 := congrArg List.length hms
      have h2 := List.length_filter_le (fun x => !decide (Rl.fc x = t)) ((l.take j).map (·.1))
      rw [← h1, List.length_map, List.length_map, List.length_take] at h2
      omega
    by_cases hlt : j < len
    · obtain ⟨x, hx⟩ := some_of_lt (l := l) (i := j) (by omega)
      have e0 : (l.flatMap mE)[j * 77 + 0]? = some (.int .i64 x.1.c) := enc_at mE_len hx (by omega)
      have eA := enc_atA mE_len hx
      have hx2 := hin x (mem_of_some hx)
      have hcp := fun w h1 => copied_c x.1.r x.2 w h1 (h4 x (mem_of_some hx))
      by_cases hxt : x.1.c = t
      · repeat' (first
          | ((with_reducible refine is_load ?_); (first | ((refine' ⟨_, Yl_loadA_at rfl ?qa ?qb ?ql ?qc, ?_⟩); (case qa => exact agg_of rfl); (case qb => (repeat (first | exact .head _ | apply List.Mem.tail))); (case qc => (first | exact mE_rE _)); (case ql => rfl))))
          | ((with_reducible refine is_build ?_); (first | refine ⟨_, Yl_build rfl (b_build55 _ _ _ _), ?_⟩))
          | ((with_reducible refine ie_store ?_); (first | ((refine' Ef_storeA' rfl rfl ?q1 (mE_one _) ?q2 ?q3 ?_); (case q1 => exact siz_of rfl); (case q2 => (first | exact at0 | exact at1 | exact at2 | exact at3 | exact at4 | exact at5 | exact at6)); (case q3 => rfl)) | ((refine' Ef_storeM (C' := (mE (x.1, (A2, c2))).toArray) rfl rfl ?q1 (rE_all _ _) ?q2 ?q3 ?q4 ?_); (case q1 => exact siz_of rfl); (case q2 => (first | exact at0 | exact at1 | exact at2 | exact at3 | exact at4 | exact at5 | exact at6)); (case q3 => exact Nat.le_of_ble_eq_true rfl); (case q4 => rfl))))
          | ((with_reducible refine ie_callf ?_); (first
          | ((with_reducible refine g_call 19 ?_); (first | refine Ef_callP rfl rfl ent_19 (fun w hp => hma w (hp.rd hr fun _ => List.not_mem_nil)) ?_))
          | ((with_reducible refine g_call 27 ?_); (first | refine Ef_callP rfl rfl ent_27 (fun w _ => hft w) ?_))
          | ((with_reducible refine g_call 18 ?_); (first | refine Ef_callP rfl rfl ent_18 (fun w hp => hof w (hp.rd hr fun _ => List.not_mem_nil)) ?_))
          | ((with_reducible refine g_call 28 ?_); (first | (refine Ef_callN rfl rfl ent_28 (fun w hp => hcp w (hp.in_old hx2)) ?_; rintro ⟨A2, c2⟩) | (refine Ef_callN rfl rfl ent_28 (fun w hp => hcq w (hp.in_old ha)) ?_; rintro ⟨A2, c2⟩)))
          | ((with_reducible refine g_call 31 ?_); (first | ((refine' Ef_callP rfl rfl ent_31 (fun w1 hp => hix w1 (hp.blkOf ?q1) (hp.rowOf ?q2)) ?_); (case q1 => (repeat (first | exact .head _ | apply List.Mem.tail))); (case q2 => (repeat (first | exact .head _ | apply List.Mem.tail))))))
          | ((with_reducible refine g_call 33 ?_); (first | (refine Ef_callX (φ := fun _ => True) [true, true] rfl rfl ent_33 rfl rfl rfl (fun w hp => hins _ _ _ _ _ hp) ?_; rintro ⟨A3, c3⟩ _) | (refine Ef_callX (φ := fun _ => True) [true, false, true] rfl rfl ent_33 rfl rfl rfl (fun w hp => hins _ _ _ _ _ hp) ?_; rintro ⟨A3, c3⟩ _)))))
          | (first | ((((refine' Ef_appG_row (news := mE _) rfl rfl rfl ?q1 ?q2 ?q3 (mE_one _) ?q4 ?q5 ?_); (case q1 => exact app_of rfl); (case q2 => (first | exact at0 | exact at1 | exact at2 | exact at3 | exact at4 | exact at5 | exact at6)); (case q3 => (repeat (first | exact .head _ | apply List.Mem.tail))); (case q4 => omega); (case q5 => omega))); (first | ((fail_if_success have := A1); intro A1 c1) | ((fail_if_success have := A2); intro A2 c2) | ((fail_if_success have := A3); intro A3 c3) | intro _ _)))
          | ((with_reducible refine g_draw ?_); (first | (((with_reducible refine' T.draw (id := 16) [(0, true), (1, true), (2, true), (3, true), (4, false), (5, false), (6, false), (7, false), (8, false), (9, false), (10, false)] [.blk b1 (.cells #[.int .i64 t] 3 (0, 0))] mixd ?q1 ?q2 ?_); (case q1 => kernel_rfl); (case q2 => (repeat (first | exact List.nil_sublist _ | refine List.Sublist.cons_cons _ ?_ | refine List.Sublist.cons _ ?_)))))))
          | refine w1 ?_
          | (refine w2 ?_ ?_ <;> intro hc)
          | (first | refine ⟨_, Yl_mkf rfl, ?_⟩)
          | (refine w4 ?_; (first | ((fail_if_success have := b1); intro b1) | ((fail_if_success have := b2); intro b2) | intro _))
          | (refine w5 ?_; (first | ((fail_if_success have := A1); intro A1 c1) | ((fail_if_success have := A2); intro A2 c2) | ((fail_if_success have := A3); intro A3 c3) | intro _ _))
          | refine w3 ?_ ?_
          | fail_if_success skip)
        refine loopH_n (j + 1, (A1, c1), ms) ?_ ?_ ⟨show j + 1 ≤ len by omega, by rw [take_snoc hx, List.map_append, List.filter_append, hms]; simp [Rl.fc, hxt]⟩ (show len - (j + 1) < len - j by omega)
        · (repeat (first | exact Sub.nil | refine Sub.cons rfl ?_))
        · exact fun _ hp => hp.ofPart (by (repeat (first | exact Part.nil | refine Part.p0 ?_ | refine Part.p1 ?_ | refine Part.p2 ?_ | refine Part.p3 ?_ | refine Part.p4 ?_ | refine Part.p5 ?_ | refine Part.p6 ?_)))
      · repeat' (first
          | ((with_reducible refine is_load ?_); (first | ((refine' ⟨_, Yl_loadA_at rfl ?qa ?qb ?ql ?qc, ?_⟩); (case qa => exact agg_of rfl); (case qb => (repeat (first | exact .head _ | apply List.Mem.tail))); (case qc => (first | exact mE_rE _)); (case ql => rfl))))
          | ((with_reducible refine is_build ?_); (first | refine ⟨_, Yl_build rfl (b_build55 _ _ _ _), ?_⟩))
          | ((with_reducible refine ie_store ?_); (first | ((refine' Ef_storeA' rfl rfl ?q1 (mE_one _) ?q2 ?q3 ?_); (case q1 => exact siz_of rfl); (case q2 => (first | exact at0 | exact at1 | exact at2 | exact at3 | exact at4 | exact at5 | exact at6)); (case q3 => rfl)) | ((refine' Ef_storeM (C' := (mE (x.1, (A2, c2))).toArray) rfl rfl ?q1 (rE_all _ _) ?q2 ?q3 ?q4 ?_); (case q1 => exact siz_of rfl); (case q2 => (first | exact at0 | exact at1 | exact at2 | exact at3 | exact at4 | exact at5 | exact at6)); (case q3 => exact Nat.le_of_ble_eq_true rfl); (case q4 => rfl))))
          | ((with_reducible refine ie_callf ?_); (first
          | ((with_reducible refine g_call 19 ?_); (first | refine Ef_callP rfl rfl ent_19 (fun w hp => hma w (hp.rd hr fun _ => List.not_mem_nil)) ?_))
          | ((with_reducible refine g_call 27 ?_); (first | refine Ef_callP rfl rfl ent_27 (fun w _ => hft w) ?_))
          | ((with_reducible refine g_call 18 ?_); (first | refine Ef_callP rfl rfl ent_18 (fun w hp => hof w (hp.rd hr fun _ => List.not_mem_nil)) ?_))
          | ((with_reducible refine g_call 28 ?_); (first | (refine Ef_callN rfl rfl ent_28 (fun w hp => hcp w (hp.in_old hx2)) ?_; rintro ⟨A2, c2⟩) | (refine Ef_callN rfl rfl ent_28 (fun w hp => hcq w (hp.in_old ha)) ?_; rintro ⟨A2, c2⟩)))
          | ((with_reducible refine g_call 31 ?_); (first | ((refine' Ef_callP rfl rfl ent_31 (fun w1 hp => hix w1 (hp.blkOf ?q1) (hp.rowOf ?q2)) ?_); (case q1 => (repeat (first | exact .head _ | apply List.Mem.tail))); (case q2 => (repeat (first | exact .head _ | apply List.Mem.tail))))))
          | ((with_reducible refine g_call 33 ?_); (first | (refine Ef_callX (φ := fun _ => True) [true, true] rfl rfl ent_33 rfl rfl rfl (fun w hp => hins _ _ _ _ _ hp) ?_; rintro ⟨A3, c3⟩ _) | (refine Ef_callX (φ := fun _ => True) [true, false, true] rfl rfl ent_33 rfl rfl rfl (fun w hp => hins _ _ _ _ _ hp) ?_; rintro ⟨A3, c3⟩ _)))))
          | (first | ((((refine' Ef_appG_row (news := mE _) rfl rfl rfl ?q1 ?q2 ?q3 (mE_one _) ?q4 ?q5 ?_); (case q1 => exact app_of rfl); (case q2 => (first | exact at0 | exact at1 | exact at2 | exact at3 | exact at4 | exact at5 | exact at6)); (case q3 => (repeat (first | exact .head _ | apply List.Mem.tail))); (case q4 => omega); (case q5 => omega))); (first | ((fail_if_success have := A1); intro A1 c1) | ((fail_if_success have := A2); intro A2 c2) | ((fail_if_success have := A3); intro A3 c3) | intro _ _)))
          | ((with_reducible refine g_draw ?_); (first | (((with_reducible refine' T.draw (id := 16) [(0, true), (1, true), (2, true), (3, true), (4, false), (5, false), (6, false), (7, false), (8, false), (9, false), (10, false)] [.blk b1 (.cells #[.int .i64 t] 3 (0, 0))] mixd ?q1 ?q2 ?_); (case q1 => kernel_rfl); (case q2 => (repeat (first | exact List.nil_sublist _ | refine List.Sublist.cons_cons _ ?_ | refine List.Sublist.cons _ ?_)))))))
          | refine w1 ?_
          | (refine w2 ?_ ?_ <;> intro hc)
          | (first | refine ⟨_, Yl_mkf rfl, ?_⟩)
          | (refine w4 ?_; (first | ((fail_if_success have := b1); intro b1) | ((fail_if_success have := b2); intro b2) | intro _))
          | (refine w5 ?_; (first | ((fail_if_success have := A1); intro A1 c1) | ((fail_if_success have := A2); intro A2 c2) | ((fail_if_success have := A3); intro A3 c3) | intro _ _))
          | refine w3 ?_ ?_
          | fail_if_success skip)
        refine loopH_n (j + 1, (A3, c3), ms ++ [(x.1, (A2, c2))]) ?_ ?_ ⟨show j + 1 ≤ len by omega, by rw [take_snoc hx, List.map_append, List.map_append, List.filter_append, hms]; simp [Rl.fc, hxt]⟩ (show len - (j + 1) < len - j by omega)
        · rw [List.length_append]; (repeat (first | exact Sub.nil | refine Sub.cons rfl ?_))
        · intro w' hp
          have hp2 := (hp.ofPart (M' := [kA x.1.r (A2, c2), bag (ms.map mA), .row 55 77 (.slice A3 (ms.length + 1) c3) (ms.length + 1) (ms.flatMap mE ++ mE (x.1, (A2, c2))), .blk b2 (.cells (rE r h).toArray 30 (0, 0)), .blk b1 (.cells #[.int .i64 t] 3 (0, 0))]) (by (repeat (first | exact Part.nil | refine Part.p0 ?_ | refine Part.p1 ?_ | refine Part.p2 ?_ | refine Part.p3 ?_ | refine Part.p4 ?_ | refine Part.p5 ?_ | refine Part.p6 ?_)))).bagAdd
          dsimp only
          unfold rM
          rw [List.length_append, mE_snoc, List.map_append]
          exact hp2.ofPart (by (repeat (first | exact Part.nil | refine Part.p0 ?_ | refine Part.p1 ?_ | refine Part.p2 ?_ | refine Part.p3 ?_ | refine Part.p4 ?_ | refine Part.p5 ?_ | refine Part.p6 ?_)))
    · rw [List.take_of_length_le (by omega)] at hms
      have hix : ∀ w1 : World, w1.heap[b1]? = some (.cells #[.int .i64 t] 3 (0, 0)) → Rd w1 A1 ms.length 77 (ms.flatMap mE) → Sp Try.prog 31 [.slice A1 ms.length c1, .func (.func 32) #[] #[.pointer (some ⟨b1, 0, none⟩)]] w1 [] fun v N => v = .int .i64 (Rl.idx (fun x => decide (t < x.1.c)) ms) ∧ N = [] := fun w1 hb1 hr1 => indexf_c 32 #[.pointer (some ⟨b1, 0, none⟩)] (fun x => decide (t < x.1.c)) A1 ms.length c1 ms ent_32 w1 (fun w' hp' y _ => gt1_c b1 t y w' (hp'.blk_old hb1 List.not_mem_nil)) hr1 rfl (by omega)
      have hat := fun z : Hd => Rl.ins_at hM.so hms (⟨t, i, r⟩, z)
      have hins0 : ∀ k : Nat, k ≤ ms.length → ∀ z B cv w R, Hp w R [.row 55 77 (.slice B 1 cv) 1 (mE (⟨t, i, r⟩, z)), rM ms (A1, c1)] w → Sp Try.prog 33 [.slice A1 ms.length c1, .int .i64 (k : Int), .slice B 1 cv] w R fun v N => ∃ y : Option Addr × Nat, True ∧ v = .slice y.1 (insM ms k (⟨t, i, r⟩, z)).length y.2 ∧ N = [rM (insM ms k (⟨t, i, r⟩, z)) y] := fun k hkl z B cv w R hp =>
        (ins_c A1 c1 ms B cv (⟨t, i, r⟩, z) k w R hkl (by omega) hp).mono fun v N ⟨y, h1, h2⟩ => ⟨y, trivial, h1, h2⟩
      have hcase : (Rl.idx (fun x => decide (t < x.1.c)) ms = -1 ∧ ∀ z : Hd, (insM ms ms.length (⟨t, i, r⟩, z)).map (·.1) = Rl.put Rl.fc (l.map (·.1)) t ⟨t, i, r⟩) ∨ ∃ k : Nat, k ≤ ms.length ∧ Rl.idx (fun x => decide (t < x.1.c)) ms = (k : Int) ∧ ∀ z : Hd, (insM ms k (⟨t, i, r⟩, z)).map (·.1) = Rl.put Rl.fc (l.map (·.1)) t ⟨t, i, r⟩ := by
        rcases hat (none, 0) with ⟨h1, h2⟩ | ⟨k, h1, h2, h3⟩
        · refine .inl ⟨h1, fun z => ?_⟩
          rw [← h2]
          unfold insM
          simp only [List.map_append, List.map_cons]
        · refine .inr ⟨k, h1, h2, fun z => ?_⟩
          rw [← h3]
          unfold insM
          simp only [List.map_append, List.map_cons]
      clear hat hms
      rcases hcase with ⟨h1, h2⟩ | ⟨k, hkm, h1, h2⟩
      · rw [h1] at hix
        have hins := hins0 ms.length (Nat.le_refl _)
        clear hins0 h1
        repeat' (first
            | ((with_reducible refine is_load ?_); (first | ((refine' ⟨_, Yl_loadA_at rfl ?qa ?qb ?ql ?qc, ?_⟩); (case qa => exact agg_of rfl); (case qb => (repeat (first | exact .head _ | apply List.Mem.tail))); (case qc => (first | exact mE_rE _)); (case ql => rfl))))
            | ((with_reducible refine is_build ?_); (first | refine ⟨_, Yl_build rfl (b_build55 _ _ _ _), ?_⟩))
            | ((with_reducible refine ie_store ?_); (first | ((refine' Ef_storeA' rfl rfl ?q1 (mE_one _) ?q2 ?q3 ?_); (case q1 => exact siz_of rfl); (case q2 => (first | exact at0 | exact at1 | exact at2 | exact at3 | exact at4 | exact at5 | exact at6)); (case q3 => rfl)) | ((refine' Ef_storeM (C' := (mE (x.1, (A2, c2))).toArray) rfl rfl ?q1 (rE_all _ _) ?q2 ?q3 ?q4 ?_); (case q1 => exact siz_of rfl); (case q2 => (first | exact at0 | exact at1 | exact at2 | exact at3 | exact at4 | exact at5 | exact at6)); (case q3 => exact Nat.le_of_ble_eq_true rfl); (case q4 => rfl))))
            | ((with_reducible refine ie_callf ?_); (first
            | ((with_reducible refine g_call 19 ?_); (first | refine Ef_callP rfl rfl ent_19 (fun w hp => hma w (hp.rd hr fun _ => List.not_mem_nil)) ?_))
            | ((with_reducible refine g_call 27 ?_); (first | refine Ef_callP rfl rfl ent_27 (fun w _ => hft w) ?_))
            | ((with_reducible refine g_call 18 ?_); (first | refine Ef_callP rfl rfl ent_18 (fun w hp => hof w (hp.rd hr fun _ => List.not_mem_nil)) ?_))
            | ((with_reducible refine g_call 28 ?_); (first | (refine Ef_callN rfl rfl ent_28 (fun w hp => hcp w (hp.in_old hx2)) ?_; rintro ⟨A2, c2⟩) | (refine Ef_callN rfl rfl ent_28 (fun w hp => hcq w (hp.in_old ha)) ?_; rintro ⟨A2, c2⟩)))
            | ((with_reducible refine g_call 31 ?_); (first | ((refine' Ef_callP rfl rfl ent_31 (fun w1 hp => hix w1 (hp.blkOf ?q1) (hp.rowOf ?q2)) ?_); (case q1 => (repeat (first | exact .head _ | apply List.Mem.tail))); (case q2 => (repeat (first | exact .head _ | apply List.Mem.tail))))))
            | ((with_reducible refine g_call 33 ?_); (first | (refine Ef_callX (φ := fun _ => True) [true, true] rfl rfl ent_33 rfl rfl rfl (fun w hp => hins _ _ _ _ _ hp) ?_; rintro ⟨A3, c3⟩ _) | (refine Ef_callX (φ := fun _ => True) [true, false, true] rfl rfl ent_33 rfl rfl rfl (fun w hp => hins _ _ _ _ _ hp) ?_; rintro ⟨A3, c3⟩ _)))))
            | (first | ((((refine' Ef_appG_row (news := mE _) rfl rfl rfl ?q1 ?q2 ?q3 (mE_one _) ?q4 ?q5 ?_); (case q1 => exact app_of rfl); (case q2 => (first | exact at0 | exact at1 | exact at2 | exact at3 | exact at4 | exact at5 | exact at6)); (case q3 => (repeat (first | exact .head _ | apply List.Mem.tail))); (case q4 => omega); (case q5 => omega))); (first | ((fail_if_success have := A1); intro A1 c1) | ((fail_if_success have := A2); intro A2 c2) | ((fail_if_success have := A3); intro A3 c3) | intro _ _)))
            | ((with_reducible refine g_draw ?_); (first | (((with_reducible refine' T.draw (id := 16) [(0, true), (1, true), (2, true), (3, true), (4, false), (5, false), (6, false), (7, false), (8, false), (9, false), (10, false)] [.blk b1 (.cells #[.int .i64 t] 3 (0, 0))] mixd ?q1 ?q2 ?_); (case q1 => kernel_rfl); (case q2 => (repeat (first | exact List.nil_sublist _ | refine List.Sublist.cons_cons _ ?_ | refine List.Sublist.cons _ ?_)))))))
            | refine w1 ?_
            | (refine w2 ?_ ?_ <;> intro hc)
            | (first | refine ⟨_, Yl_mkf rfl, ?_⟩)
            | (refine w4 ?_; (first | ((fail_if_success have := b1); intro b1) | ((fail_if_success have := b2); intro b2) | intro _))
            | (refine w5 ?_; (first | ((fail_if_success have := A1); intro A1 c1) | ((fail_if_success have := A2); intro A2 c2) | ((fail_if_success have := A3); intro A3 c3) | intro _ _))
            | refine w3 ?_ ?_
            | fail_if_success skip)
        exact ret_n [rM (insM ms ms.length (⟨t, i, r⟩, (A2, c2))) (A3, c3), kA r (A2, c2), bag (ms.map mA)] (res2 rfl rfl rfl) (by (repeat (first | exact List.nil_sublist _ | refine List.Sublist.cons_cons _ ?_ | refine List.Sublist.cons _ ?_))) ⟨((A3, c3), insM ms ms.length (⟨t, i, r⟩, (A2, c2))), h2 _, rfl, fun w' hp => Hp.bagIns hp⟩
      · rw [h1] at hix
        have hins := hins0 k hkm
        clear hins0 h1
        repeat' (first
            | ((with_reducible refine is_load ?_); (first | ((refine' ⟨_, Yl_loadA_at rfl ?qa ?qb ?ql ?qc, ?_⟩); (case qa => exact agg_of rfl); (case qb => (repeat (first | exact .head _ | apply List.Mem.tail))); (case qc => (first | exact mE_rE _)); (case ql => rfl))))
            | ((with_reducible refine is_build ?_); (first | refine ⟨_, Yl_build rfl (b_build55 _ _ _ _), ?_⟩))
            | ((with_reducible refine ie_store ?_); (first | ((refine' Ef_storeA' rfl rfl ?q1 (mE_one _) ?q2 ?q3 ?_); (case q1 => exact siz_of rfl); (case q2 => (first | exact at0 | exact at1 | exact at2 | exact at3 | exact at4 | exact at5 | exact at6)); (case q3 => rfl)) | ((refine' Ef_storeM (C' := (mE (x.1, (A2, c2))).toArray) rfl rfl ?q1 (rE_all _ _) ?q2 ?q3 ?q4 ?_); (case q1 => exact siz_of rfl); (case q2 => (first | exact at0 | exact at1 | exact at2 | exact at3 | exact at4 | exact at5 | exact at6)); (case q3 => exact Nat.le_of_ble_eq_true rfl); (case q4 => rfl))))
            | ((with_reducible refine ie_callf ?_); (first
            | ((with_reducible refine g_call 19 ?_); (first | refine Ef_callP rfl rfl ent_19 (fun w hp => hma w (hp.rd hr fun _ => List.not_mem_nil)) ?_))
            | ((with_reducible refine g_call 27 ?_); (first | refine Ef_callP rfl rfl ent_27 (fun w _ => hft w) ?_))
            | ((with_reducible refine g_call 18 ?_); (first | refine Ef_callP rfl rfl ent_18 (fun w hp => hof w (hp.rd hr fun _ => List.not_mem_nil)) ?_))
            | ((with_reducible refine g_call 28 ?_); (first | (refine Ef_callN rfl rfl ent_28 (fun w hp => hcp w (hp.in_old hx2)) ?_; rintro ⟨A2, c2⟩) | (refine Ef_callN rfl rfl ent_28 (fun w hp => hcq w (hp.in_old ha)) ?_; rintro ⟨A2, c2⟩)))
            | ((with_reducible refine g_call 31 ?_); (first | ((refine' Ef_callP rfl rfl ent_31 (fun w1 hp => hix w1 (hp.blkOf ?q1) (hp.rowOf ?q2)) ?_); (case q1 => (repeat (first | exact .head _ | apply List.Mem.tail))); (case q2 => (repeat (first | exact .head _ | apply List.Mem.tail))))))
            | ((with_reducible refine g_call 33 ?_); (first | (refine Ef_callX (φ := fun _ => True) [true, true] rfl rfl ent_33 rfl rfl rfl (fun w hp => hins _ _ _ _ _ hp) ?_; rintro ⟨A3, c3⟩ _) | (refine Ef_callX (φ := fun _ => True) [true, false, true] rfl rfl ent_33 rfl rfl rfl (fun w hp => hins _ _ _ _ _ hp) ?_; rintro ⟨A3, c3⟩ _)))))
            | (first | ((((refine' Ef_appG_row (news := mE _) rfl rfl rfl ?q1 ?q2 ?q3 (mE_one _) ?q4 ?q5 ?_); (case q1 => exact app_of rfl); (case q2 => (first | exact at0 | exact at1 | exact at2 | exact at3 | exact at4 | exact at5 | exact at6)); (case q3 => (repeat (first | exact .head _ | apply List.Mem.tail))); (case q4 => omega); (case q5 => omega))); (first | ((fail_if_success have := A1); intro A1 c1) | ((fail_if_success have := A2); intro A2 c2) | ((fail_if_success have := A3); intro A3 c3) | intro _ _)))
            | ((with_reducible refine g_draw ?_); (first | (((with_reducible refine' T.draw (id := 16) [(0, true), (1, true), (2, true), (3, true), (4, false), (5, false), (6, false), (7, false), (8, false), (9, false), (10, false)] [.blk b1 (.cells #[.int .i64 t] 3 (0, 0))] mixd ?q1 ?q2 ?_); (case q1 => kernel_rfl); (case q2 => (repeat (first | exact List.nil_sublist _ | refine List.Sublist.cons_cons _ ?_ | refine List.Sublist.cons _ ?_)))))))
            | refine w1 ?_
            | (refine w2 ?_ ?_ <;> intro hc)
            | (first | refine ⟨_, Yl_mkf rfl, ?_⟩)
            | (refine w4 ?_; (first | ((fail_if_success have := b1); intro b1) | ((fail_if_success have := b2); intro b2) | intro _))
            | (refine w5 ?_; (first | ((fail_if_success have := A1); intro A1 c1) | ((fail_if_success have := A2); intro A2 c2) | ((fail_if_success have := A3); intro A3 c3) | intro _ _))
            | refine w3 ?_ ?_
            | fail_if_success skip)
        exact ret_n [rM (insM ms k (⟨t, i, r⟩, (A2, c2))) (A3, c3), kA r (A2, c2), bag (ms.map mA)] (res2 rfl rfl rfl) (by (repeat (first | exact List.nil_sublist _ | refine List.Sublist.cons_cons _ ?_ | refine List.Sublist.cons _ ?_))) ⟨((A3, c3), insM ms k (⟨t, i, r⟩, (A2, c2))), h2 _, rfl, fun w' hp => Hp.bagIns hp⟩

theorem note_c : Sp Try.prog 22 [.slice A len cap, .int .i64 t, .int .i64 i, .agg (rE r h).toArray] w [] fun v N => ∃ y : Hd × List Me, y.2.map (·.1) = (Rl.note (l.map (·.1)) t i r).1 ∧ v = .tuple #[.slice y.1.1 y.2.length y.1.2, .int .i64 (Rl.note (l.map (·.1)) t i r).2] ∧ N = [rM y.2 y.1, bag (y.2.map mA)] :=
  Sp.mem (note0_c A len cap l t i r h w hr hl hle hin h4 ha hk) fun _ _ ⟨y, h1, h2, h3⟩ => ⟨_, h3, y, h1, h2, rfl⟩
end
end Go.Proofs.Ythiacfpfgdoliaa
