/- The laws on what is enough, and on there and back: what a call of each comes to. -/
import Derived.Test.YtjcgahlpfnclkaaL2
namespace Go.Proofs.Ytjcgahlpfnclkaa
open Go.RowKit
set_option maxRecDepth 20000

theorem wrap_mod (i m : Int) (h0 : 0 < m) (h1 : m ≤ 100000) : IntKind.wrap .i64 (IntKind.wrap .u64 i % m) = IntKind.wrap .u64 i % m := by
  have h2 := Int.emod_nonneg (IntKind.wrap .u64 i) (Int.ne_of_gt h0)
  have h3 := Int.emod_lt_of_pos (IntKind.wrap .u64 i) h0
  generalize IntKind.wrap .u64 i % m = z at h2 h3 ⊢
  simp [IntKind.wrap, IntKind.signed, IntKind.bits]; omega
theorem wrap_small (i : Int) (h0 : 0 ≤ i) (h1 : i ≤ 100000) : IntKind.wrap .i64 i = i := by
  simp [IntKind.wrap, IntKind.signed, IntKind.bits]; omega
theorem wrap_small' (i : Int) (h0 : 0 ≤ i) (h1 : i ≤ 100000) : IntKind.wrap .u64 i = i := by
  simp [IntKind.wrap, IntKind.signed, IntKind.bits]; omega

theorem Qt.put_put {l : List S} (hu : Qt.Up l) {y z : S} (hy : y ∈ l) (hz : z.1 = y.1) : Qt.put (Qt.put l z) y = l :=
  Qt.up_ext (Qt.up_put (Qt.up_put hu z) y) hu fun v => by
    rw [Qt.mem_put, Qt.mem_put]
    constructor
    · rintro (rfl | ⟨rfl | ⟨h1, _⟩, h2⟩)
      · exact hy
      · exact absurd hz h2
      · exact h1
    · intro hv
      by_cases h : v.1 = y.1
      · exact .inl (Qt.up_inj hu hv hy h)
      · exact .inr ⟨.inr ⟨hv, by rw [hz]; exact h⟩, h⟩

section
variable (A : Option Addr) (len cap : Nat) (l : List S) (w : World) (hr : Rd w A len 3 (l.flatMap sE)) (hl : l.length = len) (hb24 : len * 24 ≤ 140737488355328)
include hr hl hb24
set_option maxHeartbeats 8000000 in
theorem enough_c (t k s : Int) : Sp Try.prog 3 [.slice A len cap, .int .i64 t, .int .i64 k, .int .i64 s] w [] fun v N => v = .bool true ∧ N = [] := by
  obtain ⟨p, hp⟩ : ∃ p, Qt.may l = p := ⟨_, rfl⟩
  have hm1 := fun A1 c1 w h => may_v A1 l.length c1 l p w h rfl hp
  have ho1 := fun A1 c1 w h => of_c A1 l.length c1 l (1 + IntKind.wrap .u64 t % 8) w h rfl (by omega)
  obtain ⟨x, hx⟩ : ∃ x : S, x = (1 + IntKind.wrap .u64 t % 8, IntKind.wrap .u64 k % 65, IntKind.wrap .u64 s % 4097) := ⟨_, rfl⟩
  by_cases hq : p = true ∧ Qt.of l (1 + IntKind.wrap .u64 t % 8) = none
  · obtain ⟨rfl, hno⟩ := hq
    rw [hno] at ho1
    have hm := (Qt.may_iff l).1 hp
    have h8 := hm.len
    have hsb := Qt.sums_le l hm.ok
    have hsx : Qt.share x = true := (Qt.share_iff x).2 (by rw [hx]; dsimp only; omega)
    have hlf := fun A1 c1 w h => left_c A1 l.length c1 l w h rfl
    have elf : Qt.left l = (64 - Qt.sK l, 4096 - Qt.sS l) := by unfold Qt.left; rw [if_pos hp]
    rw [elf] at hlf
    dsimp only at hlf
    have hc3 := fun A1 c1 w h => reserve_c A1 l.length c1 l x w h rfl
    have er : Qt.reserve l x = Qt.putA l x := by unfold Qt.reserve; rw [if_pos ⟨hp, hsx⟩, show Qt.of l x.1 = none by rw [hx]; exact hno]; rfl
    rw [er] at hc3
    have hsum := Qt.sums_put (l := l) x
    rw [Qt.del_none (show Qt.of l x.1 = none by rw [hx]; exact hno)] at hsum
    have hpl := Qt.put_len (l := l) x
    rw [Qt.del_none (show Qt.of l x.1 = none by rw [hx]; exact hno)] at hpl
    have hps := Qt.shares_put hm.toShares hsx
    by_cases hf : Qt.fits (Qt.put l x) = true
    · have ep : Qt.putA l x = (Qt.put l x, 0) := by unfold Qt.putA; rw [if_pos hf]
      rw [ep] at hc3
      dsimp only at hc3
      have hfd : Qt.sK (Qt.put l x) ≤ 64 ∧ Qt.sS (Qt.put l x) ≤ 4096 := of_decide_eq_true hf
      have hlg := fun A9 c9 w h => left_c A9 (Qt.put l x).length c9 (Qt.put l x) w h rfl
      have elg : Qt.left (Qt.put l x) = (64 - Qt.sK (Qt.put l x), 4096 - Qt.sS (Qt.put l x)) := by
        unfold Qt.left
        rw [if_pos (by unfold Qt.may; rw [(Qt.shares_iff _).2 hps, hf]; rfl)]
      rw [elg] at hlg
      dsimp only at hlg
      generalize Qt.put l x = m at *
      subst hx
      dsimp only at hsum
      refine Sp.enter (n := 115) Try.func3 rfl rfl rfl (Hp.refl w) ?_
      repeat' (first
          | with_reducible refine T.seq ?_
          | with_reducible refine T.block ?_
          | with_reducible refine T.region ?_
          | with_reducible refine T.skip ?_
          | with_reducible refine T.scope ?_
          | with_reducible refine T.label ?_
          | with_reducible refine scopeQ_n ?_
          | with_reducible refine scopeQ_r ?_
          | with_reducible refine scopeQ_x ?_
          | with_reducible refine T.ret ?_
          | with_reducible refine T.exit ?_
          | with_reducible refine seqQ_n ?_
          | with_reducible refine seqQ_x ?_
          | with_reducible refine seqQ_r ?_
          | with_reducible refine blockQ_n ?_
          | with_reducible refine blockQ_r ?_
          | with_reducible refine blockQ_x ?_
          | ((with_reducible refine g_blkx ?_); refine blockQ_y rfl ?_)
          | with_reducible refine loopQ_x ?_
          | with_reducible refine loopQ_r ?_
          | with_reducible refine joinQ_r ?_
          | with_reducible refine joinQ_x ?_
          | ((with_reducible refine g_cond ?_); (first | refine T.cond_t rfl ?_ | refine T.cond_f rfl ?_ | (refine T.cond_s rfl ?_ ?_ <;> intro hc)))
          | with_reducible refine TL_nil ?_
          | with_reducible refine TS_nil ?_
          | ((with_reducible refine TL_y' ?hy ?hd ?_); (case hy => rfl); (case hd => rfl))
          | with_reducible refine TL_e ?_
          | ((with_reducible refine g_TL ?_); (first | refine TL_gy' rfl rfl rfl rfl ?_ | refine TL_gn rfl rfl rfl ?_ | refine TL_gu rfl rfl rfl ?_ | refine TL_ge rfl rfl ?_ | refine TL_gn0 rfl rfl ?_))
          | ((with_reducible refine g_TS ?_); (first | refine TS_y rfl rfl ?_ | refine TS_e rfl ?_ | refine TS_gy rfl rfl rfl rfl ?_ | refine TS_gn rfl rfl rfl rfl ?_ | refine TS_gu rfl rfl rfl rfl ?_ | refine TS_ge rfl rfl rfl ?_ | refine TS_gne rfl rfl rfl rfl ?_ | refine TS_gue rfl rfl rfl rfl ?_ | refine TS_gne0 rfl rfl rfl ?_))
          | ((with_reducible refine TSand ?hd ?_); (case hd => (repeat (first | exact List.nil_sublist _ | refine List.Sublist.cons_cons _ ?_ | refine List.Sublist.cons _ ?_))))
          | ((with_reducible refine TBand ?hd ?_); (case hd => (repeat (first | exact List.nil_sublist _ | refine List.Sublist.cons_cons _ ?_ | refine List.Sublist.cons _ ?_))))
          | ((with_reducible refine g_TB ?_); (first | with_reducible refine TB_run ?_ | refine TB_y rfl rfl ?_ | refine TB_b rfl rfl ?_ ?_ | refine TB_e rfl ?_))
          | ((with_reducible refine is_move ?_); refine ⟨_, Yl_move rfl, ?_⟩)
          | ((with_reducible refine is_assign ?_); refine ⟨_, Yl_assign rfl, ?_⟩)
          | ((with_reducible refine is_pick ?_); (first | refine ⟨_, Yl_pick_t rfl rfl, ?_⟩ | refine ⟨_, Yl_pick_f rfl rfl, ?_⟩))
          | ((with_reducible refine is_ext ?_); refine ⟨_, Yl_extract rfl rfl, ?_⟩)
          | ((with_reducible refine is_un ?_); refine ⟨_, Yl_not rfl, ?_⟩)
          | ((with_reducible refine is_len ?_); (first | ((refine' ⟨_, Yl_len_slice rfl ?q1, ?_⟩); (case q1 => exact und_of rfl)) | ((refine' ⟨_, Yl_len_string rfl ?q1, ?_⟩); (case q1 => exact und_of rfl))))
          | ((with_reducible refine is_b_gtr ?_); (first | ((refine' ⟨_, Yl_gtr_t rfl rfl ?q1, ?_⟩); (case q1 => omega)) | ((refine' ⟨_, Yl_gtr_f rfl rfl ?q1, ?_⟩); (case q1 => omega)) | (refine sp_gtr rfl rfl ?_ ?_ <;> intro hc)))
          | ((with_reducible refine is_b_eql ?_); (first
          | ((refine' ⟨_, Yl_eql_t rfl rfl ?q1, ?_⟩); (case q1 => omega))
          | ((refine' ⟨_, Yl_eql_f rfl rfl ?q1, ?_⟩); (case q1 => omega))
          | (refine sp_eql rfl rfl ?_ ?_ <;> intro hc)
          | ((refine' ⟨_, Yl_convI (k := .i64) (k' := .u64) rfl ?q1 ?q2 wl, ?_⟩); (case q1 => exact und_of rfl); (case q2 => exact und_of rfl))
          | ((refine' ⟨_, Yl_convI (k := .u64) (k' := .i64) rfl ?q1 ?q2 wj, ?_⟩); (case q1 => exact und_of rfl); (case q2 => exact und_of rfl))
          | ((refine' ⟨_, Yl_convI (k := .u64) (k' := .i64) rfl ?q1 ?q2 (wrap_mod _ 8 ?q3 ?q4), ?_⟩); (case q1 => exact und_of rfl); (case q2 => exact und_of rfl); (case q3 => decide); (case q4 => decide))
          | ((refine' ⟨_, Yl_convI (k := .u64) (k' := .i64) rfl ?q1 ?q2 (wrap_mod _ 65 ?q3 ?q4), ?_⟩); (case q1 => exact und_of rfl); (case q2 => exact und_of rfl); (case q3 => decide); (case q4 => decide))
          | ((refine' ⟨_, Yl_convI (k := .u64) (k' := .i64) rfl ?q1 ?q2 (wrap_mod _ 4097 ?q3 ?q4), ?_⟩); (case q1 => exact und_of rfl); (case q2 => exact und_of rfl); (case q3 => decide); (case q4 => decide))
          | ((refine' ⟨_, Yl_convW (k := .i64) (k' := .u64) rfl ?q1 ?q2, ?_⟩); (case q1 => exact und_of rfl); (case q2 => exact und_of rfl))
          | ((refine' ⟨_, Yl_remE rfl rfl (wrap_u64_lo _) ?q1 hj, ?_⟩); (case q1 => omega))
          | ((refine' ⟨_, Yl_remE rfl rfl (wrap_u64_lo _) ?q1 rfl, ?_⟩); (case q1 => decide))
          | ((refine' ⟨_, Yl_eql_bool rfl rfl ?q1, ?_⟩); (case q1 => exact und_of rfl))
          | ((refine' ⟨_, Yl_eql_strT rfl rfl ?q1, ?_⟩); (case q1 => first | assumption | rfl))
          | ((refine' ⟨_, Yl_eql_strF rfl rfl ?q1, ?_⟩); (case q1 => first | assumption | decide))
          | (refine sp_eqlS rfl rfl ?_ ?_ <;> intro hc)))
          | ((with_reducible refine is_b_add ?_); (first
          | ((refine' ⟨_, Yl_add rfl rfl ?q1 ?q2, ?_⟩); (case q1 => omega); (case q2 => omega))
          | ((refine' ⟨_, Yl_add8 rfl rfl ?q1 ?q2, ?_⟩); (case q1 => omega); (case q2 => omega))
          | ((refine' ⟨_, Yl_convI (k := .i64) (k' := .u64) rfl ?q1 ?q2 wl, ?_⟩); (case q1 => exact und_of rfl); (case q2 => exact und_of rfl))
          | ((refine' ⟨_, Yl_convI (k := .u64) (k' := .i64) rfl ?q1 ?q2 wj, ?_⟩); (case q1 => exact und_of rfl); (case q2 => exact und_of rfl))
          | ((refine' ⟨_, Yl_convI (k := .u64) (k' := .i64) rfl ?q1 ?q2 (wrap_mod _ 8 ?q3 ?q4), ?_⟩); (case q1 => exact und_of rfl); (case q2 => exact und_of rfl); (case q3 => decide); (case q4 => decide))
          | ((refine' ⟨_, Yl_convI (k := .u64) (k' := .i64) rfl ?q1 ?q2 (wrap_mod _ 65 ?q3 ?q4), ?_⟩); (case q1 => exact und_of rfl); (case q2 => exact und_of rfl); (case q3 => decide); (case q4 => decide))
          | ((refine' ⟨_, Yl_convI (k := .u64) (k' := .i64) rfl ?q1 ?q2 (wrap_mod _ 4097 ?q3 ?q4), ?_⟩); (case q1 => exact und_of rfl); (case q2 => exact und_of rfl); (case q3 => decide); (case q4 => decide))
          | ((refine' ⟨_, Yl_convW (k := .i64) (k' := .u64) rfl ?q1 ?q2, ?_⟩); (case q1 => exact und_of rfl); (case q2 => exact und_of rfl))
          | ((refine' ⟨_, Yl_remE rfl rfl (wrap_u64_lo _) ?q1 hj, ?_⟩); (case q1 => omega))
          | ((refine' ⟨_, Yl_remE rfl rfl (wrap_u64_lo _) ?q1 rfl, ?_⟩); (case q1 => decide))))
          | ((with_reducible refine is_b_sub ?_); (first
          | ((refine' ⟨_, Yl_sub rfl rfl ?q1 ?q2, ?_⟩); (case q1 => omega); (case q2 => omega))
          | ((refine' ⟨_, Yl_convI (k := .i64) (k' := .u64) rfl ?q1 ?q2 wl, ?_⟩); (case q1 => exact und_of rfl); (case q2 => exact und_of rfl))
          | ((refine' ⟨_, Yl_convI (k := .u64) (k' := .i64) rfl ?q1 ?q2 wj, ?_⟩); (case q1 => exact und_of rfl); (case q2 => exact und_of rfl))
          | ((refine' ⟨_, Yl_convI (k := .u64) (k' := .i64) rfl ?q1 ?q2 (wrap_mod _ 8 ?q3 ?q4), ?_⟩); (case q1 => exact und_of rfl); (case q2 => exact und_of rfl); (case q3 => decide); (case q4 => decide))
          | ((refine' ⟨_, Yl_convI (k := .u64) (k' := .i64) rfl ?q1 ?q2 (wrap_mod _ 65 ?q3 ?q4), ?_⟩); (case q1 => exact und_of rfl); (case q2 => exact und_of rfl); (case q3 => decide); (case q4 => decide))
          | ((refine' ⟨_, Yl_convI (k := .u64) (k' := .i64) rfl ?q1 ?q2 (wrap_mod _ 4097 ?q3 ?q4), ?_⟩); (case q1 => exact und_of rfl); (case q2 => exact und_of rfl); (case q3 => decide); (case q4 => decide))
          | ((refine' ⟨_, Yl_convW (k := .i64) (k' := .u64) rfl ?q1 ?q2, ?_⟩); (case q1 => exact und_of rfl); (case q2 => exact und_of rfl))
          | ((refine' ⟨_, Yl_remE rfl rfl (wrap_u64_lo _) ?q1 hj, ?_⟩); (case q1 => omega))
          | ((refine' ⟨_, Yl_remE rfl rfl (wrap_u64_lo _) ?q1 rfl, ?_⟩); (case q1 => decide))))
          | ((with_reducible refine is_build ?_); (first | refine ⟨_, Yl_build rfl (s_build _ _ _), ?_⟩))
          | (first
          | ((refine' ⟨_, Yl_convI (k := .i64) (k' := .u64) rfl ?q1 ?q2 wl, ?_⟩); (case q1 => exact und_of rfl); (case q2 => exact und_of rfl))
          | ((refine' ⟨_, Yl_convI (k := .u64) (k' := .i64) rfl ?q1 ?q2 wj, ?_⟩); (case q1 => exact und_of rfl); (case q2 => exact und_of rfl))
          | ((refine' ⟨_, Yl_convI (k := .u64) (k' := .i64) rfl ?q1 ?q2 (wrap_mod _ 8 ?q3 ?q4), ?_⟩); (case q1 => exact und_of rfl); (case q2 => exact und_of rfl); (case q3 => decide); (case q4 => decide))
          | ((refine' ⟨_, Yl_convI (k := .u64) (k' := .i64) rfl ?q1 ?q2 (wrap_mod _ 65 ?q3 ?q4), ?_⟩); (case q1 => exact und_of rfl); (case q2 => exact und_of rfl); (case q3 => decide); (case q4 => decide))
          | ((refine' ⟨_, Yl_convI (k := .u64) (k' := .i64) rfl ?q1 ?q2 (wrap_mod _ 4097 ?q3 ?q4), ?_⟩); (case q1 => exact und_of rfl); (case q2 => exact und_of rfl); (case q3 => decide); (case q4 => decide))
          | ((refine' ⟨_, Yl_convW (k := .i64) (k' := .u64) rfl ?q1 ?q2, ?_⟩); (case q1 => exact und_of rfl); (case q2 => exact und_of rfl))
          | ((refine' ⟨_, Yl_remE rfl rfl (wrap_u64_lo _) ?q1 hj, ?_⟩); (case q1 => omega))
          | ((refine' ⟨_, Yl_remE rfl rfl (wrap_u64_lo _) ?q1 rfl, ?_⟩); (case q1 => decide)))
          | ((with_reducible refine ie_store ?_); (first
          | ((refine' Ef_store_row1 rfl rfl ?q1 ?q2 ?q3 ?q4 ?q5 ?_); (case q1 => rfl); (case q2 => exact siz_of rfl); (case q3 => (first | exact at0 | exact at1 | exact at2 | exact at3 | exact at4 | exact at5 | exact at6)); (case q4 => omega); (case q5 => assumption))
          | ((refine' Ef_store_rowA rfl rfl ?q1 ?q2 ?q3 ?q4 ?q5 ?q6 ?_); (case q1 => exact siz_of rfl); (case q2 => rfl); (case q3 => (first | assumption | (intro u hu; rcases hu with _ | ⟨_, _ | ⟨_, _ | ⟨_, _ | ⟨_, hu⟩⟩⟩⟩ <;> first | rfl | (cases hu; done)))); (case q4 => (first | exact at0 | exact at1 | exact at2 | exact at3 | exact at4 | exact at5 | exact at6)); (case q5 => omega); (case q6 => assumption))
          | ((refine' Ef_storeA' rfl rfl ?q1 ?q2 ?q3 ?q4 ?_); (case q1 => exact siz_of rfl); (case q2 => (first | assumption | (intro u hu; rcases hu with _ | ⟨_, _ | ⟨_, _ | ⟨_, _ | ⟨_, hu⟩⟩⟩⟩ <;> first | rfl | (cases hu; done)))); (case q3 => (first | exact at0 | exact at1 | exact at2 | exact at3 | exact at4 | exact at5 | exact at6)); (case q4 => rfl))
          | ((refine' Ef_storeC rfl rfl ?q1 ?q2 ?q3 ?q4 ?q5 ?_); (case q1 => rfl); (case q2 => exact siz_of rfl); (case q3 => (first | exact at0 | exact at1 | exact at2 | exact at3 | exact at4 | exact at5 | exact at6)); (case q4 => exact Nat.le_of_ble_eq_true rfl); (case q5 => rfl))))
          | ((with_reducible refine ie_callf ?_); (first
          | ((with_reducible refine g_call 8 ?_); (first | (refine Ef_callN rfl rfl ent_8 (fun w hp => to_c A len cap l w (hp.rd hr fun _ => List.not_mem_nil) hl hb24) ?_; rintro ⟨A1, c1⟩)))
          | ((with_reducible refine g_call 11 ?_); (first | refine Ef_callP rfl rfl ent_11 (fun w _ => awake_c w) ?_))
          | ((with_reducible refine g_call 9 ?_); (first | ((refine' Ef_callP rfl rfl ent_9 (fun w hp => ho1 A1 c1 w (hp.rowOf ?q1)) ?_); (case q1 => (repeat (first | exact .head _ | apply List.Mem.tail))))))
          | ((with_reducible refine g_call 10 ?_); (first | ((refine' Ef_callP rfl rfl ent_10 (fun w hp => hm1 A1 c1 w (hp.rowOf ?q1)) ?_); (case q1 => (repeat (first | exact .head _ | apply List.Mem.tail))))))
          | ((with_reducible refine g_call 12 ?_); (first | ((refine' Ef_callP rfl rfl ent_12 (fun w hp => hlf A1 c1 w (hp.rowOf ?q1)) ?_); (case q1 => (repeat (first | exact .head _ | apply List.Mem.tail)))) | ((refine' Ef_callP rfl rfl ent_12 (fun w hp => hlg A9 c9 w (hp.rowOf ?q1)) ?_); (case q1 => (repeat (first | exact .head _ | apply List.Mem.tail))))))
          | ((with_reducible refine g_call 13 ?_); (first | (((refine' Ef_callN rfl rfl ent_13 (fun w hp => hc3 A1 c1 w (hp.rowOf ?q1)) ?_); (case q1 => (repeat (first | exact .head _ | apply List.Mem.tail)))); rintro ⟨A9, c9⟩)))))
          | ((first  | ((with_reducible refine ie_alloc ?_); (((refine' Ef_alloc rfl ?q1 ?_); (case q1 => exact zer_of rfl))))); (first | ((fail_if_success have := b1); intro b1) | ((fail_if_success have := b2); intro b2) | ((fail_if_success have := b3); intro b3) | ((fail_if_success have := b4); intro b4) | ((fail_if_success have := b5); intro b5) | ((fail_if_success have := b6); intro b6) | ((fail_if_success have := b7); intro b7) | ((fail_if_success have := b8); intro b8) | ((fail_if_success have := b9); intro b9) | ((fail_if_success have := b10); intro b10) | ((fail_if_success have := b11); intro b11) | ((fail_if_success have := b12); intro b12)))
          | (fail; (first | ((fail_if_success have := A1); intro A1 c1) | ((fail_if_success have := A2); intro A2 c2) | ((fail_if_success have := A3); intro A3 c3) | ((fail_if_success have := A4); intro A4 c4) | ((fail_if_success have := A5); intro A5 c5) | ((fail_if_success have := A6); intro A6 c6) | ((fail_if_success have := A7); intro A7 c7)))
          | refine Ef_y rfl rfl ?_
          | ((with_reducible refine ie_conv ?_); refine Ef_y' rfl ?_))
      exact ret_n [] (res1 rfl rfl) (List.nil_sublist _) ⟨rfl, rfl⟩
    · have ep : Qt.putA l x = ([], 120) := by unfold Qt.putA; rw [if_neg hf]
      rw [ep] at hc3
      simp only [List.length_nil] at hc3
      have hfd : ¬ (Qt.sK (Qt.put l x) ≤ 64 ∧ Qt.sS (Qt.put l x) ≤ 4096) := fun h => hf (decide_eq_true h)
      generalize Qt.put l x = m at *
      subst hx
      dsimp only at hsum
      refine Sp.enter (n := 115) Try.func3 rfl rfl rfl (Hp.refl w) ?_
      repeat' (first
          | with_reducible refine T.seq ?_
          | with_reducible refine T.block ?_
          | with_reducible refine T.region ?_
          | with_reducible refine T.skip ?_
          | with_reducible refine T.scope ?_
          | with_reducible refine T.label ?_
          | with_reducible refine scopeQ_n ?_
          | with_reducible refine scopeQ_r ?_
          | with_reducible refine scopeQ_x ?_
          | with_reducible refine T.ret ?_
          | with_reducible refine T.exit ?_
          | with_reducible refine seqQ_n ?_
          | with_reducible refine seqQ_x ?_
          | with_reducible refine seqQ_r ?_
          | with_reducible refine blockQ_n ?_
          | with_reducible refine blockQ_r ?_
          | with_reducible refine blockQ_x ?_
          | ((with_reducible refine g_blkx ?_); refine blockQ_y rfl ?_)
          | with_reducible refine loopQ_x ?_
          | with_reducible refine loopQ_r ?_
          | with_reducible refine joinQ_r ?_
          | with_reducible refine joinQ_x ?_
          | ((with_reducible refine g_cond ?_); (first | refine T.cond_t rfl ?_ | refine T.cond_f rfl ?_ | (refine T.cond_s rfl ?_ ?_ <;> intro hc)))
          | with_reducible refine TL_nil ?_
          | with_reducible refine TS_nil ?_
          | ((with_reducible refine TL_y' ?hy ?hd ?_); (case hy => rfl); (case hd => rfl))
          | with_reducible refine TL_e ?_
          | ((with_reducible refine g_TL ?_); (first | refine TL_gy' rfl rfl rfl rfl ?_ | refine TL_gn rfl rfl rfl ?_ | refine TL_gu rfl rfl rfl ?_ | refine TL_ge rfl rfl ?_ | refine TL_gn0 rfl rfl ?_))
          | ((with_reducible refine g_TS ?_); (first | refine TS_y rfl rfl ?_ | refine TS_e rfl ?_ | refine TS_gy rfl rfl rfl rfl ?_ | refine TS_gn rfl rfl rfl rfl ?_ | refine TS_gu rfl rfl rfl rfl ?_ | refine TS_ge rfl rfl rfl ?_ | refine TS_gne rfl rfl rfl rfl ?_ | refine TS_gue rfl rfl rfl rfl ?_ | refine TS_gne0 rfl rfl rfl ?_))
          | ((with_reducible refine TSand ?hd ?_); (case hd => (repeat (first | exact List.nil_sublist _ | refine List.Sublist.cons_cons _ ?_ | refine List.Sublist.cons _ ?_))))
          | ((with_reducible refine TBand ?hd ?_); (case hd => (repeat (first | exact List.nil_sublist _ | refine List.Sublist.cons_cons _ ?_ | refine List.Sublist.cons _ ?_))))
          | ((with_reducible refine g_TB ?_); (first | with_reducible refine TB_run ?_ | refine TB_y rfl rfl ?_ | refine TB_b rfl rfl ?_ ?_ | refine TB_e rfl ?_))
          | ((with_reducible refine is_move ?_); refine ⟨_, Yl_move rfl, ?_⟩)
          | ((with_reducible refine is_assign ?_); refine ⟨_, Yl_assign rfl, ?_⟩)
          | ((with_reducible refine is_pick ?_); (first | refine ⟨_, Yl_pick_t rfl rfl, ?_⟩ | refine ⟨_, Yl_pick_f rfl rfl, ?_⟩))
          | ((with_reducible refine is_ext ?_); refine ⟨_, Yl_extract rfl rfl, ?_⟩)
          | ((with_reducible refine is_un ?_); refine ⟨_, Yl_not rfl, ?_⟩)
          | ((with_reducible refine is_len ?_); (first | ((refine' ⟨_, Yl_len_slice rfl ?q1, ?_⟩); (case q1 => exact und_of rfl)) | ((refine' ⟨_, Yl_len_string rfl ?q1, ?_⟩); (case q1 => exact und_of rfl))))
          | ((with_reducible refine is_b_gtr ?_); (first | ((refine' ⟨_, Yl_gtr_t rfl rfl ?q1, ?_⟩); (case q1 => omega)) | ((refine' ⟨_, Yl_gtr_f rfl rfl ?q1, ?_⟩); (case q1 => omega)) | (refine sp_gtr rfl rfl ?_ ?_ <;> intro hc)))
          | ((with_reducible refine is_b_eql ?_); (first
          | ((refine' ⟨_, Yl_eql_t rfl rfl ?q1, ?_⟩); (case q1 => omega))
          | ((refine' ⟨_, Yl_eql_f rfl rfl ?q1, ?_⟩); (case q1 => omega))
          | (refine sp_eql rfl rfl ?_ ?_ <;> intro hc)
          | ((refine' ⟨_, Yl_convI (k := .i64) (k' := .u64) rfl ?q1 ?q2 wl, ?_⟩); (case q1 => exact und_of rfl); (case q2 => exact und_of rfl))
          | ((refine' ⟨_, Yl_convI (k := .u64) (k' := .i64) rfl ?q1 ?q2 wj, ?_⟩); (case q1 => exact und_of rfl); (case q2 => exact und_of rfl))
          | ((refine' ⟨_, Yl_convI (k := .u64) (k' := .i64) rfl ?q1 ?q2 (wrap_mod _ 8 ?q3 ?q4), ?_⟩); (case q1 => exact und_of rfl); (case q2 => exact und_of rfl); (case q3 => decide); (case q4 => decide))
          | ((refine' ⟨_, Yl_convI (k := .u64) (k' := .i64) rfl ?q1 ?q2 (wrap_mod _ 65 ?q3 ?q4), ?_⟩); (case q1 => exact und_of rfl); (case q2 => exact und_of rfl); (case q3 => decide); (case q4 => decide))
          | ((refine' ⟨_, Yl_convI (k := .u64) (k' := .i64) rfl ?q1 ?q2 (wrap_mod _ 4097 ?q3 ?q4), ?_⟩); (case q1 => exact und_of rfl); (case q2 => exact und_of rfl); (case q3 => decide); (case q4 => decide))
          | ((refine' ⟨_, Yl_convW (k := .i64) (k' := .u64) rfl ?q1 ?q2, ?_⟩); (case q1 => exact und_of rfl); (case q2 => exact und_of rfl))
          | ((refine' ⟨_, Yl_remE rfl rfl (wrap_u64_lo _) ?q1 hj, ?_⟩); (case q1 => omega))
          | ((refine' ⟨_, Yl_remE rfl rfl (wrap_u64_lo _) ?q1 rfl, ?_⟩); (case q1 => decide))
          | ((refine' ⟨_, Yl_eql_bool rfl rfl ?q1, ?_⟩); (case q1 => exact und_of rfl))
          | ((refine' ⟨_, Yl_eql_strT rfl rfl ?q1, ?_⟩); (case q1 => first | assumption | rfl))
          | ((refine' ⟨_, Yl_eql_strF rfl rfl ?q1, ?_⟩); (case q1 => first | assumption | decide))
          | (refine sp_eqlS rfl rfl ?_ ?_ <;> intro hc)))
          | ((with_reducible refine is_b_add ?_); (first
          | ((refine' ⟨_, Yl_add rfl rfl ?q1 ?q2, ?_⟩); (case q1 => omega); (case q2 => omega))
          | ((refine' ⟨_, Yl_add8 rfl rfl ?q1 ?q2, ?_⟩); (case q1 => omega); (case q2 => omega))
          | ((refine' ⟨_, Yl_convI (k := .i64) (k' := .u64) rfl ?q1 ?q2 wl, ?_⟩); (case q1 => exact und_of rfl); (case q2 => exact und_of rfl))
          | ((refine' ⟨_, Yl_convI (k := .u64) (k' := .i64) rfl ?q1 ?q2 wj, ?_⟩); (case q1 => exact und_of rfl); (case q2 => exact und_of rfl))
          | ((refine' ⟨_, Yl_convI (k := .u64) (k' := .i64) rfl ?q1 ?q2 (wrap_mod _ 8 ?q3 ?q4), ?_⟩); (case q1 => exact und_of rfl); (case q2 => exact und_of rfl); (case q3 => decide); (case q4 => decide))
          | ((refine' ⟨_, Yl_convI (k := .u64) (k' := .i64) rfl ?q1 ?q2 (wrap_mod _ 65 ?q3 ?q4), ?_⟩); (case q1 => exact und_of rfl); (case q2 => exact und_of rfl); (case q3 => decide); (case q4 => decide))
          | ((refine' ⟨_, Yl_convI (k := .u64) (k' := .i64) rfl ?q1 ?q2 (wrap_mod _ 4097 ?q3 ?q4), ?_⟩); (case q1 => exact und_of rfl); (case q2 => exact und_of rfl); (case q3 => decide); (case q4 => decide))
          | ((refine' ⟨_, Yl_convW (k := .i64) (k' := .u64) rfl ?q1 ?q2, ?_⟩); (case q1 => exact und_of rfl); (case q2 => exact und_of rfl))
          | ((refine' ⟨_, Yl_remE rfl rfl (wrap_u64_lo _) ?q1 hj, ?_⟩); (case q1 => omega))
          | ((refine' ⟨_, Yl_remE rfl rfl (wrap_u64_lo _) ?q1 rfl, ?_⟩); (case q1 => decide))))
          | ((with_reducible refine is_b_sub ?_); (first
          | ((refine' ⟨_, Yl_sub rfl rfl ?q1 ?q2, ?_⟩); (case q1 => omega); (case q2 => omega))
          | ((refine' ⟨_, Yl_convI (k := .i64) (k' := .u64) rfl ?q1 ?q2 wl, ?_⟩); (case q1 => exact und_of rfl); (case q2 => exact und_of rfl))
          | ((refine' ⟨_, Yl_convI (k := .u64) (k' := .i64) rfl ?q1 ?q2 wj, ?_⟩); (case q1 => exact und_of rfl); (case q2 => exact und_of rfl))
          | ((refine' ⟨_, Yl_convI (k := .u64) (k' := .i64) rfl ?q1 ?q2 (wrap_mod _ 8 ?q3 ?q4), ?_⟩); (case q1 => exact und_of rfl); (case q2 => exact und_of rfl); (case q3 => decide); (case q4 => decide))
          | ((refine' ⟨_, Yl_convI (k := .u64) (k' := .i64) rfl ?q1 ?q2 (wrap_mod _ 65 ?q3 ?q4), ?_⟩); (case q1 => exact und_of rfl); (case q2 => exact und_of rfl); (case q3 => decide); (case q4 => decide))
          | ((refine' ⟨_, Yl_convI (k := .u64) (k' := .i64) rfl ?q1 ?q2 (wrap_mod _ 4097 ?q3 ?q4), ?_⟩); (case q1 => exact und_of rfl); (case q2 => exact und_of rfl); (case q3 => decide); (case q4 => decide))
          | ((refine' ⟨_, Yl_convW (k := .i64) (k' := .u64) rfl ?q1 ?q2, ?_⟩); (case q1 => exact und_of rfl); (case q2 => exact und_of rfl))
          | ((refine' ⟨_, Yl_remE rfl rfl (wrap_u64_lo _) ?q1 hj, ?_⟩); (case q1 => omega))
          | ((refine' ⟨_, Yl_remE rfl rfl (wrap_u64_lo _) ?q1 rfl, ?_⟩); (case q1 => decide))))
          | ((with_reducible refine is_build ?_); (first | refine ⟨_, Yl_build rfl (s_build _ _ _), ?_⟩))
          | (first
          | ((refine' ⟨_, Yl_convI (k := .i64) (k' := .u64) rfl ?q1 ?q2 wl, ?_⟩); (case q1 => exact und_of rfl); (case q2 => exact und_of rfl))
          | ((refine' ⟨_, Yl_convI (k := .u64) (k' := .i64) rfl ?q1 ?q2 wj, ?_⟩); (case q1 => exact und_of rfl); (case q2 => exact und_of rfl))
          | ((refine' ⟨_, Yl_convI (k := .u64) (k' := .i64) rfl ?q1 ?q2 (wrap_mod _ 8 ?q3 ?q4), ?_⟩); (case q1 => exact und_of rfl); (case q2 => exact und_of rfl); (case q3 => decide); (case q4 => decide))
          | ((refine' ⟨_, Yl_convI (k := .u64) (k' := .i64) rfl ?q1 ?q2 (wrap_mod _ 65 ?q3 ?q4), ?_⟩); (case q1 => exact und_of rfl); (case q2 => exact und_of rfl); (case q3 => decide); (case q4 => decide))
          | ((refine' ⟨_, Yl_convI (k := .u64) (k' := .i64) rfl ?q1 ?q2 (wrap_mod _ 4097 ?q3 ?q4), ?_⟩); (case q1 => exact und_of rfl); (case q2 => exact und_of rfl); (case q3 => decide); (case q4 => decide))
          | ((refine' ⟨_, Yl_convW (k := .i64) (k' := .u64) rfl ?q1 ?q2, ?_⟩); (case q1 => exact und_of rfl); (case q2 => exact und_of rfl))
          | ((refine' ⟨_, Yl_remE rfl rfl (wrap_u64_lo _) ?q1 hj, ?_⟩); (case q1 => omega))
          | ((refine' ⟨_, Yl_remE rfl rfl (wrap_u64_lo _) ?q1 rfl, ?_⟩); (case q1 => decide)))
          | ((with_reducible refine ie_store ?_); (first
          | ((refine' Ef_store_row1 rfl rfl ?q1 ?q2 ?q3 ?q4 ?q5 ?_); (case q1 => rfl); (case q2 => exact siz_of rfl); (case q3 => (first | exact at0 | exact at1 | exact at2 | exact at3 | exact at4 | exact at5 | exact at6)); (case q4 => omega); (case q5 => assumption))
          | ((refine' Ef_store_rowA rfl rfl ?q1 ?q2 ?q3 ?q4 ?q5 ?q6 ?_); (case q1 => exact siz_of rfl); (case q2 => rfl); (case q3 => (first | assumption | (intro u hu; rcases hu with _ | ⟨_, _ | ⟨_, _ | ⟨_, _ | ⟨_, hu⟩⟩⟩⟩ <;> first | rfl | (cases hu; done)))); (case q4 => (first | exact at0 | exact at1 | exact at2 | exact at3 | exact at4 | exact at5 | exact at6)); (case q5 => omega); (case q6 => assumption))
          | ((refine' Ef_storeA' rfl rfl ?q1 ?q2 ?q3 ?q4 ?_); (case q1 => exact siz_of rfl); (case q2 => (first | assumption | (intro u hu; rcases hu with _ | ⟨_, _ | ⟨_, _ | ⟨_, _ | ⟨_, hu⟩⟩⟩⟩ <;> first | rfl | (cases hu; done)))); (case q3 => (first | exact at0 | exact at1 | exact at2 | exact at3 | exact at4 | exact at5 | exact at6)); (case q4 => rfl))
          | ((refine' Ef_storeC rfl rfl ?q1 ?q2 ?q3 ?q4 ?q5 ?_); (case q1 => rfl); (case q2 => exact siz_of rfl); (case q3 => (first | exact at0 | exact at1 | exact at2 | exact at3 | exact at4 | exact at5 | exact at6)); (case q4 => exact Nat.le_of_ble_eq_true rfl); (case q5 => rfl))))
          | ((with_reducible refine ie_callf ?_); (first
          | ((with_reducible refine g_call 8 ?_); (first | (refine Ef_callN rfl rfl ent_8 (fun w hp => to_c A len cap l w (hp.rd hr fun _ => List.not_mem_nil) hl hb24) ?_; rintro ⟨A1, c1⟩)))
          | ((with_reducible refine g_call 11 ?_); (first | refine Ef_callP rfl rfl ent_11 (fun w _ => awake_c w) ?_))
          | ((with_reducible refine g_call 9 ?_); (first | ((refine' Ef_callP rfl rfl ent_9 (fun w hp => ho1 A1 c1 w (hp.rowOf ?q1)) ?_); (case q1 => (repeat (first | exact .head _ | apply List.Mem.tail))))))
          | ((with_reducible refine g_call 10 ?_); (first | ((refine' Ef_callP rfl rfl ent_10 (fun w hp => hm1 A1 c1 w (hp.rowOf ?q1)) ?_); (case q1 => (repeat (first | exact .head _ | apply List.Mem.tail))))))
          | ((with_reducible refine g_call 12 ?_); (first | ((refine' Ef_callP rfl rfl ent_12 (fun w hp => hlf A1 c1 w (hp.rowOf ?q1)) ?_); (case q1 => (repeat (first | exact .head _ | apply List.Mem.tail)))) | ((refine' Ef_callP rfl rfl ent_12 (fun w hp => hlg A9 c9 w (hp.rowOf ?q1)) ?_); (case q1 => (repeat (first | exact .head _ | apply List.Mem.tail))))))
          | ((with_reducible refine g_call 13 ?_); (first | (((refine' Ef_callN rfl rfl ent_13 (fun w hp => hc3 A1 c1 w (hp.rowOf ?q1)) ?_); (case q1 => (repeat (first | exact .head _ | apply List.Mem.tail)))); rintro ⟨A9, c9⟩)))))
          | ((first  | ((with_reducible refine ie_alloc ?_); (((refine' Ef_alloc rfl ?q1 ?_); (case q1 => exact zer_of rfl))))); (first | ((fail_if_success have := b1); intro b1) | ((fail_if_success have := b2); intro b2) | ((fail_if_success have := b3); intro b3) | ((fail_if_success have := b4); intro b4) | ((fail_if_success have := b5); intro b5) | ((fail_if_success have := b6); intro b6) | ((fail_if_success have := b7); intro b7) | ((fail_if_success have := b8); intro b8) | ((fail_if_success have := b9); intro b9) | ((fail_if_success have := b10); intro b10) | ((fail_if_success have := b11); intro b11) | ((fail_if_success have := b12); intro b12)))
          | (fail; (first | ((fail_if_success have := A1); intro A1 c1) | ((fail_if_success have := A2); intro A2 c2) | ((fail_if_success have := A3); intro A3 c3) | ((fail_if_success have := A4); intro A4 c4) | ((fail_if_success have := A5); intro A5 c5) | ((fail_if_success have := A6); intro A6 c6) | ((fail_if_success have := A7); intro A7 c7)))
          | refine Ef_y rfl rfl ?_
          | ((with_reducible refine ie_conv ?_); refine Ef_y' rfl ?_))
      all_goals exact ret_n [] (res1 rfl rfl) (List.nil_sublist _) ⟨rfl, rfl⟩
  · clear x hx
    obtain ⟨o, ho⟩ : ∃ o, o = Qt.of l (1 + IntKind.wrap .u64 t % 8) := ⟨_, rfl⟩
    rw [← ho] at ho1 hq
    clear ho
    have hq' : p = false ∨ (p = true ∧ ∃ y, o = some y) := by
      cases p
      · exact .inl rfl
      · cases o
        · exact absurd ⟨rfl, rfl⟩ hq
        · exact .inr ⟨rfl, _, rfl⟩
    rcases hq' with rfl | ⟨rfl, y, rfl⟩
    all_goals
      refine Sp.enter (n := 115) Try.func3 rfl rfl rfl (Hp.refl w) ?_
      repeat' (first
          | with_reducible refine T.seq ?_
          | with_reducible refine T.block ?_
          | with_reducible refine T.region ?_
          | with_reducible refine T.skip ?_
          | with_reducible refine T.scope ?_
          | with_reducible refine T.label ?_
          | with_reducible refine scopeQ_n ?_
          | with_reducible refine scopeQ_r ?_
          | with_reducible refine scopeQ_x ?_
          | with_reducible refine T.ret ?_
          | with_reducible refine T.exit ?_
          | with_reducible refine seqQ_n ?_
          | with_reducible refine seqQ_x ?_
          | with_reducible refine seqQ_r ?_
          | with_reducible refine blockQ_n ?_
          | with_reducible refine blockQ_r ?_
          | with_reducible refine blockQ_x ?_
          | ((with_reducible refine g_blkx ?_); refine blockQ_y rfl ?_)
          | with_reducible refine loopQ_x ?_
          | with_reducible refine loopQ_r ?_
          | with_reducible refine joinQ_r ?_
          | with_reducible refine joinQ_x ?_
          | ((with_reducible refine g_cond ?_); (first | refine T.cond_t rfl ?_ | refine T.cond_f rfl ?_ | (refine T.cond_s rfl ?_ ?_ <;> intro hc)))
          | with_reducible refine TL_nil ?_
          | with_reducible refine TS_nil ?_
          | ((with_reducible refine TL_y' ?hy ?hd ?_); (case hy => rfl); (case hd => rfl))
          | with_reducible refine TL_e ?_
          | ((with_reducible refine g_TL ?_); (first | refine TL_gy' rfl rfl rfl rfl ?_ | refine TL_gn rfl rfl rfl ?_ | refine TL_gu rfl rfl rfl ?_ | refine TL_ge rfl rfl ?_ | refine TL_gn0 rfl rfl ?_))
          | ((with_reducible refine g_TS ?_); (first | refine TS_y rfl rfl ?_ | refine TS_e rfl ?_ | refine TS_gy rfl rfl rfl rfl ?_ | refine TS_gn rfl rfl rfl rfl ?_ | refine TS_gu rfl rfl rfl rfl ?_ | refine TS_ge rfl rfl rfl ?_ | refine TS_gne rfl rfl rfl rfl ?_ | refine TS_gue rfl rfl rfl rfl ?_ | refine TS_gne0 rfl rfl rfl ?_))
          | ((with_reducible refine TSand ?hd ?_); (case hd => (repeat (first | exact List.nil_sublist _ | refine List.Sublist.cons_cons _ ?_ | refine List.Sublist.cons _ ?_))))
          | ((with_reducible refine TBand ?hd ?_); (case hd => (repeat (first | exact List.nil_sublist _ | refine List.Sublist.cons_cons _ ?_ | refine List.Sublist.cons _ ?_))))
          | ((with_reducible refine g_TB ?_); (first | with_reducible refine TB_run ?_ | refine TB_y rfl rfl ?_ | refine TB_b rfl rfl ?_ ?_ | refine TB_e rfl ?_))
          | ((with_reducible refine is_move ?_); refine ⟨_, Yl_move rfl, ?_⟩)
          | ((with_reducible refine is_assign ?_); refine ⟨_, Yl_assign rfl, ?_⟩)
          | ((with_reducible refine is_pick ?_); (first | refine ⟨_, Yl_pick_t rfl rfl, ?_⟩ | refine ⟨_, Yl_pick_f rfl rfl, ?_⟩))
          | ((with_reducible refine is_ext ?_); refine ⟨_, Yl_extract rfl rfl, ?_⟩)
          | ((with_reducible refine is_un ?_); refine ⟨_, Yl_not rfl, ?_⟩)
          | ((with_reducible refine is_len ?_); (first | ((refine' ⟨_, Yl_len_slice rfl ?q1, ?_⟩); (case q1 => exact und_of rfl)) | ((refine' ⟨_, Yl_len_string rfl ?q1, ?_⟩); (case q1 => exact und_of rfl))))
          | ((with_reducible refine is_b_gtr ?_); (first | ((refine' ⟨_, Yl_gtr_t rfl rfl ?q1, ?_⟩); (case q1 => omega)) | ((refine' ⟨_, Yl_gtr_f rfl rfl ?q1, ?_⟩); (case q1 => omega)) | (refine sp_gtr rfl rfl ?_ ?_ <;> intro hc)))
          | ((with_reducible refine is_b_eql ?_); (first
          | ((refine' ⟨_, Yl_eql_t rfl rfl ?q1, ?_⟩); (case q1 => omega))
          | ((refine' ⟨_, Yl_eql_f rfl rfl ?q1, ?_⟩); (case q1 => omega))
          | (refine sp_eql rfl rfl ?_ ?_ <;> intro hc)
          | ((refine' ⟨_, Yl_convI (k := .i64) (k' := .u64) rfl ?q1 ?q2 wl, ?_⟩); (case q1 => exact und_of rfl); (case q2 => exact und_of rfl))
          | ((refine' ⟨_, Yl_convI (k := .u64) (k' := .i64) rfl ?q1 ?q2 wj, ?_⟩); (case q1 => exact und_of rfl); (case q2 => exact und_of rfl))
          | ((refine' ⟨_, Yl_convI (k := .u64) (k' := .i64) rfl ?q1 ?q2 (wrap_mod _ 8 ?q3 ?q4), ?_⟩); (case q1 => exact und_of rfl); (case q2 => exact und_of rfl); (case q3 => decide); (case q4 => decide))
          | ((refine' ⟨_, Yl_convI (k := .u64) (k' := .i64) rfl ?q1 ?q2 (wrap_mod _ 65 ?q3 ?q4), ?_⟩); (case q1 => exact und_of rfl); (case q2 => exact und_of rfl); (case q3 => decide); (case q4 => decide))
          | ((refine' ⟨_, Yl_convI (k := .u64) (k' := .i64) rfl ?q1 ?q2 (wrap_mod _ 4097 ?q3 ?q4), ?_⟩); (case q1 => exact und_of rfl); (case q2 => exact und_of rfl); (case q3 => decide); (case q4 => decide))
          | ((refine' ⟨_, Yl_convW (k := .i64) (k' := .u64) rfl ?q1 ?q2, ?_⟩); (case q1 => exact und_of rfl); (case q2 => exact und_of rfl))
          | ((refine' ⟨_, Yl_remE rfl rfl (wrap_u64_lo _) ?q1 hj, ?_⟩); (case q1 => omega))
          | ((refine' ⟨_, Yl_remE rfl rfl (wrap_u64_lo _) ?q1 rfl, ?_⟩); (case q1 => decide))
          | ((refine' ⟨_, Yl_eql_bool rfl rfl ?q1, ?_⟩); (case q1 => exact und_of rfl))
          | ((refine' ⟨_, Yl_eql_strT rfl rfl ?q1, ?_⟩); (case q1 => first | assumption | rfl))
          | ((refine' ⟨_, Yl_eql_strF rfl rfl ?q1, ?_⟩); (case q1 => first | assumption | decide))
          | (refine sp_eqlS rfl rfl ?_ ?_ <;> intro hc)))
          | ((with_reducible refine is_b_add ?_); (first
          | ((refine' ⟨_, Yl_add rfl rfl ?q1 ?q2, ?_⟩); (case q1 => omega); (case q2 => omega))
          | ((refine' ⟨_, Yl_add8 rfl rfl ?q1 ?q2, ?_⟩); (case q1 => omega); (case q2 => omega))
          | ((refine' ⟨_, Yl_convI (k := .i64) (k' := .u64) rfl ?q1 ?q2 wl, ?_⟩); (case q1 => exact und_of rfl); (case q2 => exact und_of rfl))
          | ((refine' ⟨_, Yl_convI (k := .u64) (k' := .i64) rfl ?q1 ?q2 wj, ?_⟩); (case q1 => exact und_of rfl); (case q2 => exact und_of rfl))
          | ((refine' ⟨_, Yl_convI (k := .u64) (k' := .i64) rfl ?q1 ?q2 (wrap_mod _ 8 ?q3 ?q4), ?_⟩); (case q1 => exact und_of rfl); (case q2 => exact und_of rfl); (case q3 => decide); (case q4 => decide))
          | ((refine' ⟨_, Yl_convI (k := .u64) (k' := .i64) rfl ?q1 ?q2 (wrap_mod _ 65 ?q3 ?q4), ?_⟩); (case q1 => exact und_of rfl); (case q2 => exact und_of rfl); (case q3 => decide); (case q4 => decide))
          | ((refine' ⟨_, Yl_convI (k := .u64) (k' := .i64) rfl ?q1 ?q2 (wrap_mod _ 4097 ?q3 ?q4), ?_⟩); (case q1 => exact und_of rfl); (case q2 => exact und_of rfl); (case q3 => decide); (case q4 => decide))
          | ((refine' ⟨_, Yl_convW (k := .i64) (k' := .u64) rfl ?q1 ?q2, ?_⟩); (case q1 => exact und_of rfl); (case q2 => exact und_of rfl))
          | ((refine' ⟨_, Yl_remE rfl rfl (wrap_u64_lo _) ?q1 hj, ?_⟩); (case q1 => omega))
          | ((refine' ⟨_, Yl_remE rfl rfl (wrap_u64_lo _) ?q1 rfl, ?_⟩); (case q1 => decide))))
          | ((with_reducible refine is_b_sub ?_); (first
          | ((refine' ⟨_, Yl_sub rfl rfl ?q1 ?q2, ?_⟩); (case q1 => omega); (case q2 => omega))
          | ((refine' ⟨_, Yl_convI (k := .i64) (k' := .u64) rfl ?q1 ?q2 wl, ?_⟩); (case q1 => exact und_of rfl); (case q2 => exact und_of rfl))
          | ((refine' ⟨_, Yl_convI (k := .u64) (k' := .i64) rfl ?q1 ?q2 wj, ?_⟩); (case q1 => exact und_of rfl); (case q2 => exact und_of rfl))
          | ((refine' ⟨_, Yl_convI (k := .u64) (k' := .i64) rfl ?q1 ?q2 (wrap_mod _ 8 ?q3 ?q4), ?_⟩); (case q1 => exact und_of rfl); (case q2 => exact und_of rfl); (case q3 => decide); (case q4 => decide))
          | ((refine' ⟨_, Yl_convI (k := .u64) (k' := .i64) rfl ?q1 ?q2 (wrap_mod _ 65 ?q3 ?q4), ?_⟩); (case q1 => exact und_of rfl); (case q2 => exact und_of rfl); (case q3 => decide); (case q4 => decide))
          | ((refine' ⟨_, Yl_convI (k := .u64) (k' := .i64) rfl ?q1 ?q2 (wrap_mod _ 4097 ?q3 ?q4), ?_⟩); (case q1 => exact und_of rfl); (case q2 => exact und_of rfl); (case q3 => decide); (case q4 => decide))
          | ((refine' ⟨_, Yl_convW (k := .i64) (k' := .u64) rfl ?q1 ?q2, ?_⟩); (case q1 => exact und_of rfl); (case q2 => exact und_of rfl))
          | ((refine' ⟨_, Yl_remE rfl rfl (wrap_u64_lo _) ?q1 hj, ?_⟩); (case q1 => omega))
          | ((refine' ⟨_, Yl_remE rfl rfl (wrap_u64_lo _) ?q1 rfl, ?_⟩); (case q1 => decide))))
          | ((with_reducible refine is_build ?_); (first | refine ⟨_, Yl_build rfl (s_build _ _ _), ?_⟩))
          | (first
          | ((refine' ⟨_, Yl_convI (k := .i64) (k' := .u64) rfl ?q1 ?q2 wl, ?_⟩); (case q1 => exact und_of rfl); (case q2 => exact und_of rfl))
          | ((refine' ⟨_, Yl_convI (k := .u64) (k' := .i64) rfl ?q1 ?q2 wj, ?_⟩); (case q1 => exact und_of rfl); (case q2 => exact und_of rfl))
          | ((refine' ⟨_, Yl_convI (k := .u64) (k' := .i64) rfl ?q1 ?q2 (wrap_mod _ 8 ?q3 ?q4), ?_⟩); (case q1 => exact und_of rfl); (case q2 => exact und_of rfl); (case q3 => decide); (case q4 => decide))
          | ((refine' ⟨_, Yl_convI (k := .u64) (k' := .i64) rfl ?q1 ?q2 (wrap_mod _ 65 ?q3 ?q4), ?_⟩); (case q1 => exact und_of rfl); (case q2 => exact und_of rfl); (case q3 => decide); (case q4 => decide))
          | ((refine' ⟨_, Yl_convI (k := .u64) (k' := .i64) rfl ?q1 ?q2 (wrap_mod _ 4097 ?q3 ?q4), ?_⟩); (case q1 => exact und_of rfl); (case q2 => exact und_of rfl); (case q3 => decide); (case q4 => decide))
          | ((refine' ⟨_, Yl_convW (k := .i64) (k' := .u64) rfl ?q1 ?q2, ?_⟩); (case q1 => exact und_of rfl); (case q2 => exact und_of rfl))
          | ((refine' ⟨_, Yl_remE rfl rfl (wrap_u64_lo _) ?q1 hj, ?_⟩); (case q1 => omega))
          | ((refine' ⟨_, Yl_remE rfl rfl (wrap_u64_lo _) ?q1 rfl, ?_⟩); (case q1 => decide)))
          | ((with_reducible refine ie_store ?_); (first
          | ((refine' Ef_store_row1 rfl rfl ?q1 ?q2 ?q3 ?q4 ?q5 ?_); (case q1 => rfl); (case q2 => exact siz_of rfl); (case q3 => (first | exact at0 | exact at1 | exact at2 | exact at3 | exact at4 | exact at5 | exact at6)); (case q4 => omega); (case q5 => assumption))
          | ((refine' Ef_store_rowA rfl rfl ?q1 ?q2 ?q3 ?q4 ?q5 ?q6 ?_); (case q1 => exact siz_of rfl); (case q2 => rfl); (case q3 => (first | assumption | (intro u hu; rcases hu with _ | ⟨_, _ | ⟨_, _ | ⟨_, _ | ⟨_, hu⟩⟩⟩⟩ <;> first | rfl | (cases hu; done)))); (case q4 => (first | exact at0 | exact at1 | exact at2 | exact at3 | exact at4 | exact at5 | exact at6)); (case q5 => omega); (case q6 => assumption))
          | ((refine' Ef_storeA' rfl rfl ?q1 ?q2 ?q3 ?q4 ?_); (case q1 => exact siz_of rfl); (case q2 => (first | assumption | (intro u hu; rcases hu with _ | ⟨_, _ | ⟨_, _ | ⟨_, _ | ⟨_, hu⟩⟩⟩⟩ <;> first | rfl | (cases hu; done)))); (case q3 => (first | exact at0 | exact at1 | exact at2 | exact at3 | exact at4 | exact at5 | exact at6)); (case q4 => rfl))
          | ((refine' Ef_storeC rfl rfl ?q1 ?q2 ?q3 ?q4 ?q5 ?_); (case q1 => rfl); (case q2 => exact siz_of rfl); (case q3 => (first | exact at0 | exact at1 | exact at2 | exact at3 | exact at4 | exact at5 | exact at6)); (case q4 => exact Nat.le_of_ble_eq_true rfl); (case q5 => rfl))))
          | ((with_reducible refine ie_callf ?_); (first
          | ((with_reducible refine g_call 8 ?_); (first | (refine Ef_callN rfl rfl ent_8 (fun w hp => to_c A len cap l w (hp.rd hr fun _ => List.not_mem_nil) hl hb24) ?_; rintro ⟨A1, c1⟩)))
          | ((with_reducible refine g_call 11 ?_); (first | refine Ef_callP rfl rfl ent_11 (fun w _ => awake_c w) ?_))
          | ((with_reducible refine g_call 9 ?_); (first | ((refine' Ef_callP rfl rfl ent_9 (fun w hp => ho1 A1 c1 w (hp.rowOf ?q1)) ?_); (case q1 => (repeat (first | exact .head _ | apply List.Mem.tail))))))
          | ((with_reducible refine g_call 10 ?_); (first | ((refine' Ef_callP rfl rfl ent_10 (fun w hp => hm1 A1 c1 w (hp.rowOf ?q1)) ?_); (case q1 => (repeat (first | exact .head _ | apply List.Mem.tail))))))
          | ((with_reducible refine g_call 12 ?_); (first | ((refine' Ef_callP rfl rfl ent_12 (fun w hp => hlf A1 c1 w (hp.rowOf ?q1)) ?_); (case q1 => (repeat (first | exact .head _ | apply List.Mem.tail)))) | ((refine' Ef_callP rfl rfl ent_12 (fun w hp => hlg A9 c9 w (hp.rowOf ?q1)) ?_); (case q1 => (repeat (first | exact .head _ | apply List.Mem.tail))))))
          | ((with_reducible refine g_call 13 ?_); (first | (((refine' Ef_callN rfl rfl ent_13 (fun w hp => hc3 A1 c1 w (hp.rowOf ?q1)) ?_); (case q1 => (repeat (first | exact .head _ | apply List.Mem.tail)))); rintro ⟨A9, c9⟩)))))
          | ((first  | ((with_reducible refine ie_alloc ?_); (((refine' Ef_alloc rfl ?q1 ?_); (case q1 => exact zer_of rfl))))); (first | ((fail_if_success have := b1); intro b1) | ((fail_if_success have := b2); intro b2) | ((fail_if_success have := b3); intro b3) | ((fail_if_success have := b4); intro b4) | ((fail_if_success have := b5); intro b5) | ((fail_if_success have := b6); intro b6) | ((fail_if_success have := b7); intro b7) | ((fail_if_success have := b8); intro b8) | ((fail_if_success have := b9); intro b9) | ((fail_if_success have := b10); intro b10) | ((fail_if_success have := b11); intro b11) | ((fail_if_success have := b12); intro b12)))
          | (fail; (first | ((fail_if_success have := A1); intro A1 c1) | ((fail_if_success have := A2); intro A2 c2) | ((fail_if_success have := A3); intro A3 c3) | ((fail_if_success have := A4); intro A4 c4) | ((fail_if_success have := A5); intro A5 c5) | ((fail_if_success have := A6); intro A6 c6) | ((fail_if_success have := A7); intro A7 c7)))
          | refine Ef_y rfl rfl ?_
          | ((with_reducible refine ie_conv ?_); refine Ef_y' rfl ?_))
      all_goals exact ret_n [] (res1 rfl rfl) (List.nil_sublist _) ⟨rfl, rfl⟩

set_option maxHeartbeats 8000000 in
theorem back_c (n k s : Int) : Sp Try.prog 5 [.slice A len cap, .int .i64 n, .int .i64 k, .int .i64 s] w [] fun v N => v = .bool true ∧ N = [] := by
  obtain ⟨p, hp⟩ : ∃ p, Qt.may l = p := ⟨_, rfl⟩
  have hm1 := fun A1 c1 w h => may_v A1 l.length c1 l p w h rfl hp
  by_cases hq : p = true ∧ 0 < l.length
  · obtain ⟨rfl, hl0⟩ := hq
    have hm := (Qt.may_iff l).1 hp
    have h8 := hm.len
    have wl := wrap_small' (l.length : Int) (by omega) (by omega)
    obtain ⟨j, hjl, hj⟩ := rem_nat (IntKind.wrap .u64 n) l.length hl0
    have wj := wrap_small (j : Int) (by omega) (by omega)
    obtain ⟨y, hy⟩ := some_of_lt (l := l) (i := j) hjl
    have hyl : y ∈ l := List.mem_of_getElem? hy
    have eA := enc_atA sE_len hy
    have hc4 := fun A1 c1 w h => resize_c A1 l.length c1 l (y.1, k, s) w h rfl
    obtain ⟨u, hu⟩ : ∃ u, u = Qt.resize l (y.1, k, s) := ⟨_, rfl⟩
    rw [← hu] at hc4
    rcases Qt.res_or l (y.1, k, s) true u (by rw [hu]; rfl) with ⟨h1, h2⟩ | ⟨m, h1, hml, hx, hmm, hmp, hor⟩
    · refine Sp.enter (n := 70) Try.func5 rfl rfl rfl (Hp.refl w) ?_
      repeat' (first
          | with_reducible refine T.seq ?_
          | with_reducible refine T.block ?_
          | with_reducible refine T.region ?_
          | with_reducible refine T.skip ?_
          | with_reducible refine T.scope ?_
          | with_reducible refine T.label ?_
          | with_reducible refine scopeQ_n ?_
          | with_reducible refine scopeQ_r ?_
          | with_reducible refine scopeQ_x ?_
          | with_reducible refine T.ret ?_
          | with_reducible refine T.exit ?_
          | with_reducible refine seqQ_n ?_
          | with_reducible refine seqQ_x ?_
          | with_reducible refine seqQ_r ?_
          | with_reducible refine blockQ_n ?_
          | with_reducible refine blockQ_r ?_
          | with_reducible refine blockQ_x ?_
          | ((with_reducible refine g_blkx ?_); refine blockQ_y rfl ?_)
          | with_reducible refine loopQ_x ?_
          | with_reducible refine loopQ_r ?_
          | with_reducible refine joinQ_r ?_
          | with_reducible refine joinQ_x ?_
          | ((with_reducible refine g_cond ?_); (first | refine T.cond_t rfl ?_ | refine T.cond_f rfl ?_ | (refine T.cond_s rfl ?_ ?_ <;> intro hc)))
          | with_reducible refine TL_nil ?_
          | with_reducible refine TS_nil ?_
          | ((with_reducible refine TL_y' ?hy ?hd ?_); (case hy => rfl); (case hd => rfl))
          | with_reducible refine TL_e ?_
          | ((with_reducible refine g_TL ?_); (first | refine TL_gy' rfl rfl rfl rfl ?_ | refine TL_gn rfl rfl rfl ?_ | refine TL_gu rfl rfl rfl ?_ | refine TL_ge rfl rfl ?_ | refine TL_gn0 rfl rfl ?_))
          | ((with_reducible refine g_TS ?_); (first | refine TS_y rfl rfl ?_ | refine TS_e rfl ?_ | refine TS_gy rfl rfl rfl rfl ?_ | refine TS_gn rfl rfl rfl rfl ?_ | refine TS_gu rfl rfl rfl rfl ?_ | refine TS_ge rfl rfl rfl ?_ | refine TS_gne rfl rfl rfl rfl ?_ | refine TS_gue rfl rfl rfl rfl ?_ | refine TS_gne0 rfl rfl rfl ?_))
          | ((with_reducible refine TSand ?hd ?_); (case hd => (repeat (first | exact List.nil_sublist _ | refine List.Sublist.cons_cons _ ?_ | refine List.Sublist.cons _ ?_))))
          | ((with_reducible refine TBand ?hd ?_); (case hd => (repeat (first | exact List.nil_sublist _ | refine List.Sublist.cons_cons _ ?_ | refine List.Sublist.cons _ ?_))))
          | ((with_reducible refine g_TB ?_); (first | with_reducible refine TB_run ?_ | refine TB_y rfl rfl ?_ | refine TB_b rfl rfl ?_ ?_ | refine TB_e rfl ?_))
          | ((with_reducible refine is_move ?_); refine ⟨_, Yl_move rfl, ?_⟩)
          | ((with_reducible refine is_assign ?_); refine ⟨_, Yl_assign rfl, ?_⟩)
          | ((with_reducible refine is_pick ?_); (first | refine ⟨_, Yl_pick_t rfl rfl, ?_⟩ | refine ⟨_, Yl_pick_f rfl rfl, ?_⟩))
          | ((with_reducible refine is_fld ?_); (first | ((refine' ⟨_, Yl_fld_ad rfl ?q1, ?_⟩); (case q1 => exact fld_of rfl rfl)) | ((refine' ⟨_, Yl_fld_blk0 rfl ?q1, ?_⟩); (case q1 => exact fld_of rfl rfl)) | ((refine' ⟨_, Yl_fld_blk rfl ?q1, ?_⟩); (case q1 => exact fld_of rfl rfl))))
          | ((with_reducible refine is_load ?_); (first
          | ((refine' ⟨_, Yl_load_blk rfl ?q1 ?q2 ?q3, ?_⟩); (case q1 => exact one_of rfl); (case q2 => (repeat (first | exact .head _ | apply List.Mem.tail))); (case q3 => rfl))
          | ((refine' ⟨_, Yl_loadA_blk rfl ?q1 ?q2, ?_⟩); (case q1 => (repeat (first | exact .head _ | apply List.Mem.tail))); (case q2 => exact agg_of rfl))
          | ((refine' ⟨_, Yl_load_blk rfl ?q1 ?q2 ?q3, ?_⟩); (case q1 => exact one_of rfl); (case q2 => (repeat (first | exact .head _ | apply List.Mem.tail))); (case q3 => assumption))
          | ((refine' ⟨_, Yl_load_rd rfl ?q1 ?q2 List.not_mem_nil ?q3, ?_⟩); (case q1 => exact one_of rfl); (case q2 => assumption); (case q3 => assumption))
          | ((refine' ⟨_, Yl_load_row rfl ?q1 ?q2 ?q3, ?_⟩); (case q1 => exact one_of rfl); (case q2 => (repeat (first | exact .head _ | apply List.Mem.tail))); (case q3 => assumption))
          | ((refine' ⟨_, Yl_loadA_rd rfl ?qa ?qb List.not_mem_nil ?ql ?qc, ?_⟩); (case qa => exact agg_of rfl); (case qb => assumption); (case qc => assumption); (case ql => rfl))
          | ((refine' ⟨_, Yl_loadA_row rfl ?qa ?qb ?ql ?qc, ?_⟩); (case qa => exact agg_of rfl); (case qb => (repeat (first | exact .head _ | apply List.Mem.tail))); (case qc => assumption); (case ql => rfl))))
          | ((with_reducible refine is_idx ?_); (first
          | ((refine' ⟨_, Yl_index rfl rfl ?q1 ?q2 ?q3 (Rd.some_ ?q4 ?q5), ?_⟩); (case q1 => exact und_of rfl); (case q2 => exact siz_of rfl); (case q3 => omega); (case q4 => assumption); (case q5 => omega))
          | ((refine' ⟨_, Yl_index_row rfl rfl ?q1 ?q2 ?q3 ?q4, ?_⟩); (case q1 => exact und_of rfl); (case q2 => exact siz_of rfl); (case q3 => omega); (case q4 => (repeat (first | exact .head _ | apply List.Mem.tail))))
          | ((refine' ⟨_, Yl_index rfl rfl ?q1 ?q2 ?q3 rfl, ?_⟩); (case q1 => exact und_of rfl); (case q2 => exact siz_of rfl); (case q3 => omega))
          | ((refine' ⟨_, Yl_index (j := 0) rfl rfl ?q1 ?q2 ?q3 (Rd.some_ ?q4 ?q5), ?_⟩); (case q1 => exact und_of rfl); (case q2 => exact siz_of rfl); (case q3 => omega); (case q4 => assumption); (case q5 => omega))
          | ((refine' ⟨_, Yl_index_row (j := 0) rfl rfl ?q1 ?q2 ?q3 ?q4, ?_⟩); (case q1 => exact und_of rfl); (case q2 => exact siz_of rfl); (case q3 => omega); (case q4 => (repeat (first | exact .head _ | apply List.Mem.tail))))
          | ((refine' ⟨_, Yl_indexI rfl rfl ?q1 ?q2 ?q3 ?q4 (Rd.some_ ?q5 ?q6), ?_⟩); (case q1 => exact und_of rfl); (case q2 => exact siz_of rfl); (case q3 => omega); (case q4 => omega); (case q5 => assumption); (case q6 => omega))))
          | ((with_reducible refine is_ext ?_); refine ⟨_, Yl_extract rfl rfl, ?_⟩)
          | ((with_reducible refine is_un ?_); refine ⟨_, Yl_not rfl, ?_⟩)
          | ((with_reducible refine is_len ?_); (first | ((refine' ⟨_, Yl_len_slice rfl ?q1, ?_⟩); (case q1 => exact und_of rfl)) | ((refine' ⟨_, Yl_len_string rfl ?q1, ?_⟩); (case q1 => exact und_of rfl))))
          | ((with_reducible refine is_b_gtr ?_); (first | ((refine' ⟨_, Yl_gtr_t rfl rfl ?q1, ?_⟩); (case q1 => omega)) | ((refine' ⟨_, Yl_gtr_f rfl rfl ?q1, ?_⟩); (case q1 => omega)) | (refine sp_gtr rfl rfl ?_ ?_ <;> intro hc)))
          | ((with_reducible refine is_b_eql ?_); (first
          | ((refine' ⟨_, Yl_eql_t rfl rfl ?q1, ?_⟩); (case q1 => omega))
          | ((refine' ⟨_, Yl_eql_f rfl rfl ?q1, ?_⟩); (case q1 => omega))
          | (refine sp_eql rfl rfl ?_ ?_ <;> intro hc)
          | ((refine' ⟨_, Yl_convI (k := .i64) (k' := .u64) rfl ?q1 ?q2 wl, ?_⟩); (case q1 => exact und_of rfl); (case q2 => exact und_of rfl))
          | ((refine' ⟨_, Yl_convI (k := .u64) (k' := .i64) rfl ?q1 ?q2 wj, ?_⟩); (case q1 => exact und_of rfl); (case q2 => exact und_of rfl))
          | ((refine' ⟨_, Yl_convI (k := .u64) (k' := .i64) rfl ?q1 ?q2 (wrap_mod _ 8 ?q3 ?q4), ?_⟩); (case q1 => exact und_of rfl); (case q2 => exact und_of rfl); (case q3 => decide); (case q4 => decide))
          | ((refine' ⟨_, Yl_convI (k := .u64) (k' := .i64) rfl ?q1 ?q2 (wrap_mod _ 65 ?q3 ?q4), ?_⟩); (case q1 => exact und_of rfl); (case q2 => exact und_of rfl); (case q3 => decide); (case q4 => decide))
          | ((refine' ⟨_, Yl_convI (k := .u64) (k' := .i64) rfl ?q1 ?q2 (wrap_mod _ 4097 ?q3 ?q4), ?_⟩); (case q1 => exact und_of rfl); (case q2 => exact und_of rfl); (case q3 => decide); (case q4 => decide))
          | ((refine' ⟨_, Yl_convW (k := .i64) (k' := .u64) rfl ?q1 ?q2, ?_⟩); (case q1 => exact und_of rfl); (case q2 => exact und_of rfl))
          | ((refine' ⟨_, Yl_remE rfl rfl (wrap_u64_lo _) ?q1 hj, ?_⟩); (case q1 => omega))
          | ((refine' ⟨_, Yl_remE rfl rfl (wrap_u64_lo _) ?q1 rfl, ?_⟩); (case q1 => decide))
          | ((refine' ⟨_, Yl_eql_bool rfl rfl ?q1, ?_⟩); (case q1 => exact und_of rfl))
          | ((refine' ⟨_, Yl_eql_strT rfl rfl ?q1, ?_⟩); (case q1 => first | assumption | rfl))
          | ((refine' ⟨_, Yl_eql_strF rfl rfl ?q1, ?_⟩); (case q1 => first | assumption | decide))
          | (refine sp_eqlS rfl rfl ?_ ?_ <;> intro hc)))
          | ((with_reducible refine is_b_neq ?_); (first
          | ((refine' ⟨_, Yl_neq_t rfl rfl ?q1, ?_⟩); (case q1 => omega))
          | ((refine' ⟨_, Yl_neq_f rfl rfl ?q1, ?_⟩); (case q1 => omega))
          | (refine sp_neq rfl rfl ?_ ?_ <;> intro hc)
          | ((refine' ⟨_, Yl_convI (k := .i64) (k' := .u64) rfl ?q1 ?q2 wl, ?_⟩); (case q1 => exact und_of rfl); (case q2 => exact und_of rfl))
          | ((refine' ⟨_, Yl_convI (k := .u64) (k' := .i64) rfl ?q1 ?q2 wj, ?_⟩); (case q1 => exact und_of rfl); (case q2 => exact und_of rfl))
          | ((refine' ⟨_, Yl_convI (k := .u64) (k' := .i64) rfl ?q1 ?q2 (wrap_mod _ 8 ?q3 ?q4), ?_⟩); (case q1 => exact und_of rfl); (case q2 => exact und_of rfl); (case q3 => decide); (case q4 => decide))
          | ((refine' ⟨_, Yl_convI (k := .u64) (k' := .i64) rfl ?q1 ?q2 (wrap_mod _ 65 ?q3 ?q4), ?_⟩); (case q1 => exact und_of rfl); (case q2 => exact und_of rfl); (case q3 => decide); (case q4 => decide))
          | ((refine' ⟨_, Yl_convI (k := .u64) (k' := .i64) rfl ?q1 ?q2 (wrap_mod _ 4097 ?q3 ?q4), ?_⟩); (case q1 => exact und_of rfl); (case q2 => exact und_of rfl); (case q3 => decide); (case q4 => decide))
          | ((refine' ⟨_, Yl_convW (k := .i64) (k' := .u64) rfl ?q1 ?q2, ?_⟩); (case q1 => exact und_of rfl); (case q2 => exact und_of rfl))
          | ((refine' ⟨_, Yl_remE rfl rfl (wrap_u64_lo _) ?q1 hj, ?_⟩); (case q1 => omega))
          | ((refine' ⟨_, Yl_remE rfl rfl (wrap_u64_lo _) ?q1 rfl, ?_⟩); (case q1 => decide))
          | ((refine' ⟨_, Yl_neq_bool rfl rfl ?q1, ?_⟩); (case q1 => exact und_of rfl))
          | ((refine' ⟨_, Yl_neq_strT rfl rfl ?q1, ?_⟩); (case q1 => first | assumption | decide))
          | ((refine' ⟨_, Yl_neq_strF rfl rfl ?q1, ?_⟩); (case q1 => first | assumption | rfl))
          | (refine sp_neqS rfl rfl ?_ ?_ <;> intro hc)))
          | ((with_reducible refine is_build ?_); (first | refine ⟨_, Yl_build rfl (s_build _ _ _), ?_⟩))
          | (first
          | ((refine' ⟨_, Yl_convI (k := .i64) (k' := .u64) rfl ?q1 ?q2 wl, ?_⟩); (case q1 => exact und_of rfl); (case q2 => exact und_of rfl))
          | ((refine' ⟨_, Yl_convI (k := .u64) (k' := .i64) rfl ?q1 ?q2 wj, ?_⟩); (case q1 => exact und_of rfl); (case q2 => exact und_of rfl))
          | ((refine' ⟨_, Yl_convI (k := .u64) (k' := .i64) rfl ?q1 ?q2 (wrap_mod _ 8 ?q3 ?q4), ?_⟩); (case q1 => exact und_of rfl); (case q2 => exact und_of rfl); (case q3 => decide); (case q4 => decide))
          | ((refine' ⟨_, Yl_convI (k := .u64) (k' := .i64) rfl ?q1 ?q2 (wrap_mod _ 65 ?q3 ?q4), ?_⟩); (case q1 => exact und_of rfl); (case q2 => exact und_of rfl); (case q3 => decide); (case q4 => decide))
          | ((refine' ⟨_, Yl_convI (k := .u64) (k' := .i64) rfl ?q1 ?q2 (wrap_mod _ 4097 ?q3 ?q4), ?_⟩); (case q1 => exact und_of rfl); (case q2 => exact und_of rfl); (case q3 => decide); (case q4 => decide))
          | ((refine' ⟨_, Yl_convW (k := .i64) (k' := .u64) rfl ?q1 ?q2, ?_⟩); (case q1 => exact und_of rfl); (case q2 => exact und_of rfl))
          | ((refine' ⟨_, Yl_remE rfl rfl (wrap_u64_lo _) ?q1 hj, ?_⟩); (case q1 => omega))
          | ((refine' ⟨_, Yl_remE rfl rfl (wrap_u64_lo _) ?q1 rfl, ?_⟩); (case q1 => decide)))
          | ((with_reducible refine ie_store ?_); (first
          | ((refine' Ef_store_row1 rfl rfl ?q1 ?q2 ?q3 ?q4 ?q5 ?_); (case q1 => rfl); (case q2 => exact siz_of rfl); (case q3 => (first | exact at0 | exact at1 | exact at2 | exact at3 | exact at4 | exact at5 | exact at6)); (case q4 => omega); (case q5 => assumption))
          | ((refine' Ef_store_rowA rfl rfl ?q1 ?q2 ?q3 ?q4 ?q5 ?q6 ?_); (case q1 => exact siz_of rfl); (case q2 => rfl); (case q3 => (first | assumption | (intro u hu; rcases hu with _ | ⟨_, _ | ⟨_, _ | ⟨_, _ | ⟨_, hu⟩⟩⟩⟩ <;> first | rfl | (cases hu; done)))); (case q4 => (first | exact at0 | exact at1 | exact at2 | exact at3 | exact at4 | exact at5 | exact at6)); (case q5 => omega); (case q6 => assumption))
          | ((refine' Ef_storeA' rfl rfl ?q1 ?q2 ?q3 ?q4 ?_); (case q1 => exact siz_of rfl); (case q2 => (first | assumption | (intro u hu; rcases hu with _ | ⟨_, _ | ⟨_, _ | ⟨_, _ | ⟨_, hu⟩⟩⟩⟩ <;> first | rfl | (cases hu; done)))); (case q3 => (first | exact at0 | exact at1 | exact at2 | exact at3 | exact at4 | exact at5 | exact at6)); (case q4 => rfl))
          | ((refine' Ef_storeC rfl rfl ?q1 ?q2 ?q3 ?q4 ?q5 ?_); (case q1 => rfl); (case q2 => exact siz_of rfl); (case q3 => (first | exact at0 | exact at1 | exact at2 | exact at3 | exact at4 | exact at5 | exact at6)); (case q4 => exact Nat.le_of_ble_eq_true rfl); (case q5 => rfl))))
          | ((with_reducible refine ie_callf ?_); (first
          | ((with_reducible refine g_call 8 ?_); (first | (refine Ef_callN rfl rfl ent_8 (fun w hp => to_c A len cap l w (hp.rd hr fun _ => List.not_mem_nil) hl hb24) ?_; rintro ⟨A1, c1⟩)))
          | ((with_reducible refine g_call 11 ?_); (first | refine Ef_callP rfl rfl ent_11 (fun w _ => awake_c w) ?_))
          | ((with_reducible refine g_call 10 ?_); (first | ((refine' Ef_callP rfl rfl ent_10 (fun w hp => hm1 A1 c1 w (hp.rowOf ?q1)) ?_); (case q1 => (repeat (first | exact .head _ | apply List.Mem.tail))))))
          | ((with_reducible refine g_call 14 ?_); (first | (((refine' Ef_callN rfl rfl ent_14 (fun w hp => hc4 A1 c1 w (hp.rowOf ?q1)) ?_); (case q1 => (repeat (first | exact .head _ | apply List.Mem.tail)))); rintro ⟨A9, c9⟩) | (((refine' Ef_callN rfl rfl ent_14 (fun w hp => hc5 A9 c9 w (hp.rowOf ?q1)) ?_); (case q1 => (repeat (first | exact .head _ | apply List.Mem.tail)))); rintro ⟨A8, c8⟩)))
          | ((with_reducible refine g_call 17 ?_); (first | ((refine' Ef_callP rfl rfl ent_17 (fun w hp => is_v A8 l.length c8 l A len cap l w (hp.rowOf ?q1) (hp.rd hr fun _ => List.not_mem_nil) rfl hl ?q2 true ?q3) ?_); (case q1 => (repeat (first | exact .head _ | apply List.Mem.tail))); (case q2 => omega); (case q3 => simp))))))
          | ((first  | ((with_reducible refine ie_alloc ?_); (((refine' Ef_alloc rfl ?q1 ?_); (case q1 => exact zer_of rfl))))); (first | ((fail_if_success have := b1); intro b1) | ((fail_if_success have := b2); intro b2) | ((fail_if_success have := b3); intro b3) | ((fail_if_success have := b4); intro b4) | ((fail_if_success have := b5); intro b5) | ((fail_if_success have := b6); intro b6) | ((fail_if_success have := b7); intro b7) | ((fail_if_success have := b8); intro b8) | ((fail_if_success have := b9); intro b9) | ((fail_if_success have := b10); intro b10) | ((fail_if_success have := b11); intro b11) | ((fail_if_success have := b12); intro b12)))
          | (fail; (first | ((fail_if_success have := A1); intro A1 c1) | ((fail_if_success have := A2); intro A2 c2) | ((fail_if_success have := A3); intro A3 c3) | ((fail_if_success have := A4); intro A4 c4) | ((fail_if_success have := A5); intro A5 c5) | ((fail_if_success have := A6); intro A6 c6) | ((fail_if_success have := A7); intro A7 c7)))
          | refine Ef_y rfl rfl ?_
          | ((with_reducible refine ie_conv ?_); refine Ef_y' rfl ?_))
      exact ret_n [] (res1 rfl rfl) (List.nil_sublist _) ⟨rfl, rfl⟩
    · subst h1
      dsimp only at hc4
      have hm8 := hmm.len
      have hc5 := fun A9 c9 w h => resize_c A9 m.length c9 m y w h rfl
      have e5 : Qt.resize m y = (l, 0) := by
        have hop := Qt.of_put hm.up (y.1, k, s) y.1
        rw [if_pos rfl, ← hmp] at hop
        unfold Qt.resize
        rw [if_pos ⟨(Qt.may_iff m).2 hmm, hm.ok y hyl⟩, hop]
        unfold Qt.putA
        rw [hmp, Qt.put_put hm.up (z := (y.1, k, s)) hyl rfl]
        rw [show Qt.fits l = true by unfold Qt.fits; exact decide_eq_true ⟨hm.keys, hm.space⟩]
        rfl
      rw [e5] at hc5
      dsimp only at hc5
      refine Sp.enter (n := 70) Try.func5 rfl rfl rfl (Hp.refl w) ?_
      repeat' (first
          | with_reducible refine T.seq ?_
          | with_reducible refine T.block ?_
          | with_reducible refine T.region ?_
          | with_reducible refine T.skip ?_
          | with_reducible refine T.scope ?_
          | with_reducible refine T.label ?_
          | with_reducible refine scopeQ_n ?_
          | with_reducible refine scopeQ_r ?_
          | with_reducible refine scopeQ_x ?_
          | with_reducible refine T.ret ?_
          | with_reducible refine T.exit ?_
          | with_reducible refine seqQ_n ?_
          | with_reducible refine seqQ_x ?_
          | with_reducible refine seqQ_r ?_
          | with_reducible refine blockQ_n ?_
          | with_reducible refine blockQ_r ?_
          | with_reducible refine blockQ_x ?_
          | ((with_reducible refine g_blkx ?_); refine blockQ_y rfl ?_)
          | with_reducible refine loopQ_x ?_
          | with_reducible refine loopQ_r ?_
          | with_reducible refine joinQ_r ?_
          | with_reducible refine joinQ_x ?_
          | ((with_reducible refine g_cond ?_); (first | refine T.cond_t rfl ?_ | refine T.cond_f rfl ?_ | (refine T.cond_s rfl ?_ ?_ <;> intro hc)))
          | with_reducible refine TL_nil ?_
          | with_reducible refine TS_nil ?_
          | ((with_reducible refine TL_y' ?hy ?hd ?_); (case hy => rfl); (case hd => rfl))
          | with_reducible refine TL_e ?_
          | ((with_reducible refine g_TL ?_); (first | refine TL_gy' rfl rfl rfl rfl ?_ | refine TL_gn rfl rfl rfl ?_ | refine TL_gu rfl rfl rfl ?_ | refine TL_ge rfl rfl ?_ | refine TL_gn0 rfl rfl ?_))
          | ((with_reducible refine g_TS ?_); (first | refine TS_y rfl rfl ?_ | refine TS_e rfl ?_ | refine TS_gy rfl rfl rfl rfl ?_ | refine TS_gn rfl rfl rfl rfl ?_ | refine TS_gu rfl rfl rfl rfl ?_ | refine TS_ge rfl rfl rfl ?_ | refine TS_gne rfl rfl rfl rfl ?_ | refine TS_gue rfl rfl rfl rfl ?_ | refine TS_gne0 rfl rfl rfl ?_))
          | ((with_reducible refine TSand ?hd ?_); (case hd => (repeat (first | exact List.nil_sublist _ | refine List.Sublist.cons_cons _ ?_ | refine List.Sublist.cons _ ?_))))
          | ((with_reducible refine TBand ?hd ?_); (case hd => (repeat (first | exact List.nil_sublist _ | refine List.Sublist.cons_cons _ ?_ | refine List.Sublist.cons _ ?_))))
          | ((with_reducible refine g_TB ?_); (first | with_reducible refine TB_run ?_ | refine TB_y rfl rfl ?_ | refine TB_b rfl rfl ?_ ?_ | refine TB_e rfl ?_))
          | ((with_reducible refine is_move ?_); refine ⟨_, Yl_move rfl, ?_⟩)
          | ((with_reducible refine is_assign ?_); refine ⟨_, Yl_assign rfl, ?_⟩)
          | ((with_reducible refine is_pick ?_); (first | refine ⟨_, Yl_pick_t rfl rfl, ?_⟩ | refine ⟨_, Yl_pick_f rfl rfl, ?_⟩))
          | ((with_reducible refine is_fld ?_); (first | ((refine' ⟨_, Yl_fld_ad rfl ?q1, ?_⟩); (case q1 => exact fld_of rfl rfl)) | ((refine' ⟨_, Yl_fld_blk0 rfl ?q1, ?_⟩); (case q1 => exact fld_of rfl rfl)) | ((refine' ⟨_, Yl_fld_blk rfl ?q1, ?_⟩); (case q1 => exact fld_of rfl rfl))))
          | ((with_reducible refine is_load ?_); (first
          | ((refine' ⟨_, Yl_load_blk rfl ?q1 ?q2 ?q3, ?_⟩); (case q1 => exact one_of rfl); (case q2 => (repeat (first | exact .head _ | apply List.Mem.tail))); (case q3 => rfl))
          | ((refine' ⟨_, Yl_loadA_blk rfl ?q1 ?q2, ?_⟩); (case q1 => (repeat (first | exact .head _ | apply List.Mem.tail))); (case q2 => exact agg_of rfl))
          | ((refine' ⟨_, Yl_load_blk rfl ?q1 ?q2 ?q3, ?_⟩); (case q1 => exact one_of rfl); (case q2 => (repeat (first | exact .head _ | apply List.Mem.tail))); (case q3 => assumption))
          | ((refine' ⟨_, Yl_load_rd rfl ?q1 ?q2 List.not_mem_nil ?q3, ?_⟩); (case q1 => exact one_of rfl); (case q2 => assumption); (case q3 => assumption))
          | ((refine' ⟨_, Yl_load_row rfl ?q1 ?q2 ?q3, ?_⟩); (case q1 => exact one_of rfl); (case q2 => (repeat (first | exact .head _ | apply List.Mem.tail))); (case q3 => assumption))
          | ((refine' ⟨_, Yl_loadA_rd rfl ?qa ?qb List.not_mem_nil ?ql ?qc, ?_⟩); (case qa => exact agg_of rfl); (case qb => assumption); (case qc => assumption); (case ql => rfl))
          | ((refine' ⟨_, Yl_loadA_row rfl ?qa ?qb ?ql ?qc, ?_⟩); (case qa => exact agg_of rfl); (case qb => (repeat (first | exact .head _ | apply List.Mem.tail))); (case qc => assumption); (case ql => rfl))))
          | ((with_reducible refine is_idx ?_); (first
          | ((refine' ⟨_, Yl_index rfl rfl ?q1 ?q2 ?q3 (Rd.some_ ?q4 ?q5), ?_⟩); (case q1 => exact und_of rfl); (case q2 => exact siz_of rfl); (case q3 => omega); (case q4 => assumption); (case q5 => omega))
          | ((refine' ⟨_, Yl_index_row rfl rfl ?q1 ?q2 ?q3 ?q4, ?_⟩); (case q1 => exact und_of rfl); (case q2 => exact siz_of rfl); (case q3 => omega); (case q4 => (repeat (first | exact .head _ | apply List.Mem.tail))))
          | ((refine' ⟨_, Yl_index rfl rfl ?q1 ?q2 ?q3 rfl, ?_⟩); (case q1 => exact und_of rfl); (case q2 => exact siz_of rfl); (case q3 => omega))
          | ((refine' ⟨_, Yl_index (j := 0) rfl rfl ?q1 ?q2 ?q3 (Rd.some_ ?q4 ?q5), ?_⟩); (case q1 => exact und_of rfl); (case q2 => exact siz_of rfl); (case q3 => omega); (case q4 => assumption); (case q5 => omega))
          | ((refine' ⟨_, Yl_index_row (j := 0) rfl rfl ?q1 ?q2 ?q3 ?q4, ?_⟩); (case q1 => exact und_of rfl); (case q2 => exact siz_of rfl); (case q3 => omega); (case q4 => (repeat (first | exact .head _ | apply List.Mem.tail))))
          | ((refine' ⟨_, Yl_indexI rfl rfl ?q1 ?q2 ?q3 ?q4 (Rd.some_ ?q5 ?q6), ?_⟩); (case q1 => exact und_of rfl); (case q2 => exact siz_of rfl); (case q3 => omega); (case q4 => omega); (case q5 => assumption); (case q6 => omega))))
          | ((with_reducible refine is_ext ?_); refine ⟨_, Yl_extract rfl rfl, ?_⟩)
          | ((with_reducible refine is_un ?_); refine ⟨_, Yl_not rfl, ?_⟩)
          | ((with_reducible refine is_len ?_); (first | ((refine' ⟨_, Yl_len_slice rfl ?q1, ?_⟩); (case q1 => exact und_of rfl)) | ((refine' ⟨_, Yl_len_string rfl ?q1, ?_⟩); (case q1 => exact und_of rfl))))
          | ((with_reducible refine is_b_gtr ?_); (first | ((refine' ⟨_, Yl_gtr_t rfl rfl ?q1, ?_⟩); (case q1 => omega)) | ((refine' ⟨_, Yl_gtr_f rfl rfl ?q1, ?_⟩); (case q1 => omega)) | (refine sp_gtr rfl rfl ?_ ?_ <;> intro hc)))
          | ((with_reducible refine is_b_eql ?_); (first
          | ((refine' ⟨_, Yl_eql_t rfl rfl ?q1, ?_⟩); (case q1 => omega))
          | ((refine' ⟨_, Yl_eql_f rfl rfl ?q1, ?_⟩); (case q1 => omega))
          | (refine sp_eql rfl rfl ?_ ?_ <;> intro hc)
          | ((refine' ⟨_, Yl_convI (k := .i64) (k' := .u64) rfl ?q1 ?q2 wl, ?_⟩); (case q1 => exact und_of rfl); (case q2 => exact und_of rfl))
          | ((refine' ⟨_, Yl_convI (k := .u64) (k' := .i64) rfl ?q1 ?q2 wj, ?_⟩); (case q1 => exact und_of rfl); (case q2 => exact und_of rfl))
          | ((refine' ⟨_, Yl_convI (k := .u64) (k' := .i64) rfl ?q1 ?q2 (wrap_mod _ 8 ?q3 ?q4), ?_⟩); (case q1 => exact und_of rfl); (case q2 => exact und_of rfl); (case q3 => decide); (case q4 => decide))
          | ((refine' ⟨_, Yl_convI (k := .u64) (k' := .i64) rfl ?q1 ?q2 (wrap_mod _ 65 ?q3 ?q4), ?_⟩); (case q1 => exact und_of rfl); (case q2 => exact und_of rfl); (case q3 => decide); (case q4 => decide))
          | ((refine' ⟨_, Yl_convI (k := .u64) (k' := .i64) rfl ?q1 ?q2 (wrap_mod _ 4097 ?q3 ?q4), ?_⟩); (case q1 => exact und_of rfl); (case q2 => exact und_of rfl); (case q3 => decide); (case q4 => decide))
          | ((refine' ⟨_, Yl_convW (k := .i64) (k' := .u64) rfl ?q1 ?q2, ?_⟩); (case q1 => exact und_of rfl); (case q2 => exact und_of rfl))
          | ((refine' ⟨_, Yl_remE rfl rfl (wrap_u64_lo _) ?q1 hj, ?_⟩); (case q1 => omega))
          | ((refine' ⟨_, Yl_remE rfl rfl (wrap_u64_lo _) ?q1 rfl, ?_⟩); (case q1 => decide))
          | ((refine' ⟨_, Yl_eql_bool rfl rfl ?q1, ?_⟩); (case q1 => exact und_of rfl))
          | ((refine' ⟨_, Yl_eql_strT rfl rfl ?q1, ?_⟩); (case q1 => first | assumption | rfl))
          | ((refine' ⟨_, Yl_eql_strF rfl rfl ?q1, ?_⟩); (case q1 => first | assumption | decide))
          | (refine sp_eqlS rfl rfl ?_ ?_ <;> intro hc)))
          | ((with_reducible refine is_b_neq ?_); (first
          | ((refine' ⟨_, Yl_neq_t rfl rfl ?q1, ?_⟩); (case q1 => omega))
          | ((refine' ⟨_, Yl_neq_f rfl rfl ?q1, ?_⟩); (case q1 => omega))
          | (refine sp_neq rfl rfl ?_ ?_ <;> intro hc)
          | ((refine' ⟨_, Yl_convI (k := .i64) (k' := .u64) rfl ?q1 ?q2 wl, ?_⟩); (case q1 => exact und_of rfl); (case q2 => exact und_of rfl))
          | ((refine' ⟨_, Yl_convI (k := .u64) (k' := .i64) rfl ?q1 ?q2 wj, ?_⟩); (case q1 => exact und_of rfl); (case q2 => exact und_of rfl))
          | ((refine' ⟨_, Yl_convI (k := .u64) (k' := .i64) rfl ?q1 ?q2 (wrap_mod _ 8 ?q3 ?q4), ?_⟩); (case q1 => exact und_of rfl); (case q2 => exact und_of rfl); (case q3 => decide); (case q4 => decide))
          | ((refine' ⟨_, Yl_convI (k := .u64) (k' := .i64) rfl ?q1 ?q2 (wrap_mod _ 65 ?q3 ?q4), ?_⟩); (case q1 => exact und_of rfl); (case q2 => exact und_of rfl); (case q3 => decide); (case q4 => decide))
          | ((refine' ⟨_, Yl_convI (k := .u64) (k' := .i64) rfl ?q1 ?q2 (wrap_mod _ 4097 ?q3 ?q4), ?_⟩); (case q1 => exact und_of rfl); (case q2 => exact und_of rfl); (case q3 => decide); (case q4 => decide))
          | ((refine' ⟨_, Yl_convW (k := .i64) (k' := .u64) rfl ?q1 ?q2, ?_⟩); (case q1 => exact und_of rfl); (case q2 => exact und_of rfl))
          | ((refine' ⟨_, Yl_remE rfl rfl (wrap_u64_lo _) ?q1 hj, ?_⟩); (case q1 => omega))
          | ((refine' ⟨_, Yl_remE rfl rfl (wrap_u64_lo _) ?q1 rfl, ?_⟩); (case q1 => decide))
          | ((refine' ⟨_, Yl_neq_bool rfl rfl ?q1, ?_⟩); (case q1 => exact und_of rfl))
          | ((refine' ⟨_, Yl_neq_strT rfl rfl ?q1, ?_⟩); (case q1 => first | assumption | decide))
          | ((refine' ⟨_, Yl_neq_strF rfl rfl ?q1, ?_⟩); (case q1 => first | assumption | rfl))
          | (refine sp_neqS rfl rfl ?_ ?_ <;> intro hc)))
          | ((with_reducible refine is_build ?_); (first | refine ⟨_, Yl_build rfl (s_build _ _ _), ?_⟩))
          | (first
          | ((refine' ⟨_, Yl_convI (k := .i64) (k' := .u64) rfl ?q1 ?q2 wl, ?_⟩); (case q1 => exact und_of rfl); (case q2 => exact und_of rfl))
          | ((refine' ⟨_, Yl_convI (k := .u64) (k' := .i64) rfl ?q1 ?q2 wj, ?_⟩); (case q1 => exact und_of rfl); (case q2 => exact und_of rfl))
          | ((refine' ⟨_, Yl_convI (k := .u64) (k' := .i64) rfl ?q1 ?q2 (wrap_mod _ 8 ?q3 ?q4), ?_⟩); (case q1 => exact und_of rfl); (case q2 => exact und_of rfl); (case q3 => decide); (case q4 => decide))
          | ((refine' ⟨_, Yl_convI (k := .u64) (k' := .i64) rfl ?q1 ?q2 (wrap_mod _ 65 ?q3 ?q4), ?_⟩); (case q1 => exact und_of rfl); (case q2 => exact und_of rfl); (case q3 => decide); (case q4 => decide))
          | ((refine' ⟨_, Yl_convI (k := .u64) (k' := .i64) rfl ?q1 ?q2 (wrap_mod _ 4097 ?q3 ?q4), ?_⟩); (case q1 => exact und_of rfl); (case q2 => exact und_of rfl); (case q3 => decide); (case q4 => decide))
          | ((refine' ⟨_, Yl_convW (k := .i64) (k' := .u64) rfl ?q1 ?q2, ?_⟩); (case q1 => exact und_of rfl); (case q2 => exact und_of rfl))
          | ((refine' ⟨_, Yl_remE rfl rfl (wrap_u64_lo _) ?q1 hj, ?_⟩); (case q1 => omega))
          | ((refine' ⟨_, Yl_remE rfl rfl (wrap_u64_lo _) ?q1 rfl, ?_⟩); (case q1 => decide)))
          | ((with_reducible refine ie_store ?_); (first
          | ((refine' Ef_store_row1 rfl rfl ?q1 ?q2 ?q3 ?q4 ?q5 ?_); (case q1 => rfl); (case q2 => exact siz_of rfl); (case q3 => (first | exact at0 | exact at1 | exact at2 | exact at3 | exact at4 | exact at5 | exact at6)); (case q4 => omega); (case q5 => assumption))
          | ((refine' Ef_store_rowA rfl rfl ?q1 ?q2 ?q3 ?q4 ?q5 ?q6 ?_); (case q1 => exact siz_of rfl); (case q2 => rfl); (case q3 => (first | assumption | (intro u hu; rcases hu with _ | ⟨_, _ | ⟨_, _ | ⟨_, _ | ⟨_, hu⟩⟩⟩⟩ <;> first | rfl | (cases hu; done)))); (case q4 => (first | exact at0 | exact at1 | exact at2 | exact at3 | exact at4 | exact at5 | exact at6)); (case q5 => omega); (case q6 => assumption))
          | ((refine' Ef_storeA' rfl rfl ?q1 ?q2 ?q3 ?q4 ?_); (case q1 => exact siz_of rfl); (case q2 => (first | assumption | (intro u hu; rcases hu with _ | ⟨_, _ | ⟨_, _ | ⟨_, _ | ⟨_, hu⟩⟩⟩⟩ <;> first | rfl | (cases hu; done)))); (case q3 => (first | exact at0 | exact at1 | exact at2 | exact at3 | exact at4 | exact at5 | exact at6)); (case q4 => rfl))
          | ((refine' Ef_storeC rfl rfl ?q1 ?q2 ?q3 ?q4 ?q5 ?_); (case q1 => rfl); (case q2 => exact siz_of rfl); (case q3 => (first | exact at0 | exact at1 | exact at2 | exact at3 | exact at4 | exact at5 | exact at6)); (case q4 => exact Nat.le_of_ble_eq_true rfl); (case q5 => rfl))))
          | ((with_reducible refine ie_callf ?_); (first
          | ((with_reducible refine g_call 8 ?_); (first | (refine Ef_callN rfl rfl ent_8 (fun w hp => to_c A len cap l w (hp.rd hr fun _ => List.not_mem_nil) hl hb24) ?_; rintro ⟨A1, c1⟩)))
          | ((with_reducible refine g_call 11 ?_); (first | refine Ef_callP rfl rfl ent_11 (fun w _ => awake_c w) ?_))
          | ((with_reducible refine g_call 10 ?_); (first | ((refine' Ef_callP rfl rfl ent_10 (fun w hp => hm1 A1 c1 w (hp.rowOf ?q1)) ?_); (case q1 => (repeat (first | exact .head _ | apply List.Mem.tail))))))
          | ((with_reducible refine g_call 14 ?_); (first | (((refine' Ef_callN rfl rfl ent_14 (fun w hp => hc4 A1 c1 w (hp.rowOf ?q1)) ?_); (case q1 => (repeat (first | exact .head _ | apply List.Mem.tail)))); rintro ⟨A9, c9⟩) | (((refine' Ef_callN rfl rfl ent_14 (fun w hp => hc5 A9 c9 w (hp.rowOf ?q1)) ?_); (case q1 => (repeat (first | exact .head _ | apply List.Mem.tail)))); rintro ⟨A8, c8⟩)))
          | ((with_reducible refine g_call 17 ?_); (first | ((refine' Ef_callP rfl rfl ent_17 (fun w hp => is_v A8 l.length c8 l A len cap l w (hp.rowOf ?q1) (hp.rd hr fun _ => List.not_mem_nil) rfl hl ?q2 true ?q3) ?_); (case q1 => (repeat (first | exact .head _ | apply List.Mem.tail))); (case q2 => omega); (case q3 => simp))))))
          | ((first  | ((with_reducible refine ie_alloc ?_); (((refine' Ef_alloc rfl ?q1 ?_); (case q1 => exact zer_of rfl))))); (first | ((fail_if_success have := b1); intro b1) | ((fail_if_success have := b2); intro b2) | ((fail_if_success have := b3); intro b3) | ((fail_if_success have := b4); intro b4) | ((fail_if_success have := b5); intro b5) | ((fail_if_success have := b6); intro b6) | ((fail_if_success have := b7); intro b7) | ((fail_if_success have := b8); intro b8) | ((fail_if_success have := b9); intro b9) | ((fail_if_success have := b10); intro b10) | ((fail_if_success have := b11); intro b11) | ((fail_if_success have := b12); intro b12)))
          | (fail; (first | ((fail_if_success have := A1); intro A1 c1) | ((fail_if_success have := A2); intro A2 c2) | ((fail_if_success have := A3); intro A3 c3) | ((fail_if_success have := A4); intro A4 c4) | ((fail_if_success have := A5); intro A5 c5) | ((fail_if_success have := A6); intro A6 c6) | ((fail_if_success have := A7); intro A7 c7)))
          | refine Ef_y rfl rfl ?_
          | ((with_reducible refine ie_conv ?_); refine Ef_y' rfl ?_))
      exact ret_n [] (res1 rfl rfl) (List.nil_sublist _) ⟨rfl, rfl⟩
  · have hq' : l.length = 0 ∨ (0 < l.length ∧ p = false) := by
      rcases Nat.eq_zero_or_pos l.length with h | h
      · exact .inl h
      · cases p
        · exact .inr ⟨h, rfl⟩
        · exact absurd ⟨rfl, h⟩ hq
    rcases hq' with h0 | ⟨h0, rfl⟩
    all_goals
      refine Sp.enter (n := 70) Try.func5 rfl rfl rfl (Hp.refl w) ?_
      repeat' (first
          | with_reducible refine T.seq ?_
          | with_reducible refine T.block ?_
          | with_reducible refine T.region ?_
          | with_reducible refine T.skip ?_
          | with_reducible refine T.scope ?_
          | with_reducible refine T.label ?_
          | with_reducible refine scopeQ_n ?_
          | with_reducible refine scopeQ_r ?_
          | with_reducible refine scopeQ_x ?_
          | with_reducible refine T.ret ?_
          | with_reducible refine T.exit ?_
          | with_reducible refine seqQ_n ?_
          | with_reducible refine seqQ_x ?_
          | with_reducible refine seqQ_r ?_
          | with_reducible refine blockQ_n ?_
          | with_reducible refine blockQ_r ?_
          | with_reducible refine blockQ_x ?_
          | ((with_reducible refine g_blkx ?_); refine blockQ_y rfl ?_)
          | with_reducible refine loopQ_x ?_
          | with_reducible refine loopQ_r ?_
          | with_reducible refine joinQ_r ?_
          | with_reducible refine joinQ_x ?_
          | ((with_reducible refine g_cond ?_); (first | refine T.cond_t rfl ?_ | refine T.cond_f rfl ?_ | (refine T.cond_s rfl ?_ ?_ <;> intro hc)))
          | with_reducible refine TL_nil ?_
          | with_reducible refine TS_nil ?_
          | ((with_reducible refine TL_y' ?hy ?hd ?_); (case hy => rfl); (case hd => rfl))
          | with_reducible refine TL_e ?_
          | ((with_reducible refine g_TL ?_); (first | refine TL_gy' rfl rfl rfl rfl ?_ | refine TL_gn rfl rfl rfl ?_ | refine TL_gu rfl rfl rfl ?_ | refine TL_ge rfl rfl ?_ | refine TL_gn0 rfl rfl ?_))
          | ((with_reducible refine g_TS ?_); (first | refine TS_y rfl rfl ?_ | refine TS_e rfl ?_ | refine TS_gy rfl rfl rfl rfl ?_ | refine TS_gn rfl rfl rfl rfl ?_ | refine TS_gu rfl rfl rfl rfl ?_ | refine TS_ge rfl rfl rfl ?_ | refine TS_gne rfl rfl rfl rfl ?_ | refine TS_gue rfl rfl rfl rfl ?_ | refine TS_gne0 rfl rfl rfl ?_))
          | ((with_reducible refine TSand ?hd ?_); (case hd => (repeat (first | exact List.nil_sublist _ | refine List.Sublist.cons_cons _ ?_ | refine List.Sublist.cons _ ?_))))
          | ((with_reducible refine TBand ?hd ?_); (case hd => (repeat (first | exact List.nil_sublist _ | refine List.Sublist.cons_cons _ ?_ | refine List.Sublist.cons _ ?_))))
          | ((with_reducible refine g_TB ?_); (first | with_reducible refine TB_run ?_ | refine TB_y rfl rfl ?_ | refine TB_b rfl rfl ?_ ?_ | refine TB_e rfl ?_))
          | ((with_reducible refine is_move ?_); refine ⟨_, Yl_move rfl, ?_⟩)
          | ((with_reducible refine is_assign ?_); refine ⟨_, Yl_assign rfl, ?_⟩)
          | ((with_reducible refine is_pick ?_); (first | refine ⟨_, Yl_pick_t rfl rfl, ?_⟩ | refine ⟨_, Yl_pick_f rfl rfl, ?_⟩))
          | ((with_reducible refine is_fld ?_); (first | ((refine' ⟨_, Yl_fld_ad rfl ?q1, ?_⟩); (case q1 => exact fld_of rfl rfl)) | ((refine' ⟨_, Yl_fld_blk0 rfl ?q1, ?_⟩); (case q1 => exact fld_of rfl rfl)) | ((refine' ⟨_, Yl_fld_blk rfl ?q1, ?_⟩); (case q1 => exact fld_of rfl rfl))))
          | ((with_reducible refine is_load ?_); (first
          | ((refine' ⟨_, Yl_load_blk rfl ?q1 ?q2 ?q3, ?_⟩); (case q1 => exact one_of rfl); (case q2 => (repeat (first | exact .head _ | apply List.Mem.tail))); (case q3 => rfl))
          | ((refine' ⟨_, Yl_loadA_blk rfl ?q1 ?q2, ?_⟩); (case q1 => (repeat (first | exact .head _ | apply List.Mem.tail))); (case q2 => exact agg_of rfl))
          | ((refine' ⟨_, Yl_load_blk rfl ?q1 ?q2 ?q3, ?_⟩); (case q1 => exact one_of rfl); (case q2 => (repeat (first | exact .head _ | apply List.Mem.tail))); (case q3 => assumption))
          | ((refine' ⟨_, Yl_load_rd rfl ?q1 ?q2 List.not_mem_nil ?q3, ?_⟩); (case q1 => exact one_of rfl); (case q2 => assumption); (case q3 => assumption))
          | ((refine' ⟨_, Yl_load_row rfl ?q1 ?q2 ?q3, ?_⟩); (case q1 => exact one_of rfl); (case q2 => (repeat (first | exact .head _ | apply List.Mem.tail))); (case q3 => assumption))
          | ((refine' ⟨_, Yl_loadA_rd rfl ?qa ?qb List.not_mem_nil ?ql ?qc, ?_⟩); (case qa => exact agg_of rfl); (case qb => assumption); (case qc => assumption); (case ql => rfl))
          | ((refine' ⟨_, Yl_loadA_row rfl ?qa ?qb ?ql ?qc, ?_⟩); (case qa => exact agg_of rfl); (case qb => (repeat (first | exact .head _ | apply List.Mem.tail))); (case qc => assumption); (case ql => rfl))))
          | ((with_reducible refine is_idx ?_); (first
          | ((refine' ⟨_, Yl_index rfl rfl ?q1 ?q2 ?q3 (Rd.some_ ?q4 ?q5), ?_⟩); (case q1 => exact und_of rfl); (case q2 => exact siz_of rfl); (case q3 => omega); (case q4 => assumption); (case q5 => omega))
          | ((refine' ⟨_, Yl_index_row rfl rfl ?q1 ?q2 ?q3 ?q4, ?_⟩); (case q1 => exact und_of rfl); (case q2 => exact siz_of rfl); (case q3 => omega); (case q4 => (repeat (first | exact .head _ | apply List.Mem.tail))))
          | ((refine' ⟨_, Yl_index rfl rfl ?q1 ?q2 ?q3 rfl, ?_⟩); (case q1 => exact und_of rfl); (case q2 => exact siz_of rfl); (case q3 => omega))
          | ((refine' ⟨_, Yl_index (j := 0) rfl rfl ?q1 ?q2 ?q3 (Rd.some_ ?q4 ?q5), ?_⟩); (case q1 => exact und_of rfl); (case q2 => exact siz_of rfl); (case q3 => omega); (case q4 => assumption); (case q5 => omega))
          | ((refine' ⟨_, Yl_index_row (j := 0) rfl rfl ?q1 ?q2 ?q3 ?q4, ?_⟩); (case q1 => exact und_of rfl); (case q2 => exact siz_of rfl); (case q3 => omega); (case q4 => (repeat (first | exact .head _ | apply List.Mem.tail))))
          | ((refine' ⟨_, Yl_indexI rfl rfl ?q1 ?q2 ?q3 ?q4 (Rd.some_ ?q5 ?q6), ?_⟩); (case q1 => exact und_of rfl); (case q2 => exact siz_of rfl); (case q3 => omega); (case q4 => omega); (case q5 => assumption); (case q6 => omega))))
          | ((with_reducible refine is_ext ?_); refine ⟨_, Yl_extract rfl rfl, ?_⟩)
          | ((with_reducible refine is_un ?_); refine ⟨_, Yl_not rfl, ?_⟩)
          | ((with_reducible refine is_len ?_); (first | ((refine' ⟨_, Yl_len_slice rfl ?q1, ?_⟩); (case q1 => exact und_of rfl)) | ((refine' ⟨_, Yl_len_string rfl ?q1, ?_⟩); (case q1 => exact und_of rfl))))
          | ((with_reducible refine is_b_gtr ?_); (first | ((refine' ⟨_, Yl_gtr_t rfl rfl ?q1, ?_⟩); (case q1 => omega)) | ((refine' ⟨_, Yl_gtr_f rfl rfl ?q1, ?_⟩); (case q1 => omega)) | (refine sp_gtr rfl rfl ?_ ?_ <;> intro hc)))
          | ((with_reducible refine is_b_eql ?_); (first
          | ((refine' ⟨_, Yl_eql_t rfl rfl ?q1, ?_⟩); (case q1 => omega))
          | ((refine' ⟨_, Yl_eql_f rfl rfl ?q1, ?_⟩); (case q1 => omega))
          | (refine sp_eql rfl rfl ?_ ?_ <;> intro hc)
          | ((refine' ⟨_, Yl_convI (k := .i64) (k' := .u64) rfl ?q1 ?q2 wl, ?_⟩); (case q1 => exact und_of rfl); (case q2 => exact und_of rfl))
          | ((refine' ⟨_, Yl_convI (k := .u64) (k' := .i64) rfl ?q1 ?q2 wj, ?_⟩); (case q1 => exact und_of rfl); (case q2 => exact und_of rfl))
          | ((refine' ⟨_, Yl_convI (k := .u64) (k' := .i64) rfl ?q1 ?q2 (wrap_mod _ 8 ?q3 ?q4), ?_⟩); (case q1 => exact und_of rfl); (case q2 => exact und_of rfl); (case q3 => decide); (case q4 => decide))
          | ((refine' ⟨_, Yl_convI (k := .u64) (k' := .i64) rfl ?q1 ?q2 (wrap_mod _ 65 ?q3 ?q4), ?_⟩); (case q1 => exact und_of rfl); (case q2 => exact und_of rfl); (case q3 => decide); (case q4 => decide))
          | ((refine' ⟨_, Yl_convI (k := .u64) (k' := .i64) rfl ?q1 ?q2 (wrap_mod _ 4097 ?q3 ?q4), ?_⟩); (case q1 => exact und_of rfl); (case q2 => exact und_of rfl); (case q3 => decide); (case q4 => decide))
          | ((refine' ⟨_, Yl_convW (k := .i64) (k' := .u64) rfl ?q1 ?q2, ?_⟩); (case q1 => exact und_of rfl); (case q2 => exact und_of rfl))
          | ((refine' ⟨_, Yl_remE rfl rfl (wrap_u64_lo _) ?q1 hj, ?_⟩); (case q1 => omega))
          | ((refine' ⟨_, Yl_remE rfl rfl (wrap_u64_lo _) ?q1 rfl, ?_⟩); (case q1 => decide))
          | ((refine' ⟨_, Yl_eql_bool rfl rfl ?q1, ?_⟩); (case q1 => exact und_of rfl))
          | ((refine' ⟨_, Yl_eql_strT rfl rfl ?q1, ?_⟩); (case q1 => first | assumption | rfl))
          | ((refine' ⟨_, Yl_eql_strF rfl rfl ?q1, ?_⟩); (case q1 => first | assumption | decide))
          | (refine sp_eqlS rfl rfl ?_ ?_ <;> intro hc)))
          | ((with_reducible refine is_b_neq ?_); (first
          | ((refine' ⟨_, Yl_neq_t rfl rfl ?q1, ?_⟩); (case q1 => omega))
          | ((refine' ⟨_, Yl_neq_f rfl rfl ?q1, ?_⟩); (case q1 => omega))
          | (refine sp_neq rfl rfl ?_ ?_ <;> intro hc)
          | ((refine' ⟨_, Yl_convI (k := .i64) (k' := .u64) rfl ?q1 ?q2 wl, ?_⟩); (case q1 => exact und_of rfl); (case q2 => exact und_of rfl))
          | ((refine' ⟨_, Yl_convI (k := .u64) (k' := .i64) rfl ?q1 ?q2 wj, ?_⟩); (case q1 => exact und_of rfl); (case q2 => exact und_of rfl))
          | ((refine' ⟨_, Yl_convI (k := .u64) (k' := .i64) rfl ?q1 ?q2 (wrap_mod _ 8 ?q3 ?q4), ?_⟩); (case q1 => exact und_of rfl); (case q2 => exact und_of rfl); (case q3 => decide); (case q4 => decide))
          | ((refine' ⟨_, Yl_convI (k := .u64) (k' := .i64) rfl ?q1 ?q2 (wrap_mod _ 65 ?q3 ?q4), ?_⟩); (case q1 => exact und_of rfl); (case q2 => exact und_of rfl); (case q3 => decide); (case q4 => decide))
          | ((refine' ⟨_, Yl_convI (k := .u64) (k' := .i64) rfl ?q1 ?q2 (wrap_mod _ 4097 ?q3 ?q4), ?_⟩); (case q1 => exact und_of rfl); (case q2 => exact und_of rfl); (case q3 => decide); (case q4 => decide))
          | ((refine' ⟨_, Yl_convW (k := .i64) (k' := .u64) rfl ?q1 ?q2, ?_⟩); (case q1 => exact und_of rfl); (case q2 => exact und_of rfl))
          | ((refine' ⟨_, Yl_remE rfl rfl (wrap_u64_lo _) ?q1 hj, ?_⟩); (case q1 => omega))
          | ((refine' ⟨_, Yl_remE rfl rfl (wrap_u64_lo _) ?q1 rfl, ?_⟩); (case q1 => decide))
          | ((refine' ⟨_, Yl_neq_bool rfl rfl ?q1, ?_⟩); (case q1 => exact und_of rfl))
          | ((refine' ⟨_, Yl_neq_strT rfl rfl ?q1, ?_⟩); (case q1 => first | assumption | decide))
          | ((refine' ⟨_, Yl_neq_strF rfl rfl ?q1, ?_⟩); (case q1 => first | assumption | rfl))
          | (refine sp_neqS rfl rfl ?_ ?_ <;> intro hc)))
          | ((with_reducible refine is_build ?_); (first | refine ⟨_, Yl_build rfl (s_build _ _ _), ?_⟩))
          | (first
          | ((refine' ⟨_, Yl_convI (k := .i64) (k' := .u64) rfl ?q1 ?q2 wl, ?_⟩); (case q1 => exact und_of rfl); (case q2 => exact und_of rfl))
          | ((refine' ⟨_, Yl_convI (k := .u64) (k' := .i64) rfl ?q1 ?q2 wj, ?_⟩); (case q1 => exact und_of rfl); (case q2 => exact und_of rfl))
          | ((refine' ⟨_, Yl_convI (k := .u64) (k' := .i64) rfl ?q1 ?q2 (wrap_mod _ 8 ?q3 ?q4), ?_⟩); (case q1 => exact und_of rfl); (case q2 => exact und_of rfl); (case q3 => decide); (case q4 => decide))
          | ((refine' ⟨_, Yl_convI (k := .u64) (k' := .i64) rfl ?q1 ?q2 (wrap_mod _ 65 ?q3 ?q4), ?_⟩); (case q1 => exact und_of rfl); (case q2 => exact und_of rfl); (case q3 => decide); (case q4 => decide))
          | ((refine' ⟨_, Yl_convI (k := .u64) (k' := .i64) rfl ?q1 ?q2 (wrap_mod _ 4097 ?q3 ?q4), ?_⟩); (case q1 => exact und_of rfl); (case q2 => exact und_of rfl); (case q3 => decide); (case q4 => decide))
          | ((refine' ⟨_, Yl_convW (k := .i64) (k' := .u64) rfl ?q1 ?q2, ?_⟩); (case q1 => exact und_of rfl); (case q2 => exact und_of rfl))
          | ((refine' ⟨_, Yl_remE rfl rfl (wrap_u64_lo _) ?q1 hj, ?_⟩); (case q1 => omega))
          | ((refine' ⟨_, Yl_remE rfl rfl (wrap_u64_lo _) ?q1 rfl, ?_⟩); (case q1 => decide)))
          | ((with_reducible refine ie_store ?_); (first
          | ((refine' Ef_store_row1 rfl rfl ?q1 ?q2 ?q3 ?q4 ?q5 ?_); (case q1 => rfl); (case q2 => exact siz_of rfl); (case q3 => (first | exact at0 | exact at1 | exact at2 | exact at3 | exact at4 | exact at5 | exact at6)); (case q4 => omega); (case q5 => assumption))
          | ((refine' Ef_store_rowA rfl rfl ?q1 ?q2 ?q3 ?q4 ?q5 ?q6 ?_); (case q1 => exact siz_of rfl); (case q2 => rfl); (case q3 => (first | assumption | (intro u hu; rcases hu with _ | ⟨_, _ | ⟨_, _ | ⟨_, _ | ⟨_, hu⟩⟩⟩⟩ <;> first | rfl | (cases hu; done)))); (case q4 => (first | exact at0 | exact at1 | exact at2 | exact at3 | exact at4 | exact at5 | exact at6)); (case q5 => omega); (case q6 => assumption))
          | ((refine' Ef_storeA' rfl rfl ?q1 ?q2 ?q3 ?q4 ?_); (case q1 => exact siz_of rfl); (case q2 => (first | assumption | (intro u hu; rcases hu with _ | ⟨_, _ | ⟨_, _ | ⟨_, _ | ⟨_, hu⟩⟩⟩⟩ <;> first | rfl | (cases hu; done)))); (case q3 => (first | exact at0 | exact at1 | exact at2 | exact at3 | exact at4 | exact at5 | exact at6)); (case q4 => rfl))
          | ((refine' Ef_storeC rfl rfl ?q1 ?q2 ?q3 ?q4 ?q5 ?_); (case q1 => rfl); (case q2 => exact siz_of rfl); (case q3 => (first | exact at0 | exact at1 | exact at2 | exact at3 | exact at4 | exact at5 | exact at6)); (case q4 => exact Nat.le_of_ble_eq_true rfl); (case q5 => rfl))))
          | ((with_reducible refine ie_callf ?_); (first
          | ((with_reducible refine g_call 8 ?_); (first | (refine Ef_callN rfl rfl ent_8 (fun w hp => to_c A len cap l w (hp.rd hr fun _ => List.not_mem_nil) hl hb24) ?_; rintro ⟨A1, c1⟩)))
          | ((with_reducible refine g_call 11 ?_); (first | refine Ef_callP rfl rfl ent_11 (fun w _ => awake_c w) ?_))
          | ((with_reducible refine g_call 10 ?_); (first | ((refine' Ef_callP rfl rfl ent_10 (fun w hp => hm1 A1 c1 w (hp.rowOf ?q1)) ?_); (case q1 => (repeat (first | exact .head _ | apply List.Mem.tail))))))
          | ((with_reducible refine g_call 14 ?_); (first | (((refine' Ef_callN rfl rfl ent_14 (fun w hp => hc4 A1 c1 w (hp.rowOf ?q1)) ?_); (case q1 => (repeat (first | exact .head _ | apply List.Mem.tail)))); rintro ⟨A9, c9⟩) | (((refine' Ef_callN rfl rfl ent_14 (fun w hp => hc5 A9 c9 w (hp.rowOf ?q1)) ?_); (case q1 => (repeat (first | exact .head _ | apply List.Mem.tail)))); rintro ⟨A8, c8⟩)))
          | ((with_reducible refine g_call 17 ?_); (first | ((refine' Ef_callP rfl rfl ent_17 (fun w hp => is_v A8 l.length c8 l A len cap l w (hp.rowOf ?q1) (hp.rd hr fun _ => List.not_mem_nil) rfl hl ?q2 true ?q3) ?_); (case q1 => (repeat (first | exact .head _ | apply List.Mem.tail))); (case q2 => omega); (case q3 => simp))))))
          | ((first  | ((with_reducible refine ie_alloc ?_); (((refine' Ef_alloc rfl ?q1 ?_); (case q1 => exact zer_of rfl))))); (first | ((fail_if_success have := b1); intro b1) | ((fail_if_success have := b2); intro b2) | ((fail_if_success have := b3); intro b3) | ((fail_if_success have := b4); intro b4) | ((fail_if_success have := b5); intro b5) | ((fail_if_success have := b6); intro b6) | ((fail_if_success have := b7); intro b7) | ((fail_if_success have := b8); intro b8) | ((fail_if_success have := b9); intro b9) | ((fail_if_success have := b10); intro b10) | ((fail_if_success have := b11); intro b11) | ((fail_if_success have := b12); intro b12)))
          | (fail; (first | ((fail_if_success have := A1); intro A1 c1) | ((fail_if_success have := A2); intro A2 c2) | ((fail_if_success have := A3); intro A3 c3) | ((fail_if_success have := A4); intro A4 c4) | ((fail_if_success have := A5); intro A5 c5) | ((fail_if_success have := A6); intro A6 c6) | ((fail_if_success have := A7); intro A7 c7)))
          | refine Ef_y rfl rfl ?_
          | ((with_reducible refine ie_conv ?_); refine Ef_y' rfl ?_))
      all_goals exact ret_n [] (res1 rfl rfl) (List.nil_sublist _) ⟨rfl, rfl⟩
end
end Go.Proofs.Ytjcgahlpfnclkaa
