/- The laws on lines of grants: what a call of each comes to: for every slices of grants. -/
import Derived.Test.YtiekpkkmiciakaaT4
namespace Go.Proofs.Ytiekpkkmiciakaa
open Go.RowKit
set_option maxRecDepth 20000

theorem rleaves_any (A : Option Addr) (len cap : Nat) (l : List Rt.G) (w : World) (hr : Rd w A len 3 (l.flatMap gE)) (hl : l.length = len) (hle : len ≤ 9223372036854775807) (hz : ∀ x ∈ l, 0 ≤ x.1 ∧ x.1 ≤ 255) :
    Sp Try.prog 13 [.slice A len cap] w [] fun v N => v = .tuple #[.int .u8 (Rt.refR l), .int .i64 (Rt.refX l)] ∧ N = [] := by
  cases l with
  | nil =>
    simp at hl
    subst hl
    exact rleaves_0 cap w A
  | cons g l => exact rleaves_c A len cap l w g hr hl hle hz

set_option maxHeartbeats 4000000 in
theorem rwithin_c (A : Option Addr) (len cap : Nat) (l : List Rt.G) (B : Option Addr) (lenb capb : Nat) (m : List Rt.G) (r need : Int) (w : World) (hra : Rd w A len 3 (l.flatMap gE)) (hla : l.length = len) (hza : ∀ g ∈ l, 0 ≤ g.1 ∧ g.1 ≤ 255)
    (hrb : Rd w B lenb 3 (m.flatMap gE)) (hlb : m.length = lenb) (hzb : ∀ g ∈ m, 0 ≤ g.1 ∧ g.1 ≤ 255) (hl1 : len ≤ 9223372036854775807) (hl2 : lenb ≤ 9223372036854775807) (h1 : 0 ≤ r) (h2 : r ≤ 255) (h3 : 0 ≤ need) (h4 : need ≤ 255) :
    Sp Try.prog 5 [.slice A len cap, .slice B lenb capb, .int .u8 r, .int .u8 need] w [] fun v N => v = .bool true ∧ N = [] := by
  have b1 := Rt.accR_bd l
  have b2 := Rt.accR_bd m
  have hwi := fun w hra hrb => within_c A len cap l B lenb capb m w hra hla hza hrb hlb hzb
  have hhas := fun w => has_c r need w h1 h2 h3 h4
  have hiff := Rt.has_iff r need h1 h2 h3 h4
  have hwf := Rt.within_iff (Rt.accR l) (Rt.accR m) b1.1 (by omega) b2.1 (by omega)
  have hln := fun w hra => rline_v A len cap l (Rt.line l) w hra hla hl1 rfl
  have hlm := fun w hrb => rline_v B lenb capb m (Rt.line m) w hrb hlb hl2 rfl
  have hrl := fun w hra => rleaves_any A len cap l w hra hla hl1 hza
  have hrm := fun w hrb => rleaves_any B lenb capb m w hrb hlb hl2 hzb
  have hor : (((r.toNat ||| need.toNat : Nat) : Int) = r) ↔ Rt.has r need = true := by rw [← hiff]; simp [Rt.has]
  have hand : (((Rt.accR l).toNat &&& (Rt.accR m).toNat : Nat) : Int) = Rt.accR l ↔ Rt.has (Rt.accR m) (Rt.accR l) = true := by
    have : Rt.has (Rt.accR m) (Rt.accR l) = true ↔ Rt.land (Rt.accR l) (Rt.accR m) = Rt.accR l := by rw [← hwf]; simp [Rt.has]
    rw [this]; rfl
  have hw : within l m = (Rt.line l && Rt.line m && Rt.has (Rt.accR m) (Rt.accR l) && decide (Rt.accX l ≤ Rt.accX m)) := rfl
  have e1 : Rt.line l = true → Rt.refR l = Rt.accR l := fun h => Rt.refR_eq h fun g hg => (hza g hg).1
  have e2 : Rt.line m = true → Rt.refR m = Rt.accR m := fun h => Rt.refR_eq h fun g hg => (hzb g hg).1
  have e3 : Rt.line l = true → Rt.refX l = Rt.accX l := Rt.refX_eq
  have e4 : Rt.line m = true → Rt.refX m = Rt.accX m := Rt.refX_eq
  generalize Rt.line l = la at *
  generalize Rt.line m = lm at *
  generalize Rt.has r need = hn at *
  generalize Rt.has (Rt.accR m) (Rt.accR l) = hm at *
  by_cases hx : Rt.accX l ≤ Rt.accX m
  all_goals
    cases la <;> cases lm <;> cases hn <;> cases hm
    all_goals
      simp only [hx, Bool.and_true, Bool.and_false, decide_true, decide_false] at hw
      simp only [Bool.false_eq_true, iff_true, iff_false] at hor hand
      rw [hw] at hwi
      try rw [e1 rfl, e3 rfl] at hrl
      try rw [e2 rfl, e4 rfl] at hrm
      refine Sp.enter (n := 69) Try.func5 rfl rfl rfl (Hp.refl w) ?_
      repeat' (first
              | with_reducible refine T.seq ?_
              | with_reducible refine T.block ?_
              | with_reducible refine T.region ?_
              | with_reducible refine T.skip ?_
              | with_reducible refine T.ret ?_
              | with_reducible refine T.exit ?_
              | with_reducible refine seqQ_n ?_
              | with_reducible refine seqQ_x ?_
              | with_reducible refine seqQ_r ?_
              | with_reducible refine blockQ_n ?_
              | with_reducible refine blockQ_r ?_
              | with_reducible refine blockQ_x ?_
              | ((with_reducible refine g_blkx ?_); refine blockQ_y rfl ?_)
              | with_reducible refine loopQ_x ?_
              | with_reducible refine loopQ_r ?_
              | with_reducible refine joinQ_r ?_
              | with_reducible refine joinQ_x ?_
              | ((with_reducible refine g_cond ?_); (first | refine T.cond_t rfl ?_ | refine T.cond_f rfl ?_ | (refine T.cond_s rfl ?_ ?_ <;> intro hc)))
              | with_reducible refine TL_nil ?_
              | with_reducible refine TS_nil ?_
              | ((with_reducible refine g_draw ?_); (first | fail))
              | ((with_reducible refine TL_y' ?hy ?hd ?_); (case hy => rfl); (case hd => rfl))
              | with_reducible refine TL_e ?_
              | ((with_reducible refine g_TL ?_); (first | refine TL_gy' rfl rfl rfl rfl ?_ | refine TL_gn rfl rfl rfl ?_ | refine TL_gu rfl rfl rfl ?_ | refine TL_ge rfl rfl ?_ | refine TL_gn0 rfl rfl ?_))
              | ((with_reducible refine g_TS ?_); (first | refine TS_y rfl rfl ?_ | refine TS_e rfl ?_ | refine TS_gy rfl rfl rfl rfl ?_ | refine TS_gn rfl rfl rfl rfl ?_ | refine TS_gu rfl rfl rfl rfl ?_ | refine TS_ge rfl rfl rfl ?_ | refine TS_gne rfl rfl rfl rfl ?_ | refine TS_gue rfl rfl rfl rfl ?_ | refine TS_gne0 rfl rfl rfl ?_))
              | ((with_reducible refine TSand ?hd ?_); (case hd => (repeat (first | exact List.nil_sublist _ | refine List.Sublist.cons_cons _ ?_ | refine List.Sublist.cons _ ?_))))
              | ((with_reducible refine TBand ?hd ?_); (case hd => (repeat (first | exact List.nil_sublist _ | refine List.Sublist.cons_cons _ ?_ | refine List.Sublist.cons _ ?_))))
              | ((with_reducible refine g_TB ?_); (first | with_reducible refine TB_run ?_ | refine TB_y rfl rfl ?_ | refine TB_b rfl rfl ?_ ?_ | refine TB_e rfl ?_))
              | ((with_reducible refine is_move ?_); refine ⟨_, Yl_move rfl, ?_⟩)
              | ((with_reducible refine is_assign ?_); refine ⟨_, Yl_assign rfl, ?_⟩)
              | ((with_reducible refine is_pick ?_); (first | refine ⟨_, Yl_pick_t rfl rfl, ?_⟩ | refine ⟨_, Yl_pick_f rfl rfl, ?_⟩))
              | ((with_reducible refine is_nil ?_); refine ⟨_, Yl_nilCheck rfl, ?_⟩)
              | ((with_reducible refine is_fld ?_); (first | ((refine' ⟨_, Yl_fld_ad rfl ?q1, ?_⟩); (case q1 => exact fld_of rfl rfl)) | ((refine' ⟨_, Yl_fld_blk0 rfl ?q1, ?_⟩); (case q1 => exact fld_of rfl rfl)) | ((refine' ⟨_, Yl_fld_blk rfl ?q1, ?_⟩); (case q1 => exact fld_of rfl rfl))))
              | ((with_reducible refine is_load ?_)
                 (first
                 | fail
                 | ((refine' ⟨_, Yl_load_blk rfl ?q1 ?q2 ?q3, ?_⟩); (case q1 => exact one_of rfl); (case q2 => (repeat (first | exact .head _ | apply List.Mem.tail))); (case q3 => rfl))
                 | ((refine' ⟨_, Yl_loadA_blk rfl ?q1 ?q2, ?_⟩); (case q1 => (repeat (first | exact .head _ | apply List.Mem.tail))); (case q2 => exact agg_of rfl))
                 | ((refine' ⟨_, Yl_load_blk rfl ?q1 ?q2 ?q3, ?_⟩); (case q1 => exact one_of rfl); (case q2 => (repeat (first | exact .head _ | apply List.Mem.tail))); (case q3 => assumption))
                 | ((refine' ⟨_, Yl_load_rd rfl ?q1 ?q2 List.not_mem_nil ?q3, ?_⟩); (case q1 => exact one_of rfl); (case q2 => assumption); (case q3 => assumption))
                 | ((refine' ⟨_, Yl_load_row rfl ?q1 ?q2 ?q3, ?_⟩); (case q1 => exact one_of rfl); (case q2 => (repeat (first | exact .head _ | apply List.Mem.tail))); (case q3 => assumption))
                 | ((refine' ⟨_, Yl_loadA_rd rfl ?qa ?qb List.not_mem_nil ?ql ?qc, ?_⟩); (case qa => exact agg_of rfl); (case qb => assumption); (case qc => assumption); (case ql => rfl))
                 | ((refine' ⟨_, Yl_loadA_row rfl ?qa ?qb ?ql ?qc, ?_⟩); (case qa => exact agg_of rfl); (case qb => (repeat (first | exact .head _ | apply List.Mem.tail))); (case qc => assumption); (case ql => rfl))))
              | ((with_reducible refine is_idx ?_)
                 (first
                 | fail
                 | ((refine' ⟨_, Yl_index rfl rfl ?q1 ?q2 ?q3 (Rd.some_ ?q4 ?q5), ?_⟩); (case q1 => exact und_of rfl); (case q2 => exact siz_of rfl); (case q3 => omega); (case q4 => assumption); (case q5 => omega))
                 | ((refine' ⟨_, Yl_index_row rfl rfl ?q1 ?q2 ?q3 ?q4, ?_⟩); (case q1 => exact und_of rfl); (case q2 => exact siz_of rfl); (case q3 => omega); (case q4 => (repeat (first | exact .head _ | apply List.Mem.tail))))
                 | ((refine' ⟨_, Yl_index rfl rfl ?q1 ?q2 ?q3 rfl, ?_⟩); (case q1 => exact und_of rfl); (case q2 => exact siz_of rfl); (case q3 => omega))
                 | ((refine' ⟨_, Yl_index (j := 0) rfl rfl ?q1 ?q2 ?q3 (Rd.some_ ?q4 ?q5), ?_⟩); (case q1 => exact und_of rfl); (case q2 => exact siz_of rfl); (case q3 => omega); (case q4 => assumption); (case q5 => omega))
                 | ((refine' ⟨_, Yl_index_row (j := 0) rfl rfl ?q1 ?q2 ?q3 ?q4, ?_⟩); (case q1 => exact und_of rfl); (case q2 => exact siz_of rfl); (case q3 => omega); (case q4 => (repeat (first | exact .head _ | apply List.Mem.tail))))))
              | ((with_reducible refine is_ext ?_); refine ⟨_, Yl_extract rfl rfl, ?_⟩)
              | ((with_reducible refine is_un ?_); refine ⟨_, Yl_not rfl, ?_⟩)
              | ((with_reducible refine is_len ?_); (first | ((refine' ⟨_, Yl_len_slice rfl ?q1, ?_⟩); (case q1 => exact und_of rfl)) | ((refine' ⟨_, Yl_len_string rfl ?q1, ?_⟩); (case q1 => exact und_of rfl))))
              | ((with_reducible refine is_b_lss ?_); (first | ((refine' ⟨_, Yl_lss_t rfl rfl ?q1, ?_⟩); (case q1 => omega)) | ((refine' ⟨_, Yl_lss_f rfl rfl ?q1, ?_⟩); (case q1 => omega)) | (refine sp_lss rfl rfl ?_ ?_ <;> intro hc)))
              | ((with_reducible refine is_b_leq ?_); (first | ((refine' ⟨_, Yl_leq_t rfl rfl ?q1, ?_⟩); (case q1 => omega)) | ((refine' ⟨_, Yl_leq_f rfl rfl ?q1, ?_⟩); (case q1 => omega)) | (refine sp_leq rfl rfl ?_ ?_ <;> intro hc)))
              | ((with_reducible refine is_b_gtr ?_); (first | ((refine' ⟨_, Yl_gtr_t rfl rfl ?q1, ?_⟩); (case q1 => omega)) | ((refine' ⟨_, Yl_gtr_f rfl rfl ?q1, ?_⟩); (case q1 => omega)) | (refine sp_gtr rfl rfl ?_ ?_ <;> intro hc)))
              | ((with_reducible refine is_b_geq ?_); (first | ((refine' ⟨_, Yl_geq_t rfl rfl ?q1, ?_⟩); (case q1 => omega)) | ((refine' ⟨_, Yl_geq_f rfl rfl ?q1, ?_⟩); (case q1 => omega)) | (refine sp_geq rfl rfl ?_ ?_ <;> intro hc)))
              | ((with_reducible refine is_b_eql ?_)
                 (first
                 | ((refine' ⟨_, Yl_eql_t rfl rfl ?q1, ?_⟩); (case q1 => omega))
                 | ((refine' ⟨_, Yl_eql_f rfl rfl ?q1, ?_⟩); (case q1 => omega))
                 | (refine sp_eql rfl rfl ?_ ?_ <;> intro hc)
                 | ((refine' ⟨_, Yl_and8 rfl rfl ?q1 ?q2 ?q3 ?q4, ?_⟩); (case q1 => omega); (case q2 => omega); (case q3 => omega); (case q4 => omega))
                 | ((refine' ⟨_, Yl_or8 rfl rfl ?q1 ?q2 ?q3 ?q4, ?_⟩); (case q1 => omega); (case q2 => omega); (case q3 => omega); (case q4 => omega))
                 | ((refine' ⟨_, Yl_eql_bool rfl rfl ?q1, ?_⟩); (case q1 => exact und_of rfl))
                 | ((refine' ⟨_, Yl_eql_strT rfl rfl ?q1, ?_⟩); (case q1 => first | assumption | rfl))
                 | ((refine' ⟨_, Yl_eql_strF rfl rfl ?q1, ?_⟩); (case q1 => first | assumption | decide))
                 | (refine sp_eqlS rfl rfl ?_ ?_ <;> intro hc)))
              | ((with_reducible refine is_b_neq ?_)
                 (first
                 | ((refine' ⟨_, Yl_neq_t rfl rfl ?q1, ?_⟩); (case q1 => omega))
                 | ((refine' ⟨_, Yl_neq_f rfl rfl ?q1, ?_⟩); (case q1 => omega))
                 | (refine sp_neq rfl rfl ?_ ?_ <;> intro hc)
                 | ((refine' ⟨_, Yl_and8 rfl rfl ?q1 ?q2 ?q3 ?q4, ?_⟩); (case q1 => omega); (case q2 => omega); (case q3 => omega); (case q4 => omega))
                 | ((refine' ⟨_, Yl_or8 rfl rfl ?q1 ?q2 ?q3 ?q4, ?_⟩); (case q1 => omega); (case q2 => omega); (case q3 => omega); (case q4 => omega))
                 | ((refine' ⟨_, Yl_neq_bool rfl rfl ?q1, ?_⟩); (case q1 => exact und_of rfl))
                 | ((refine' ⟨_, Yl_neq_strT rfl rfl ?q1, ?_⟩); (case q1 => first | assumption | decide))
                 | ((refine' ⟨_, Yl_neq_strF rfl rfl ?q1, ?_⟩); (case q1 => first | assumption | rfl))
                 | (refine sp_neqS rfl rfl ?_ ?_ <;> intro hc)))
              | ((with_reducible refine is_b_add ?_); (first | ((refine' ⟨_, Yl_add rfl rfl ?q1 ?q2, ?_⟩); (case q1 => omega); (case q2 => omega)) | ((refine' ⟨_, Yl_add8 rfl rfl ?q1 ?q2, ?_⟩); (case q1 => omega); (case q2 => omega)) | ((refine' ⟨_, Yl_and8 rfl rfl ?q1 ?q2 ?q3 ?q4, ?_⟩); (case q1 => omega); (case q2 => omega); (case q3 => omega); (case q4 => omega)) | ((refine' ⟨_, Yl_or8 rfl rfl ?q1 ?q2 ?q3 ?q4, ?_⟩); (case q1 => omega); (case q2 => omega); (case q3 => omega); (case q4 => omega))))
              | ((with_reducible refine is_min ?_); refine ⟨_, Yl_min rfl rfl, ?_⟩)
              | ((with_reducible refine is_max ?_); refine ⟨_, Yl_max rfl rfl, ?_⟩)
              | ((with_reducible refine is_b_sub ?_); (first | ((refine' ⟨_, Yl_sub rfl rfl ?q1 ?q2, ?_⟩); (case q1 => omega); (case q2 => omega)) | ((refine' ⟨_, Yl_and8 rfl rfl ?q1 ?q2 ?q3 ?q4, ?_⟩); (case q1 => omega); (case q2 => omega); (case q3 => omega); (case q4 => omega)) | ((refine' ⟨_, Yl_or8 rfl rfl ?q1 ?q2 ?q3 ?q4, ?_⟩); (case q1 => omega); (case q2 => omega); (case q3 => omega); (case q4 => omega))))
              | ((with_reducible refine is_build ?_); (first | fail))
              | (first | ((refine' ⟨_, Yl_and8 rfl rfl ?q1 ?q2 ?q3 ?q4, ?_⟩); (case q1 => omega); (case q2 => omega); (case q3 => omega); (case q4 => omega)) | ((refine' ⟨_, Yl_or8 rfl rfl ?q1 ?q2 ?q3 ?q4, ?_⟩); (case q1 => omega); (case q2 => omega); (case q3 => omega); (case q4 => omega)))
              | ((with_reducible refine ie_box ?_)
                 (first
                 | (refine Ef_boxA rfl rfl ?_; (first | ((fail_if_success have := b1); intro b1) | ((fail_if_success have := b2); intro b2) | ((fail_if_success have := b3); intro b3) | ((fail_if_success have := b4); intro b4) | ((fail_if_success have := b5); intro b5) | ((fail_if_success have := b6); intro b6) | ((fail_if_success have := b7); intro b7) | ((fail_if_success have := b8); intro b8) | ((fail_if_success have := b9); intro b9)))
                 | (refine Ef_box1 rfl rfl rfl ?_; (first | ((fail_if_success have := b1); intro b1) | ((fail_if_success have := b2); intro b2) | ((fail_if_success have := b3); intro b3) | ((fail_if_success have := b4); intro b4) | ((fail_if_success have := b5); intro b5) | ((fail_if_success have := b6); intro b6) | ((fail_if_success have := b7); intro b7) | ((fail_if_success have := b8); intro b8) | ((fail_if_success have := b9); intro b9)))))
              | ((with_reducible refine ie_alloc ?_); (first | fail | (((refine' Ef_alloc rfl ?q1 ?_); (case q1 => exact zer_of rfl)); (first | ((fail_if_success have := b1); intro b1) | ((fail_if_success have := b2); intro b2) | ((fail_if_success have := b3); intro b3) | ((fail_if_success have := b4); intro b4) | ((fail_if_success have := b5); intro b5) | ((fail_if_success have := b6); intro b6) | ((fail_if_success have := b7); intro b7) | ((fail_if_success have := b8); intro b8) | ((fail_if_success have := b9); intro b9)))))
              | ((with_reducible refine ie_store ?_)
                 (first
                 | fail
                 | ((refine' Ef_store_rowA rfl rfl ?q1 ?q2 ?q3 ?q4 ?q5 ?q6 ?_); (case q1 => exact siz_of rfl); (case q2 => rfl); (case q3 => (first | assumption | (intro u hu; rcases hu with _ | ⟨_, _ | ⟨_, _ | ⟨_, _ | ⟨_, hu⟩⟩⟩⟩ <;> first | rfl | (cases hu; done)))); (case q4 => (first | exact at0 | exact at1 | exact at2 | exact at3 | exact at4 | exact at5 | exact at6)); (case q5 => omega); (case q6 => assumption))
                 | ((refine' Ef_storeA' rfl rfl ?q1 ?q2 ?q3 ?q4 ?_); (case q1 => exact siz_of rfl); (case q2 => (first | assumption | (intro u hu; rcases hu with _ | ⟨_, _ | ⟨_, _ | ⟨_, _ | ⟨_, hu⟩⟩⟩⟩ <;> first | rfl | (cases hu; done)))); (case q3 => (first | exact at0 | exact at1 | exact at2 | exact at3 | exact at4 | exact at5 | exact at6)); (case q4 => rfl))
                 | ((refine' Ef_storeC rfl rfl ?q1 ?q2 ?q3 ?q4 ?q5 ?_); (case q1 => rfl); (case q2 => exact siz_of rfl); (case q3 => (first | exact at0 | exact at1 | exact at2 | exact at3 | exact at4 | exact at5 | exact at6)); (case q4 => exact Nat.le_of_ble_eq_true rfl); (case q5 => rfl))))
              | ((with_reducible refine ie_callf ?_)
                 (first
                 | ((with_reducible refine g_call 15 ?_); (first | refine Ef_callP rfl rfl ent_15 (fun w hp => hwi w (hp.rd hra fun _ => List.not_mem_nil) (hp.rd hrb fun _ => List.not_mem_nil)) ?_))
                 | ((with_reducible refine g_call 16 ?_); (first | refine Ef_callP rfl rfl ent_16 (fun w _ => hhas w) ?_))
                 | ((with_reducible refine g_call 14 ?_); (first | refine Ef_callP rfl rfl ent_14 (fun w hp => hln w (hp.rd hra fun _ => List.not_mem_nil)) ?_ | refine Ef_callP rfl rfl ent_14 (fun w hp => hlm w (hp.rd hrb fun _ => List.not_mem_nil)) ?_))
                 | ((with_reducible refine g_call 13 ?_); (first | refine Ef_callP rfl rfl ent_13 (fun w hp => hrl w (hp.rd hra fun _ => List.not_mem_nil)) ?_ | refine Ef_callP rfl rfl ent_13 (fun w hp => hrm w (hp.rd hrb fun _ => List.not_mem_nil)) ?_))
                 | ((with_reducible refine g_call 12 ?_); (first | refine Ef_callP rfl rfl ent_12 (fun w _ => awake_c w) ?_))))
              | ((with_reducible refine ie_app ?_)
                 (first
                 | fail
                 | (((refine' Ef_app0_rd rfl rfl rfl ?q1 ?q2 ?q3 ?q4 ?q5 ?q6 ?q7 ?_); (case q1 => exact app_of rfl); (case q2 => (first | exact at0 | exact at1 | exact at2 | exact at3 | exact at4 | exact at5 | exact at6)); (case q3 => assumption); (case q4 => (first | assumption | (intro u hu; rcases hu with _ | ⟨_, _ | ⟨_, _ | ⟨_, _ | ⟨_, hu⟩⟩⟩⟩ <;> first | rfl | (cases hu; done)))); (case q5 => omega); (case q6 => omega); (case q7 => exact List.not_mem_nil))
                    (first | ((fail_if_success have := A1); intro A1 c1) | ((fail_if_success have := A2); intro A2 c2) | ((fail_if_success have := A3); intro A3 c3) | ((fail_if_success have := A4); intro A4 c4) | ((fail_if_success have := A5); intro A5 c5) | ((fail_if_success have := A6); intro A6 c6) | ((fail_if_success have := A7); intro A7 c7)))
                 | (((refine' Ef_appG_row rfl rfl rfl ?q1 ?q2 ?q3 ?q4 ?q5 ?q6 ?_); (case q1 => exact app_of rfl); (case q2 => (first | exact at0 | exact at1 | exact at2 | exact at3 | exact at4 | exact at5 | exact at6)); (case q3 => (repeat (first | exact .head _ | apply List.Mem.tail))); (case q4 => (first | assumption | (intro u hu; rcases hu with _ | ⟨_, _ | ⟨_, _ | ⟨_, _ | ⟨_, hu⟩⟩⟩⟩ <;> first | rfl | (cases hu; done)))); (case q5 => omega); (case q6 => omega))
                    (first | ((fail_if_success have := A1); intro A1 c1) | ((fail_if_success have := A2); intro A2 c2) | ((fail_if_success have := A3); intro A3 c3) | ((fail_if_success have := A4); intro A4 c4) | ((fail_if_success have := A5); intro A5 c5) | ((fail_if_success have := A6); intro A6 c6) | ((fail_if_success have := A7); intro A7 c7)))
                 | (((refine' Ef_appG_rd rfl rfl rfl ?q1 ?q2 ?q3 ?q4 ?q5 ?q6 ?q7 ?_); (case q1 => exact app_of rfl); (case q2 => (first | exact at0 | exact at1 | exact at2 | exact at3 | exact at4 | exact at5 | exact at6)); (case q3 => assumption); (case q4 => (first | assumption | (intro u hu; rcases hu with _ | ⟨_, _ | ⟨_, _ | ⟨_, _ | ⟨_, hu⟩⟩⟩⟩ <;> first | rfl | (cases hu; done)))); (case q5 => omega); (case q6 => omega); (case q7 => exact List.not_mem_nil))
                    (first | ((fail_if_success have := A1); intro A1 c1) | ((fail_if_success have := A2); intro A2 c2) | ((fail_if_success have := A3); intro A3 c3) | ((fail_if_success have := A4); intro A4 c4) | ((fail_if_success have := A5); intro A5 c5) | ((fail_if_success have := A6); intro A6 c6) | ((fail_if_success have := A7); intro A7 c7)))))
              | ((with_reducible refine ie_bsl ?_)
                 (first
                 | fail
                 | (((refine' Ef_bsl0 rfl ?q1 ?_); (case q1 => exact app_of rfl)); (first | ((fail_if_success have := b1); intro b1) | ((fail_if_success have := b2); intro b2) | ((fail_if_success have := b3); intro b3) | ((fail_if_success have := b4); intro b4) | ((fail_if_success have := b5); intro b5) | ((fail_if_success have := b6); intro b6) | ((fail_if_success have := b7); intro b7) | ((fail_if_success have := b8); intro b8) | ((fail_if_success have := b9); intro b9)))
                 | (((refine' Ef_bslA rfl rfl ?q1 ?q2 ?q3 ?_); (case q1 => exact app_of rfl); (case q2 => rfl); (case q3 => decide)); (first | ((fail_if_success have := b1); intro b1) | ((fail_if_success have := b2); intro b2) | ((fail_if_success have := b3); intro b3) | ((fail_if_success have := b4); intro b4) | ((fail_if_success have := b5); intro b5) | ((fail_if_success have := b6); intro b6) | ((fail_if_success have := b7); intro b7) | ((fail_if_success have := b8); intro b8) | ((fail_if_success have := b9); intro b9)))
                 | (((refine' Ef_bsl1 rfl rfl rfl ?q1 ?_); (case q1 => exact app_of rfl)); (first | ((fail_if_success have := b1); intro b1) | ((fail_if_success have := b2); intro b2) | ((fail_if_success have := b3); intro b3) | ((fail_if_success have := b4); intro b4) | ((fail_if_success have := b5); intro b5) | ((fail_if_success have := b6); intro b6) | ((fail_if_success have := b7); intro b7) | ((fail_if_success have := b8); intro b8) | ((fail_if_success have := b9); intro b9)))))
              | (first | fail)
              | refine Ef_y rfl rfl ?_
              | ((with_reducible refine ie_conv ?_); refine Ef_y' rfl ?_)
              | ((with_reducible refine ie_bmin ?_); refine Ef_y' rfl ?_)
              | ((with_reducible refine ie_bmax ?_); refine Ef_y' rfl ?_))
      all_goals exact ret_n [] (res1 rfl rfl) (List.nil_sublist _) ⟨rfl, rfl⟩

/-- What a slice of grants reads as. -/
theorem grants_of {w : World} {A : Option Addr} {len : Nat} {xs : List Value} (hr : Rd w A len 3 xs) (hi : ∀ i, i < len → Is w (.pair (.int .u8) (.pair (.int .i64) (.pair (.int .i64) .unit))) ((xs.drop (i * 3)).take 3)) :
    ∃ zs : List Rt.G, zs.length = len ∧ xs = zs.flatMap gE ∧ ∀ x ∈ zs, 0 ≤ x.1 ∧ x.1 ≤ 255 :=
  rows_enc gE_len len xs hr.len fun i hil => by
    obtain ⟨⟨a, h1, wa⟩, ⟨b, h2, _⟩, ⟨c, h3, _⟩, h4⟩ := hi i hil
    refine ⟨(a, b, c), ?_, u8_wf wa⟩
    generalize (xs.drop (i * 3)).take 3 = l at h1 h2 h3 h4
    simp only [Sh.n] at h1 h2 h3 h4
    match l, h1, h2, h3, h4 with
    | [x, y, z], h1, h2, h3, _ => simp at h1 h2 h3; rw [h1, h2, h3]; rfl
theorem grant_of {w : World} {cs : List Value} (h : Is w (.pair (.int .u8) (.pair (.int .i64) (.pair (.int .i64) .unit))) cs) : ∃ x : Rt.G, cs = gE x ∧ 0 ≤ x.1 ∧ x.1 ≤ 255 := by
  obtain ⟨⟨a, h1, wa⟩, ⟨b, h2, _⟩, ⟨c, h3, _⟩, h4⟩ := h
  refine ⟨(a, b, c), ?_, u8_wf wa⟩
  simp only [Sh.n] at h1 h2 h3 h4
  match cs, h1, h2, h3, h4 with
  | [x, y, z], h1, h2, h3, _ => simp at h1 h2 h3; rw [h1, h2, h3]; rfl

theorem eqG (a b : Rt.G) : EqR Try.prog 10000 35 (.agg (gE a).toArray) (.agg (gE b).toArray) (decide (a.1 = b.1) && (decide (a.2.1 = b.2.1) && (decide (a.2.2 = b.2.2) && true))) := by
  refine EqR_struct str_35 (sto_of rfl) fls_35 ?_
  refine .cons (part_one (by exact one_of rfl) rfl) (part_one (by exact one_of rfl) rfl) (EqR_int (k' := .u8) (by exact und_of rfl)) ?_
  refine .cons (part_one (by exact one_of rfl) rfl) (part_one (by exact one_of rfl) rfl) (EqR_int (k' := .i64) (by exact und_of rfl)) ?_
  exact .cons (part_one (by exact one_of rfl) rfl) (part_one (by exact one_of rfl) rfl) (EqR_int (k' := .i64) (by exact und_of rfl)) .nil
theorem eqG_refl (a : Rt.G) : EqR Try.prog 10000 35 (.agg (gE a).toArray) (.agg (gE a).toArray) true := by
  have := eqG a a
  simpa using this
end Go.Proofs.Ytiekpkkmiciakaa
