/- The document's From, Has; Has; what a log that nobody made says: what a call of each comes to. -/
import Derived.Test.YtegaejbfhpigjaaT10
namespace Go.Proofs.Ytegaejbfhpigjaa
open Go.RowKit
set_option maxRecDepth 20000

theorem Hp.after {w0 w w' : World} {M : List Asrt} (h' : Hp w [] [] w') (h : Hp w0 [] M w) : Hp w0 [] [] w' := (h.weaken (List.nil_sublist M)).more (N := []) h'
theorem Hp.keep_blk {w0 w w' : World} {M : List Asrt} (h' : Hp w [] [] w') (h : Hp w0 [] M w) {b : Nat} {o : Obj} (hm : Asrt.blk b o ∈ M) : w'.heap[b]? = some o := h'.blk_old (h.blkOf hm) List.not_mem_nil

/-! ### The document's From, Has -/
section
variable (b : Nat) (A : Option Addr) (len cap : Nat) (sy : Int) (l : List Me) (w : World) (hb : w.heap[b]? = some (.cells (lrC (.slice A len cap) sy) 36 (0, 0)))
variable (hr : Rd w A len 5 (l.flatMap mE)) (hl : l.length = len) (hle' : len ≤ 200)
include hb hr hl hle'
section
variable (hin : Ins w l) (h5 : ∀ x ∈ l, x.1.body.length ≤ 6000)
include hin h5
set_option maxHeartbeats 4000000 in
theorem rfrom_c (i n : Int) : Sp Try.prog 22 [.pointer (some ⟨b, 0, none⟩), .int .i64 i, .int .i64 n] w [] fun v N => ∃ y : Hd × List Me, y.2.map (·.1) = Lg.frm (l.map (·.1)) i n ∧ v = .slice y.1.1 y.2.length y.1.2 ∧ N = [rM y.2 y.1, bag (y.2.map bA)] := by
  by_cases h1 : 1 ≤ i
  · refine Sp.enter (n := 44) Try.func22 rfl rfl rfl (Hp.refl w) ?_
    refine T.mem (fun _ h => h.bagNil) ?_
    refine T.row0e 27 5 ?_
    repeat' (first
        | ((with_reducible refine is_load ?_); (first | ((refine' ⟨_, Yl_load_old rfl ?q1 hb List.not_mem_nil rfl, ?_⟩); (case q1 => exact one_of rfl)) | ((refine' ⟨_, Yl_load_old rfl ?q1 hb1 List.not_mem_nil rfl, ?_⟩); (case q1 => exact one_of rfl)) | ((refine' ⟨_, Yl_load_old rfl ?q1 hb2 List.not_mem_nil rfl, ?_⟩); (case q1 => exact one_of rfl)) | ((refine' ⟨_, Yl_loadA_hp rfl ?qa ?qb ?ql ?qc, ?_⟩); (case qa => exact agg_of rfl); (case qb => (first | exact fun _ hp => hp.rd hr fun _ => List.not_mem_nil | exact fun _ hp => hp.rd hrb fun _ => List.not_mem_nil)); (case qc => assumption); (case ql => rfl))))
        | ((with_reducible refine ie_callf ?_); (first | ((with_reducible refine g_call 40 ?_); (first | (refine Ef_callN rfl rfl ent_40 (fun w hp => copied_c x w (hp.in_old (hin x (mem_of_some hx))) (h5 x (mem_of_some hx))) ?_; rintro ⟨A2, c2⟩)))))
        | (first | ((((refine' Ef_appG_row (news := mE _) rfl rfl rfl ?q1 ?q2 ?q3 (mE_one _) ?q4 ?q5 ?_); (case q1 => exact app_of rfl); (case q2 => (first | exact at0 | exact at1 | exact at2 | exact at3 | exact at4 | exact at5 | exact at6)); (case q3 => (repeat (first | exact .head _ | apply List.Mem.tail))); (case q4 => omega); (case q5 => omega))); (first | ((fail_if_success have := A1); intro A1 c1) | ((fail_if_success have := A2); intro A2 c2) | ((fail_if_success have := A3); intro A3 c3) | intro _ _)))
        | refine w1 ?_
        | (refine w2 ?_ ?_ <;> intro hc)
        | (first | ((refine' ⟨_, Yl_sl_lZ (l := j) rfl rfl ?q1 ?q2 ?q3 ?q4, ?_⟩); (case q1 => omega); (case q2 => exact und_of rfl); (case q3 => exact siz_of rfl); (case q4 => omega)))
        | (refine w4 ?_; (intro _))
        | (refine w5 ?_; (first | ((fail_if_success have := A1); intro A1 c1) | ((fail_if_success have := A2); intro A2 c2) | ((fail_if_success have := A3); intro A3 c3) | intro _ _))
        | refine w3 ?_ ?_
        | fail_if_success skip)
    refine T.loopM (α := Nat × (Option Addr × Nat) × List Me) (fun z => [(0, .pointer (some ⟨b, 0, none⟩)), (1, .int .i64 i), (2, .int .i64 n), (7, .slice z.2.1.1 z.2.2.length z.2.1.2), (8, .int .i64 (z.1 : Int))]) (fun z => [rM z.2.2 z.2.1, bag (z.2.2.map bA)]) (fun z => z.1 ≤ len ∧ z.2.2.map (·.1) = Lg.frm ((l.map (·.1)).take z.1) i n) (fun z => len - z.1) (0, (none, 0), []) ?_ ?_ ?_ ?_
    · (repeat (first | exact Sub.nil | refine Sub.cons rfl ?_))
    · exact fun _ h => h.ofPart (by unfold rM; (repeat (first | exact Part.nil | refine Part.p0 ?_ | refine Part.p1 ?_ | refine Part.p2 ?_ | refine Part.p3 ?_ | refine Part.p4 ?_ | refine Part.p5 ?_ | refine Part.p6 ?_)))
    · exact ⟨Nat.zero_le _, by rw [Lg.frm_pos _ n h1]; simp⟩
    · rintro ⟨k, ⟨A1, c1⟩, ms⟩ ⟨hk, hms⟩
      dsimp only at hk hms ⊢
      have hml : ms.length = (Lg.frm ((l.map (·.1)).take k) i n).length := by rw [← hms, List.length_map]
      have hm2 : ms.length ≤ k := by
        rw [hml]
        refine Nat.le_trans (Lg.frm_len _ _ _) ?_
        rw [List.length_take]; omega
      by_cases hlt : k < len
      · obtain ⟨x, hx⟩ := some_of_lt (l := l) (i := k) (by omega)
        have hs := Lg.frm_snoc (map_at hx) n h1
        rw [← hml, ← hms] at hs
        have eA : ∀ j u, (mE x)[j]? = some u → (l.flatMap mE)[k * 5 + j]? = some u := enc_atA mE_len hx
        have oX := fun z => mE_one (x.1, z)
        by_cases hg : i ≤ (k : Int) + 1 ∧ (ms.length : Int) < n
        · rw [if_pos hg] at hs
          obtain ⟨g1, g2⟩ := hg
          repeat' (first
              | ((with_reducible refine is_load ?_); (first | ((refine' ⟨_, Yl_load_old rfl ?q1 hb List.not_mem_nil rfl, ?_⟩); (case q1 => exact one_of rfl)) | ((refine' ⟨_, Yl_load_old rfl ?q1 hb1 List.not_mem_nil rfl, ?_⟩); (case q1 => exact one_of rfl)) | ((refine' ⟨_, Yl_load_old rfl ?q1 hb2 List.not_mem_nil rfl, ?_⟩); (case q1 => exact one_of rfl)) | ((refine' ⟨_, Yl_loadA_hp rfl ?qa ?qb ?ql ?qc, ?_⟩); (case qa => exact agg_of rfl); (case qb => (first | exact fun _ hp => hp.rd hr fun _ => List.not_mem_nil | exact fun _ hp => hp.rd hrb fun _ => List.not_mem_nil)); (case qc => assumption); (case ql => rfl))))
              | ((with_reducible refine ie_callf ?_); (first | ((with_reducible refine g_call 40 ?_); (first | (refine Ef_callN rfl rfl ent_40 (fun w hp => copied_c x w (hp.in_old (hin x (mem_of_some hx))) (h5 x (mem_of_some hx))) ?_; rintro ⟨A2, c2⟩)))))
              | (first | ((((refine' Ef_appG_row (news := mE _) rfl rfl rfl ?q1 ?q2 ?q3 (mE_one _) ?q4 ?q5 ?_); (case q1 => exact app_of rfl); (case q2 => (first | exact at0 | exact at1 | exact at2 | exact at3 | exact at4 | exact at5 | exact at6)); (case q3 => (repeat (first | exact .head _ | apply List.Mem.tail))); (case q4 => omega); (case q5 => omega))); (first | ((fail_if_success have := A1); intro A1 c1) | ((fail_if_success have := A2); intro A2 c2) | ((fail_if_success have := A3); intro A3 c3) | intro _ _)))
              | refine w1 ?_
              | (refine w2 ?_ ?_ <;> intro hc)
              | (first | ((refine' ⟨_, Yl_sl_lZ (l := j) rfl rfl ?q1 ?q2 ?q3 ?q4, ?_⟩); (case q1 => omega); (case q2 => exact und_of rfl); (case q3 => exact siz_of rfl); (case q4 => omega)))
              | (refine w4 ?_; (intro _))
              | (refine w5 ?_; (first | ((fail_if_success have := A1); intro A1 c1) | ((fail_if_success have := A2); intro A2 c2) | ((fail_if_success have := A3); intro A3 c3) | intro _ _))
              | refine w3 ?_ ?_
              | fail_if_success skip)
          refine loopH_n (k + 1, (A3, c3), ms ++ [(x.1, (A2, c2))]) ?_ ?_ ⟨show k + 1 ≤ len by omega, by rw [hs, List.map_append]; rfl⟩ (show len - (k + 1) < len - k by omega)
          · rw [List.length_append]; (repeat (first | exact Sub.nil | refine Sub.cons rfl ?_))
          · intro w' hp
            have hp2 := (hp.ofPart (M' := [bA (x.1, (A2, c2)), bag (ms.map bA), .row 27 5 (.slice A3 (ms.length + 1) c3) (ms.length + 1) (ms.flatMap mE ++ mE (x.1, (A2, c2)))]) (by (repeat (first | exact Part.nil | refine Part.p0 ?_ | refine Part.p1 ?_ | refine Part.p2 ?_ | refine Part.p3 ?_ | refine Part.p4 ?_ | refine Part.p5 ?_ | refine Part.p6 ?_)))).bagAdd
            dsimp only
            unfold rM
            rw [List.length_append, mE_snoc, List.map_append]
            exact hp2.ofPart (by (repeat (first | exact Part.nil | refine Part.p0 ?_ | refine Part.p1 ?_ | refine Part.p2 ?_ | refine Part.p3 ?_ | refine Part.p4 ?_ | refine Part.p5 ?_ | refine Part.p6 ?_)))
        · rw [if_neg hg] at hs
          have hg2 : ¬ i ≤ (k : Int) + 1 ∨ (i ≤ (k : Int) + 1 ∧ ¬ (ms.length : Int) < n) := by omega
          clear hg
          rcases hg2 with g1 | ⟨g1, g2⟩
          all_goals
            repeat' (first
                | ((with_reducible refine is_load ?_); (first | ((refine' ⟨_, Yl_load_old rfl ?q1 hb List.not_mem_nil rfl, ?_⟩); (case q1 => exact one_of rfl)) | ((refine' ⟨_, Yl_load_old rfl ?q1 hb1 List.not_mem_nil rfl, ?_⟩); (case q1 => exact one_of rfl)) | ((refine' ⟨_, Yl_load_old rfl ?q1 hb2 List.not_mem_nil rfl, ?_⟩); (case q1 => exact one_of rfl)) | ((refine' ⟨_, Yl_loadA_hp rfl ?qa ?qb ?ql ?qc, ?_⟩); (case qa => exact agg_of rfl); (case qb => (first | exact fun _ hp => hp.rd hr fun _ => List.not_mem_nil | exact fun _ hp => hp.rd hrb fun _ => List.not_mem_nil)); (case qc => assumption); (case ql => rfl))))
                | ((with_reducible refine ie_callf ?_); (first | ((with_reducible refine g_call 40 ?_); (first | (refine Ef_callN rfl rfl ent_40 (fun w hp => copied_c x w (hp.in_old (hin x (mem_of_some hx))) (h5 x (mem_of_some hx))) ?_; rintro ⟨A2, c2⟩)))))
                | (first | ((((refine' Ef_appG_row (news := mE _) rfl rfl rfl ?q1 ?q2 ?q3 (mE_one _) ?q4 ?q5 ?_); (case q1 => exact app_of rfl); (case q2 => (first | exact at0 | exact at1 | exact at2 | exact at3 | exact at4 | exact at5 | exact at6)); (case q3 => (repeat (first | exact .head _ | apply List.Mem.tail))); (case q4 => omega); (case q5 => omega))); (first | ((fail_if_success have := A1); intro A1 c1) | ((fail_if_success have := A2); intro A2 c2) | ((fail_if_success have := A3); intro A3 c3) | intro _ _)))
                | refine w1 ?_
                | (refine w2 ?_ ?_ <;> intro hc)
                | (first | ((refine' ⟨_, Yl_sl_lZ (l := j) rfl rfl ?q1 ?q2 ?q3 ?q4, ?_⟩); (case q1 => omega); (case q2 => exact und_of rfl); (case q3 => exact siz_of rfl); (case q4 => omega)))
                | (refine w4 ?_; (intro _))
                | (refine w5 ?_; (first | ((fail_if_success have := A1); intro A1 c1) | ((fail_if_success have := A2); intro A2 c2) | ((fail_if_success have := A3); intro A3 c3) | intro _ _))
                | refine w3 ?_ ?_
                | fail_if_success skip)
            refine loopH_n (k + 1, (A1, c1), ms) ?_ (fun w' hp => hp) ⟨show k + 1 ≤ len by omega, hs.symm⟩ (show len - (k + 1) < len - k by omega)
            (repeat (first | exact Sub.nil | refine Sub.cons rfl ?_))
      · rw [List.take_of_length_le (by rw [List.length_map]; omega)] at hms
        repeat' (first
            | ((with_reducible refine is_load ?_); (first | ((refine' ⟨_, Yl_load_old rfl ?q1 hb List.not_mem_nil rfl, ?_⟩); (case q1 => exact one_of rfl)) | ((refine' ⟨_, Yl_load_old rfl ?q1 hb1 List.not_mem_nil rfl, ?_⟩); (case q1 => exact one_of rfl)) | ((refine' ⟨_, Yl_load_old rfl ?q1 hb2 List.not_mem_nil rfl, ?_⟩); (case q1 => exact one_of rfl)) | ((refine' ⟨_, Yl_loadA_hp rfl ?qa ?qb ?ql ?qc, ?_⟩); (case qa => exact agg_of rfl); (case qb => (first | exact fun _ hp => hp.rd hr fun _ => List.not_mem_nil | exact fun _ hp => hp.rd hrb fun _ => List.not_mem_nil)); (case qc => assumption); (case ql => rfl))))
            | ((with_reducible refine ie_callf ?_); (first | ((with_reducible refine g_call 40 ?_); (first | (refine Ef_callN rfl rfl ent_40 (fun w hp => copied_c x w (hp.in_old (hin x (mem_of_some hx))) (h5 x (mem_of_some hx))) ?_; rintro ⟨A2, c2⟩)))))
            | (first | ((((refine' Ef_appG_row (news := mE _) rfl rfl rfl ?q1 ?q2 ?q3 (mE_one _) ?q4 ?q5 ?_); (case q1 => exact app_of rfl); (case q2 => (first | exact at0 | exact at1 | exact at2 | exact at3 | exact at4 | exact at5 | exact at6)); (case q3 => (repeat (first | exact .head _ | apply List.Mem.tail))); (case q4 => omega); (case q5 => omega))); (first | ((fail_if_success have := A1); intro A1 c1) | ((fail_if_success have := A2); intro A2 c2) | ((fail_if_success have := A3); intro A3 c3) | intro _ _)))
            | refine w1 ?_
            | (refine w2 ?_ ?_ <;> intro hc)
            | (first | ((refine' ⟨_, Yl_sl_lZ (l := j) rfl rfl ?q1 ?q2 ?q3 ?q4, ?_⟩); (case q1 => omega); (case q2 => exact und_of rfl); (case q3 => exact siz_of rfl); (case q4 => omega)))
            | (refine w4 ?_; (intro _))
            | (refine w5 ?_; (first | ((fail_if_success have := A1); intro A1 c1) | ((fail_if_success have := A2); intro A2 c2) | ((fail_if_success have := A3); intro A3 c3) | intro _ _))
            | refine w3 ?_ ?_
            | fail_if_success skip)
        exact ret_n [rM ms (A1, c1), bag (ms.map bA)] (res1 rfl rfl) (by (repeat (first | exact List.nil_sublist _ | refine List.Sublist.cons_cons _ ?_ | refine List.Sublist.cons _ ?_))) ⟨((A1, c1), ms), hms, rfl, rfl⟩
  · rw [Lg.frm_less _ n h1]
    refine Sp.enter (n := 44) Try.func22 rfl rfl rfl (Hp.refl w) ?_
    refine T.mem (fun _ h => h.bagNil) ?_
    refine T.row0e 27 5 ?_
    repeat' (first
        | ((with_reducible refine is_load ?_); (first | ((refine' ⟨_, Yl_load_old rfl ?q1 hb List.not_mem_nil rfl, ?_⟩); (case q1 => exact one_of rfl)) | ((refine' ⟨_, Yl_load_old rfl ?q1 hb1 List.not_mem_nil rfl, ?_⟩); (case q1 => exact one_of rfl)) | ((refine' ⟨_, Yl_load_old rfl ?q1 hb2 List.not_mem_nil rfl, ?_⟩); (case q1 => exact one_of rfl)) | ((refine' ⟨_, Yl_loadA_hp rfl ?qa ?qb ?ql ?qc, ?_⟩); (case qa => exact agg_of rfl); (case qb => (first | exact fun _ hp => hp.rd hr fun _ => List.not_mem_nil | exact fun _ hp => hp.rd hrb fun _ => List.not_mem_nil)); (case qc => assumption); (case ql => rfl))))
        | ((with_reducible refine ie_callf ?_); (first | ((with_reducible refine g_call 40 ?_); (first | (refine Ef_callN rfl rfl ent_40 (fun w hp => copied_c x w (hp.in_old (hin x (mem_of_some hx))) (h5 x (mem_of_some hx))) ?_; rintro ⟨A2, c2⟩)))))
        | (first | ((((refine' Ef_appG_row (news := mE _) rfl rfl rfl ?q1 ?q2 ?q3 (mE_one _) ?q4 ?q5 ?_); (case q1 => exact app_of rfl); (case q2 => (first | exact at0 | exact at1 | exact at2 | exact at3 | exact at4 | exact at5 | exact at6)); (case q3 => (repeat (first | exact .head _ | apply List.Mem.tail))); (case q4 => omega); (case q5 => omega))); (first | ((fail_if_success have := A1); intro A1 c1) | ((fail_if_success have := A2); intro A2 c2) | ((fail_if_success have := A3); intro A3 c3) | intro _ _)))
        | refine w1 ?_
        | (refine w2 ?_ ?_ <;> intro hc)
        | (first | ((refine' ⟨_, Yl_sl_lZ (l := j) rfl rfl ?q1 ?q2 ?q3 ?q4, ?_⟩); (case q1 => omega); (case q2 => exact und_of rfl); (case q3 => exact siz_of rfl); (case q4 => omega)))
        | (refine w4 ?_; (intro _))
        | (refine w5 ?_; (first | ((fail_if_success have := A1); intro A1 c1) | ((fail_if_success have := A2); intro A2 c2) | ((fail_if_success have := A3); intro A3 c3) | intro _ _))
        | refine w3 ?_ ?_
        | fail_if_success skip)
    refine T.loopM (α := Unit) (fun _ => [(0, .pointer (some ⟨b, 0, none⟩)), (1, .int .i64 i), (2, .int .i64 n), (7, .slice none 0 0), (8, .int .i64 0)]) (fun _ => [.row 27 5 (.slice none 0 0) 0 [], bag []]) (fun _ => True) (fun _ => 0) () ?_ ?_ trivial ?_
    · (repeat (first | exact Sub.nil | refine Sub.cons rfl ?_))
    · exact fun _ h => h.ofPart (by (repeat (first | exact Part.nil | refine Part.p0 ?_ | refine Part.p1 ?_ | refine Part.p2 ?_ | refine Part.p3 ?_ | refine Part.p4 ?_ | refine Part.p5 ?_ | refine Part.p6 ?_)))
    · rintro ⟨⟩ -
      repeat' (first
          | ((with_reducible refine is_load ?_); (first | ((refine' ⟨_, Yl_load_old rfl ?q1 hb List.not_mem_nil rfl, ?_⟩); (case q1 => exact one_of rfl)) | ((refine' ⟨_, Yl_load_old rfl ?q1 hb1 List.not_mem_nil rfl, ?_⟩); (case q1 => exact one_of rfl)) | ((refine' ⟨_, Yl_load_old rfl ?q1 hb2 List.not_mem_nil rfl, ?_⟩); (case q1 => exact one_of rfl)) | ((refine' ⟨_, Yl_loadA_hp rfl ?qa ?qb ?ql ?qc, ?_⟩); (case qa => exact agg_of rfl); (case qb => (first | exact fun _ hp => hp.rd hr fun _ => List.not_mem_nil | exact fun _ hp => hp.rd hrb fun _ => List.not_mem_nil)); (case qc => assumption); (case ql => rfl))))
          | ((with_reducible refine ie_callf ?_); (first | ((with_reducible refine g_call 40 ?_); (first | (refine Ef_callN rfl rfl ent_40 (fun w hp => copied_c x w (hp.in_old (hin x (mem_of_some hx))) (h5 x (mem_of_some hx))) ?_; rintro ⟨A2, c2⟩)))))
          | (first | ((((refine' Ef_appG_row (news := mE _) rfl rfl rfl ?q1 ?q2 ?q3 (mE_one _) ?q4 ?q5 ?_); (case q1 => exact app_of rfl); (case q2 => (first | exact at0 | exact at1 | exact at2 | exact at3 | exact at4 | exact at5 | exact at6)); (case q3 => (repeat (first | exact .head _ | apply List.Mem.tail))); (case q4 => omega); (case q5 => omega))); (first | ((fail_if_success have := A1); intro A1 c1) | ((fail_if_success have := A2); intro A2 c2) | ((fail_if_success have := A3); intro A3 c3) | intro _ _)))
          | refine w1 ?_
          | (refine w2 ?_ ?_ <;> intro hc)
          | (first | ((refine' ⟨_, Yl_sl_lZ (l := j) rfl rfl ?q1 ?q2 ?q3 ?q4, ?_⟩); (case q1 => omega); (case q2 => exact und_of rfl); (case q3 => exact siz_of rfl); (case q4 => omega)))
          | (refine w4 ?_; (intro _))
          | (refine w5 ?_; (first | ((fail_if_success have := A1); intro A1 c1) | ((fail_if_success have := A2); intro A2 c2) | ((fail_if_success have := A3); intro A3 c3) | intro _ _))
          | refine w3 ?_ ?_
          | fail_if_success skip)
      all_goals exact ret_n [rM [] (none, 0), bag []] (res1 rfl rfl) (by unfold rM; (repeat (first | exact List.nil_sublist _ | refine List.Sublist.cons_cons _ ?_ | refine List.Sublist.cons _ ?_))) ⟨((none, 0), []), rfl, rfl, rfl⟩
end
set_option maxHeartbeats 4000000 in
theorem rhas_c (c i bh : Int) : Sp Try.prog 25 [.pointer (some ⟨b, 0, none⟩), .int .i64 c, .int .i64 i, .int .i64 bh] w [] fun v N => v = .bool (Lg.has (l.map (·.1)) c i bh) ∧ N = [] := by
  refine Sp.enter (n := 53) Try.func25 rfl rfl rfl (Hp.refl w) ?_
  repeat' (first
      | ((with_reducible refine is_load ?_); (first | ((refine' ⟨_, Yl_load_old rfl ?q1 hb List.not_mem_nil rfl, ?_⟩); (case q1 => exact one_of rfl)) | ((refine' ⟨_, Yl_load_old rfl ?q1 hb1 List.not_mem_nil rfl, ?_⟩); (case q1 => exact one_of rfl)) | ((refine' ⟨_, Yl_load_old rfl ?q1 hb2 List.not_mem_nil rfl, ?_⟩); (case q1 => exact one_of rfl)) | ((refine' ⟨_, Yl_loadA_hp rfl ?qa ?qb ?ql ?qc, ?_⟩); (case qa => exact agg_of rfl); (case qb => (first | exact fun _ hp => hp.rd hr fun _ => List.not_mem_nil | exact fun _ hp => hp.rd hrb fun _ => List.not_mem_nil)); (case qc => assumption); (case ql => rfl))))
      | (first | ((((refine' Ef_appG_row (news := mE _) rfl rfl rfl ?q1 ?q2 ?q3 (mE_one _) ?q4 ?q5 ?_); (case q1 => exact app_of rfl); (case q2 => (first | exact at0 | exact at1 | exact at2 | exact at3 | exact at4 | exact at5 | exact at6)); (case q3 => (repeat (first | exact .head _ | apply List.Mem.tail))); (case q4 => omega); (case q5 => omega))); (intro _ _)))
      | refine w1 ?_
      | (refine w2 ?_ ?_ <;> intro hc)
      | (first | ((refine' ⟨_, Yl_sl_lZ (l := j) rfl rfl ?q1 ?q2 ?q3 ?q4, ?_⟩); (case q1 => omega); (case q2 => exact und_of rfl); (case q3 => exact siz_of rfl); (case q4 => omega)))
      | (refine w4 ?_; (intro _))
      | (refine w5 ?_; (intro _ _))
      | refine w3 ?_ ?_
      | fail_if_success skip)
  refine T.loop (α := Nat) (fun k => [(0, .pointer (some ⟨b, 0, none⟩)), (1, .int .i64 c), (2, .int .i64 i), (3, .int .i64 bh), (9, .int .i64 (k : Int))]) (fun _ => []) (fun k => k ≤ len ∧ ∀ x ∈ (l.map (·.1)).take k, ¬ (bh < x.pos ∧ x.client = c ∧ x.id = i)) (fun k => len - k) 0 ?_ ?_ ?_ ?_
  · (repeat (first | exact Sub.nil | refine Sub.cons rfl ?_))
  · (repeat (first | exact List.nil_sublist _ | refine List.Sublist.cons_cons _ ?_ | refine List.Sublist.cons _ ?_))
  · exact ⟨Nat.zero_le _, fun x hx => by simp at hx⟩
  · rintro k ⟨hk, hno⟩
    by_cases hlt : k < len
    · obtain ⟨x, hx⟩ := some_of_lt (l := l) (i := k) (by omega)
      have e0 : (l.flatMap mE)[k * 5 + 0]? = some (.int .i64 x.1.pos) := enc_at mE_len hx (j := 0) (by decide)
      have e2 : (l.flatMap mE)[k * 5 + 2]? = some (.int .i64 x.1.client) := enc_at mE_len hx (j := 2) (by decide)
      have e3 : (l.flatMap mE)[k * 5 + 3]? = some (.int .i64 x.1.id) := enc_at mE_len hx (j := 3) (by decide)
      have hg : (bh < x.1.pos ∧ x.1.client = c ∧ x.1.id = i) ∨ ¬ bh < x.1.pos ∨ (bh < x.1.pos ∧ ¬ x.1.client = c) ∨ (bh < x.1.pos ∧ x.1.client = c ∧ ¬ x.1.id = i) := by omega
      rcases hg with hg | hg
      · rw [Lg.has_t (mem_of_some (map_at hx)) hg]
        obtain ⟨g1, g2, g3⟩ := hg
        repeat' (first
            | ((with_reducible refine is_load ?_); (first | ((refine' ⟨_, Yl_load_old rfl ?q1 hb List.not_mem_nil rfl, ?_⟩); (case q1 => exact one_of rfl)) | ((refine' ⟨_, Yl_load_old rfl ?q1 hb1 List.not_mem_nil rfl, ?_⟩); (case q1 => exact one_of rfl)) | ((refine' ⟨_, Yl_load_old rfl ?q1 hb2 List.not_mem_nil rfl, ?_⟩); (case q1 => exact one_of rfl)) | ((refine' ⟨_, Yl_loadA_hp rfl ?qa ?qb ?ql ?qc, ?_⟩); (case qa => exact agg_of rfl); (case qb => (first | exact fun _ hp => hp.rd hr fun _ => List.not_mem_nil | exact fun _ hp => hp.rd hrb fun _ => List.not_mem_nil)); (case qc => assumption); (case ql => rfl))))
            | (first | ((((refine' Ef_appG_row (news := mE _) rfl rfl rfl ?q1 ?q2 ?q3 (mE_one _) ?q4 ?q5 ?_); (case q1 => exact app_of rfl); (case q2 => (first | exact at0 | exact at1 | exact at2 | exact at3 | exact at4 | exact at5 | exact at6)); (case q3 => (repeat (first | exact .head _ | apply List.Mem.tail))); (case q4 => omega); (case q5 => omega))); (intro _ _)))
            | refine w1 ?_
            | (refine w2 ?_ ?_ <;> intro hc)
            | (first | ((refine' ⟨_, Yl_sl_lZ (l := j) rfl rfl ?q1 ?q2 ?q3 ?q4, ?_⟩); (case q1 => omega); (case q2 => exact und_of rfl); (case q3 => exact siz_of rfl); (case q4 => omega)))
            | (refine w4 ?_; (intro _))
            | (refine w5 ?_; (intro _ _))
            | refine w3 ?_ ?_
            | fail_if_success skip)
        exact ret_n [] (res1 rfl rfl) (List.nil_sublist _) ⟨rfl, rfl⟩
      · have hno2 : ∀ x ∈ (l.map (·.1)).take (k + 1), ¬ (bh < x.pos ∧ x.client = c ∧ x.id = i) := fun y hy => by
          rw [take_snoc (map_at hx)] at hy
          rcases List.mem_append.1 hy with hy | hy
          · exact hno y hy
          · rw [List.mem_singleton.1 hy]; omega
        rcases hg with g1 | ⟨g1, g2⟩ | ⟨g1, g2, g3⟩
        all_goals
          repeat' (first
              | ((with_reducible refine is_load ?_); (first | ((refine' ⟨_, Yl_load_old rfl ?q1 hb List.not_mem_nil rfl, ?_⟩); (case q1 => exact one_of rfl)) | ((refine' ⟨_, Yl_load_old rfl ?q1 hb1 List.not_mem_nil rfl, ?_⟩); (case q1 => exact one_of rfl)) | ((refine' ⟨_, Yl_load_old rfl ?q1 hb2 List.not_mem_nil rfl, ?_⟩); (case q1 => exact one_of rfl)) | ((refine' ⟨_, Yl_loadA_hp rfl ?qa ?qb ?ql ?qc, ?_⟩); (case qa => exact agg_of rfl); (case qb => (first | exact fun _ hp => hp.rd hr fun _ => List.not_mem_nil | exact fun _ hp => hp.rd hrb fun _ => List.not_mem_nil)); (case qc => assumption); (case ql => rfl))))
              | (first | ((((refine' Ef_appG_row (news := mE _) rfl rfl rfl ?q1 ?q2 ?q3 (mE_one _) ?q4 ?q5 ?_); (case q1 => exact app_of rfl); (case q2 => (first | exact at0 | exact at1 | exact at2 | exact at3 | exact at4 | exact at5 | exact at6)); (case q3 => (repeat (first | exact .head _ | apply List.Mem.tail))); (case q4 => omega); (case q5 => omega))); (intro _ _)))
              | refine w1 ?_
              | (refine w2 ?_ ?_ <;> intro hc)
              | (first | ((refine' ⟨_, Yl_sl_lZ (l := j) rfl rfl ?q1 ?q2 ?q3 ?q4, ?_⟩); (case q1 => omega); (case q2 => exact und_of rfl); (case q3 => exact siz_of rfl); (case q4 => omega)))
              | (refine w4 ?_; (intro _))
              | (refine w5 ?_; (intro _ _))
              | refine w3 ?_ ?_
              | fail_if_success skip)
          refine loopQ_n (k + 1) ?_ ?_ ⟨by (first | omega | (dsimp only; omega) | (simp; omega)), hno2⟩ (by (first | omega | (dsimp only; omega) | (simp; omega)))
          · (repeat (first | exact Sub.nil | refine Sub.cons rfl ?_))
          · (repeat (first | exact List.nil_sublist _ | refine List.Sublist.cons_cons _ ?_ | refine List.Sublist.cons _ ?_))
    · rw [List.take_of_length_le (by rw [List.length_map]; omega)] at hno
      rw [Lg.has_f hno]
      repeat' (first
          | ((with_reducible refine is_load ?_); (first | ((refine' ⟨_, Yl_load_old rfl ?q1 hb List.not_mem_nil rfl, ?_⟩); (case q1 => exact one_of rfl)) | ((refine' ⟨_, Yl_load_old rfl ?q1 hb1 List.not_mem_nil rfl, ?_⟩); (case q1 => exact one_of rfl)) | ((refine' ⟨_, Yl_load_old rfl ?q1 hb2 List.not_mem_nil rfl, ?_⟩); (case q1 => exact one_of rfl)) | ((refine' ⟨_, Yl_loadA_hp rfl ?qa ?qb ?ql ?qc, ?_⟩); (case qa => exact agg_of rfl); (case qb => (first | exact fun _ hp => hp.rd hr fun _ => List.not_mem_nil | exact fun _ hp => hp.rd hrb fun _ => List.not_mem_nil)); (case qc => assumption); (case ql => rfl))))
          | (first | ((((refine' Ef_appG_row (news := mE _) rfl rfl rfl ?q1 ?q2 ?q3 (mE_one _) ?q4 ?q5 ?_); (case q1 => exact app_of rfl); (case q2 => (first | exact at0 | exact at1 | exact at2 | exact at3 | exact at4 | exact at5 | exact at6)); (case q3 => (repeat (first | exact .head _ | apply List.Mem.tail))); (case q4 => omega); (case q5 => omega))); (intro _ _)))
          | refine w1 ?_
          | (refine w2 ?_ ?_ <;> intro hc)
          | (first | ((refine' ⟨_, Yl_sl_lZ (l := j) rfl rfl ?q1 ?q2 ?q3 ?q4, ?_⟩); (case q1 => omega); (case q2 => exact und_of rfl); (case q3 => exact siz_of rfl); (case q4 => omega)))
          | (refine w4 ?_; (intro _))
          | (refine w5 ?_; (intro _ _))
          | refine w3 ?_ ?_
          | fail_if_success skip)
      exact ret_n [] (res1 rfl rfl) (List.nil_sublist _) ⟨rfl, rfl⟩
end

/-! ### Has -/
theorem who_c (b1 b2 : Nat) (c i : Int) (x : Me) (w : World) (hb1 : w.heap[b1]? = some (.cells #[.int .i64 c] 3 (0, 0))) (hb2 : w.heap[b2]? = some (.cells #[.int .i64 i] 3 (0, 0))) :
    Sp Try.prog 43 ([.agg (mE x).toArray] ++ (#[.pointer (some ⟨b1, 0, none⟩), .pointer (some ⟨b2, 0, none⟩)] : Array Value).toList) w [] fun v N => v = .bool (Lg.whoP c i x.1) ∧ N = [] := by
  unfold Lg.whoP
  refine Sp.enter (n := 15) Try.func43 rfl rfl rfl (Hp.refl w) ?_
  repeat' (first
      | ((with_reducible refine is_load ?_); (first | ((refine' ⟨_, Yl_load_old rfl ?q1 hb List.not_mem_nil rfl, ?_⟩); (case q1 => exact one_of rfl)) | ((refine' ⟨_, Yl_load_old rfl ?q1 hb1 List.not_mem_nil rfl, ?_⟩); (case q1 => exact one_of rfl)) | ((refine' ⟨_, Yl_load_old rfl ?q1 hb2 List.not_mem_nil rfl, ?_⟩); (case q1 => exact one_of rfl)) | ((refine' ⟨_, Yl_loadA_hp rfl ?qa ?qb ?ql ?qc, ?_⟩); (case qa => exact agg_of rfl); (case qb => (first | exact fun _ hp => hp.rd hr fun _ => List.not_mem_nil | exact fun _ hp => hp.rd hrb fun _ => List.not_mem_nil)); (case qc => assumption); (case ql => rfl))))
      | (first | ((((refine' Ef_appG_row (news := mE _) rfl rfl rfl ?q1 ?q2 ?q3 (mE_one _) ?q4 ?q5 ?_); (case q1 => exact app_of rfl); (case q2 => (first | exact at0 | exact at1 | exact at2 | exact at3 | exact at4 | exact at5 | exact at6)); (case q3 => (repeat (first | exact .head _ | apply List.Mem.tail))); (case q4 => omega); (case q5 => omega))); (intro _ _)))
      | refine w1 ?_
      | (refine w2 ?_ ?_ <;> intro hc)
      | (first | ((refine' ⟨_, Yl_sl_lZ (l := j) rfl rfl ?q1 ?q2 ?q3 ?q4, ?_⟩); (case q1 => omega); (case q2 => exact und_of rfl); (case q3 => exact siz_of rfl); (case q4 => omega)))
      | (refine w4 ?_; (first | ((fail_if_success have := b1); intro b1) | ((fail_if_success have := b2); intro b2) | intro _))
      | (refine w5 ?_; (intro _ _))
      | refine w3 ?_ ?_
      | fail_if_success skip)
  all_goals exact ret_n [] (res1 rfl rfl) (List.nil_sublist _) ⟨by simp [*], rfl⟩

def idxG (p : Me → Bool) (m : List Me) : Int := match m.findIdx? p with
  | some i => (i : Int)
  | none => -1
theorem idxG_t {p : Me → Bool} {m : List Me} {i : Nat} {x : Me} (h : m[i]? = some x) (hp : p x = true) (hno : ∀ y ∈ m.take i, p y = false) : idxG p m = (i : Int) := by
  unfold idxG
  have : m.findIdx? p = some i := by
    obtain ⟨hi, he⟩ := List.getElem?_eq_some_iff.1 h
    rw [List.findIdx?_eq_some_iff_getElem]
    refine ⟨hi, by rw [he]; exact hp, fun j hj => ?_⟩
    have := hno m[j] (List.mem_take_iff_getElem.2 ⟨j, by omega, rfl⟩)
    simp [this]
  rw [this]
theorem idxG_f {p : Me → Bool} {m : List Me} (h : ∀ y ∈ m, p y = false) : idxG p m = -1 := by
  unfold idxG
  rw [List.findIdx?_eq_none_iff.2 h]
theorem idxG_iff (p : Me → Bool) (m : List Me) : 0 ≤ idxG p m ↔ m.any p = true := by
  cases ha : m.any p with
  | false =>
    rw [List.any_eq_false] at ha
    rw [idxG_f fun y hy => by simpa using ha y hy]
    simp
  | true =>
    simp only [iff_true]
    unfold idxG
    cases hf : m.findIdx? p with
    | none =>
      rw [List.findIdx?_eq_none_iff] at hf
      obtain ⟨x, hx, h⟩ := List.any_eq_true.1 ha
      rw [hf x hx] at h; cases h
    | some i => dsimp only; omega
section
variable (fid : FuncId) (lb : Array Value) (p : Me → Bool) (B : Option Addr) (lenb capb : Nat) (m : List Me) (hen : Enters Try.prog fid)
include hen
theorem indexf_c (w : World) (hf : ∀ w', Hp w [] [] w' → ∀ x ∈ m, Sp Try.prog fid ([.agg (mE x).toArray] ++ lb.toList) w' [] fun v N => v = .bool (p x) ∧ N = []) (hrb : Rd w B lenb 5 (m.flatMap mE)) (hlb : m.length = lenb) (hleb : lenb ≤ 9223372036854775806) :
    Sp Try.prog 50 [.slice B lenb capb, .func (.func fid) #[] lb] w [] fun v N => v = .int .i64 (idxG p m) ∧ N = [] := by
  refine Sp.enter (n := Try.f50.ntmps) Try.func50 rfl rfl rfl (Hp.refl w) ?_
  repeat' (first
      | ((with_reducible refine is_load ?_); (first | ((refine' ⟨_, Yl_load_old rfl ?q1 hb List.not_mem_nil rfl, ?_⟩); (case q1 => exact one_of rfl)) | ((refine' ⟨_, Yl_load_old rfl ?q1 hb1 List.not_mem_nil rfl, ?_⟩); (case q1 => exact one_of rfl)) | ((refine' ⟨_, Yl_load_old rfl ?q1 hb2 List.not_mem_nil rfl, ?_⟩); (case q1 => exact one_of rfl)) | ((refine' ⟨_, Yl_loadA_hp rfl ?qa ?qb ?ql ?qc, ?_⟩); (case qa => exact agg_of rfl); (case qb => (first | exact fun _ hp => hp.rd hr fun _ => List.not_mem_nil | exact fun _ hp => hp.rd hrb fun _ => List.not_mem_nil)); (case qc => assumption); (case ql => rfl))))
      | ((with_reducible refine ie_callv ?_); (first | refine Ef_callVP rfl rfl rfl hen (fun w1 hp => hf1 w1 (hp.weaken (List.nil_sublist _))) ?_))
      | (first | ((((refine' Ef_appG_row (news := mE _) rfl rfl rfl ?q1 ?q2 ?q3 (mE_one _) ?q4 ?q5 ?_); (case q1 => exact app_of rfl); (case q2 => (first | exact at0 | exact at1 | exact at2 | exact at3 | exact at4 | exact at5 | exact at6)); (case q3 => (repeat (first | exact .head _ | apply List.Mem.tail))); (case q4 => omega); (case q5 => omega))); (intro _ _)))
      | refine w1 ?_
      | (refine w2 ?_ ?_ <;> intro hc)
      | (first | ((refine' ⟨_, Yl_sl_lZ (l := j) rfl rfl ?q1 ?q2 ?q3 ?q4, ?_⟩); (case q1 => omega); (case q2 => exact und_of rfl); (case q3 => exact siz_of rfl); (case q4 => omega)))
      | (refine w4 ?_; (intro _))
      | (refine w5 ?_; (intro _ _))
      | refine w3 ?_ ?_
      | fail_if_success skip)
  refine T.loop (α := Nat) (fun i => [(0, .slice B lenb capb), (1, .func (.func fid) #[] lb), (7, .int .i64 (lenb : Int)), (8, .int .i64 (i : Int))]) (fun _ => []) (fun i => i ≤ lenb ∧ ∀ y ∈ m.take i, p y = false) (fun i => lenb - i) 0 ?_ ?_ ?_ ?_
  · (repeat (first | exact Sub.nil | refine Sub.cons rfl ?_))
  · (repeat (first | exact List.nil_sublist _ | refine List.Sublist.cons_cons _ ?_ | refine List.Sublist.cons _ ?_))
  · exact ⟨Nat.zero_le _, by simp⟩
  · rintro i ⟨hi, hno⟩
    by_cases hlt : i < lenb
    · obtain ⟨x, hx⟩ := some_of_lt (l := m) (i := i) (by omega)
      have eA := enc_atA mE_len hx
      have hf1 := fun w' hp' => hf w' hp' x (mem_of_some hx)
      cases hpx : p x with
      | true =>
        rw [hpx] at hf1
        rw [idxG_t hx hpx hno]
        repeat' (first
            | ((with_reducible refine is_load ?_); (first | ((refine' ⟨_, Yl_load_old rfl ?q1 hb List.not_mem_nil rfl, ?_⟩); (case q1 => exact one_of rfl)) | ((refine' ⟨_, Yl_load_old rfl ?q1 hb1 List.not_mem_nil rfl, ?_⟩); (case q1 => exact one_of rfl)) | ((refine' ⟨_, Yl_load_old rfl ?q1 hb2 List.not_mem_nil rfl, ?_⟩); (case q1 => exact one_of rfl)) | ((refine' ⟨_, Yl_loadA_hp rfl ?qa ?qb ?ql ?qc, ?_⟩); (case qa => exact agg_of rfl); (case qb => (first | exact fun _ hp => hp.rd hr fun _ => List.not_mem_nil | exact fun _ hp => hp.rd hrb fun _ => List.not_mem_nil)); (case qc => assumption); (case ql => rfl))))
            | ((with_reducible refine ie_callv ?_); (first | refine Ef_callVP rfl rfl rfl hen (fun w1 hp => hf1 w1 (hp.weaken (List.nil_sublist _))) ?_))
            | (first | ((((refine' Ef_appG_row (news := mE _) rfl rfl rfl ?q1 ?q2 ?q3 (mE_one _) ?q4 ?q5 ?_); (case q1 => exact app_of rfl); (case q2 => (first | exact at0 | exact at1 | exact at2 | exact at3 | exact at4 | exact at5 | exact at6)); (case q3 => (repeat (first | exact .head _ | apply List.Mem.tail))); (case q4 => omega); (case q5 => omega))); (intro _ _)))
            | refine w1 ?_
            | (refine w2 ?_ ?_ <;> intro hc)
            | (first | ((refine' ⟨_, Yl_sl_lZ (l := j) rfl rfl ?q1 ?q2 ?q3 ?q4, ?_⟩); (case q1 => omega); (case q2 => exact und_of rfl); (case q3 => exact siz_of rfl); (case q4 => omega)))
            | (refine w4 ?_; (intro _))
            | (refine w5 ?_; (intro _ _))
            | refine w3 ?_ ?_
            | fail_if_success skip)
        exact ret_n [] (res1 rfl rfl) (List.nil_sublist _) ⟨rfl, rfl⟩
      | false =>
        rw [hpx] at hf1
        repeat' (first
            | ((with_reducible refine is_load ?_); (first | ((refine' ⟨_, Yl_load_old rfl ?q1 hb List.not_mem_nil rfl, ?_⟩); (case q1 => exact one_of rfl)) | ((refine' ⟨_, Yl_load_old rfl ?q1 hb1 List.not_mem_nil rfl, ?_⟩); (case q1 => exact one_of rfl)) | ((refine' ⟨_, Yl_load_old rfl ?q1 hb2 List.not_mem_nil rfl, ?_⟩); (case q1 => exact one_of rfl)) | ((refine' ⟨_, Yl_loadA_hp rfl ?qa ?qb ?ql ?qc, ?_⟩); (case qa => exact agg_of rfl); (case qb => (first | exact fun _ hp => hp.rd hr fun _ => List.not_mem_nil | exact fun _ hp => hp.rd hrb fun _ => List.not_mem_nil)); (case qc => assumption); (case ql => rfl))))
            | ((with_reducible refine ie_callv ?_); (first | refine Ef_callVP rfl rfl rfl hen (fun w1 hp => hf1 w1 (hp.weaken (List.nil_sublist _))) ?_))
            | (first | ((((refine' Ef_appG_row (news := mE _) rfl rfl rfl ?q1 ?q2 ?q3 (mE_one _) ?q4 ?q5 ?_); (case q1 => exact app_of rfl); (case q2 => (first | exact at0 | exact at1 | exact at2 | exact at3 | exact at4 | exact at5 | exact at6)); (case q3 => (repeat (first | exact .head _ | apply List.Mem.tail))); (case q4 => omega); (case q5 => omega))); (intro _ _)))
            | refine w1 ?_
            | (refine w2 ?_ ?_ <;> intro hc)
            | (first | ((refine' ⟨_, Yl_sl_lZ (l := j) rfl rfl ?q1 ?q2 ?q3 ?q4, ?_⟩); (case q1 => omega); (case q2 => exact und_of rfl); (case q3 => exact siz_of rfl); (case q4 => omega)))
            | (refine w4 ?_; (intro _))
            | (refine w5 ?_; (intro _ _))
            | refine w3 ?_ ?_
            | fail_if_success skip)
        refine loopQ_n (i + 1) ?_ ?_ ⟨by (first | omega | (dsimp only; omega) | (simp; omega)), fun y hy => ?_⟩ (by (first | omega | (dsimp only; omega) | (simp; omega)))
        · (repeat (first | exact Sub.nil | refine Sub.cons rfl ?_))
        · (repeat (first | exact List.nil_sublist _ | refine List.Sublist.cons_cons _ ?_ | refine List.Sublist.cons _ ?_))
        · rw [take_snoc hx] at hy
          rcases List.mem_append.1 hy with hy | hy
          · exact hno y hy
          · rw [List.mem_singleton.1 hy]; exact hpx
    · rw [List.take_of_length_le (by omega)] at hno
      rw [idxG_f hno]
      repeat' (first
          | ((with_reducible refine is_load ?_); (first | ((refine' ⟨_, Yl_load_old rfl ?q1 hb List.not_mem_nil rfl, ?_⟩); (case q1 => exact one_of rfl)) | ((refine' ⟨_, Yl_load_old rfl ?q1 hb1 List.not_mem_nil rfl, ?_⟩); (case q1 => exact one_of rfl)) | ((refine' ⟨_, Yl_load_old rfl ?q1 hb2 List.not_mem_nil rfl, ?_⟩); (case q1 => exact one_of rfl)) | ((refine' ⟨_, Yl_loadA_hp rfl ?qa ?qb ?ql ?qc, ?_⟩); (case qa => exact agg_of rfl); (case qb => (first | exact fun _ hp => hp.rd hr fun _ => List.not_mem_nil | exact fun _ hp => hp.rd hrb fun _ => List.not_mem_nil)); (case qc => assumption); (case ql => rfl))))
          | ((with_reducible refine ie_callv ?_); (first | refine Ef_callVP rfl rfl rfl hen (fun w1 hp => hf1 w1 (hp.weaken (List.nil_sublist _))) ?_))
          | (first | ((((refine' Ef_appG_row (news := mE _) rfl rfl rfl ?q1 ?q2 ?q3 (mE_one _) ?q4 ?q5 ?_); (case q1 => exact app_of rfl); (case q2 => (first | exact at0 | exact at1 | exact at2 | exact at3 | exact at4 | exact at5 | exact at6)); (case q3 => (repeat (first | exact .head _ | apply List.Mem.tail))); (case q4 => omega); (case q5 => omega))); (intro _ _)))
          | refine w1 ?_
          | (refine w2 ?_ ?_ <;> intro hc)
          | (first | ((refine' ⟨_, Yl_sl_lZ (l := j) rfl rfl ?q1 ?q2 ?q3 ?q4, ?_⟩); (case q1 => omega); (case q2 => exact und_of rfl); (case q3 => exact siz_of rfl); (case q4 => omega)))
          | (refine w4 ?_; (intro _))
          | (refine w5 ?_; (intro _ _))
          | refine w3 ?_ ?_
          | fail_if_success skip)
      exact ret_n [] (res1 rfl rfl) (List.nil_sublist _) ⟨rfl, rfl⟩
theorem containsf_c (w : World) (hf : ∀ w', Hp w [] [] w' → ∀ x ∈ m, Sp Try.prog fid ([.agg (mE x).toArray] ++ lb.toList) w' [] fun v N => v = .bool (p x) ∧ N = []) (hrb : Rd w B lenb 5 (m.flatMap mE)) (hlb : m.length = lenb) (hleb : lenb ≤ 9223372036854775806) :
    Sp Try.prog 42 [.slice B lenb capb, .func (.func fid) #[] lb] w [] fun v N => v = .bool (m.any p) ∧ N = [] := by
  have hi := idxG_iff p m
  refine Sp.enter (n := Try.f42.ntmps) Try.func42 rfl rfl rfl (Hp.refl w) ?_
  repeat' (first     | ((with_reducible refine ie_callf ?_); (first  | ((with_reducible refine g_call 50 ?_); (first | refine Ef_callP rfl rfl ent_50 (fun w1 hp => indexf_c fid lb p B lenb capb m hen w1 (fun w' hp' x hx => hf w' (hp'.after hp) x hx) (hp.rd hrb fun _ => List.not_mem_nil) hlb hleb) ?_))))  | (first | ((((refine' Ef_appG_row (news := mE _) rfl rfl rfl ?q1 ?q2 ?q3 (mE_one _) ?q4 ?q5 ?_); (case q1 => exact app_of rfl); (case q2 => (first | exact at0 | exact at1 | exact at2 | exact at3 | exact at4 | exact at5 | exact at6)); (case q3 => (repeat (first | exact .head _ | apply List.Mem.tail))); (case q4 => omega); (case q5 => omega))); (intro _ _)))  | refine w1 ?_ | (refine w2 ?_ ?_ <;> intro hc) | (first | ((refine' ⟨_, Yl_sl_lZ (l := j) rfl rfl ?q1 ?q2 ?q3 ?q4, ?_⟩); (case q1 => omega); (case q2 => exact und_of rfl); (case q3 => exact siz_of rfl); (case q4 => omega))) | (refine w4 ?_; (intro _)) | (refine w5 ?_; (intro _ _)) | refine w3 ?_ ?_ | fail_if_success skip)
  · exact ret_n [] (res1 rfl rfl) (List.nil_sublist _) ⟨by rw [hi.1 (by assumption)], rfl⟩
  · exact ret_n [] (res1 rfl rfl) (List.nil_sublist _) ⟨by rw [show m.any p = false from Bool.eq_false_iff.2 fun h => absurd (hi.2 h) (by assumption)], rfl⟩
end

section
variable (b : Nat) (A : Option Addr) (len cap : Nat) (sy : Int) (l : List Me) (w : World) (hb : w.heap[b]? = some (.cells (lgC true (.slice A len cap) sy) 50 (0, 0)))
variable (hr : Rd w A len 5 (l.flatMap mE)) (hl : l.length = len) (hcap : len ≤ cap) (hle' : len ≤ 200)
include hb hr hl hcap hle'
set_option maxHeartbeats 2000000 in
theorem has_c (c i bh : Int) : Sp Try.prog 24 [.pointer (some ⟨b, 0, none⟩), .int .i64 c, .int .i64 i, .int .i64 bh] w [] fun v N => v = .bool (Lg.has2 (l.map (·.1)) c i bh) ∧ N = [] := by
  have hle := fun {M : List Asrt} w' (hp : Hp w [] M w') => len_v b A len cap sy w' (hp.blk_old hb List.not_mem_nil)
  unfold Lg.has2
  rw [List.length_map, ← List.map_drop, List.any_map, hl]
  by_cases h0 : len = 0
  · subst h0
    have hn : l = [] := List.eq_nil_of_length_eq_zero hl
    subst hn
    refine Sp.enter (n := 27) Try.func24 rfl rfl rfl (Hp.refl w) ?_
    repeat' (first
        | ((with_reducible refine is_load ?_); (first | ((refine' ⟨_, Yl_load_old rfl ?q1 hb List.not_mem_nil rfl, ?_⟩); (case q1 => exact one_of rfl)) | ((refine' ⟨_, Yl_load_old rfl ?q1 hb1 List.not_mem_nil rfl, ?_⟩); (case q1 => exact one_of rfl)) | ((refine' ⟨_, Yl_load_old rfl ?q1 hb2 List.not_mem_nil rfl, ?_⟩); (case q1 => exact one_of rfl)) | ((refine' ⟨_, Yl_loadA_hp rfl ?qa ?qb ?ql ?qc, ?_⟩); (case qa => exact agg_of rfl); (case qb => (first | exact fun _ hp => hp.rd hr fun _ => List.not_mem_nil | exact fun _ hp => hp.rd hrb fun _ => List.not_mem_nil)); (case qc => assumption); (case ql => rfl))))
        | ((with_reducible refine ie_callf ?_); (first   | ((with_reducible refine g_call 42 ?_); (first | ((refine' Ef_callP rfl rfl ent_42 (fun w1 hp => containsf_c 43 #[.pointer (some ⟨b1, 0, none⟩), .pointer (some ⟨b2, 0, none⟩)] (fun m => Lg.whoP c i m.1) (subA A cap j 5) (len - j) (cap - j) (l.drop j) ent_43 w1 (fun w' hp' x _ => who_c b1 b2 c i x w' (hp'.keep_blk hp ?q1) (hp'.keep_blk hp ?q2)) ((hp.rd hr fun _ => List.not_mem_nil).from_ mE_len hl ?q3 hcap) ?q4 ?q5) ?_); (case q1 => (repeat (first | exact .head _ | apply List.Mem.tail))); (case q2 => (repeat (first | exact .head _ | apply List.Mem.tail))); (case q3 => omega); (case q4 => rw [List.length_drop, hl]); (case q5 => omega)))) | ((with_reducible refine g_call 15 ?_); (first | refine Ef_callP rfl rfl ent_15 (fun w hp => hle w hp) ?_))))
        | (first | ((((refine' Ef_appG_row (news := mE _) rfl rfl rfl ?q1 ?q2 ?q3 (mE_one _) ?q4 ?q5 ?_); (case q1 => exact app_of rfl); (case q2 => (first | exact at0 | exact at1 | exact at2 | exact at3 | exact at4 | exact at5 | exact at6)); (case q3 => (repeat (first | exact .head _ | apply List.Mem.tail))); (case q4 => omega); (case q5 => omega))); (intro _ _)))
        | ((with_reducible refine g_draw ?_); (first | (((with_reducible refine' T.drawM (id := 3) [(0, true), (1, true), (2, true), (3, true), (4, true), (6, true), (7, true), (8, true), (9, true), (10, true), (13, true), (5, false), (11, false), (12, false), (14, false), (15, false)] mixd ?q1 ?_); (case q1 => kernel_rfl)))))
        | refine w1 ?_
        | (refine w2 ?_ ?_ <;> intro hc)
        | (first | ((refine' ⟨_, Yl_sl_lZ (l := j) rfl rfl ?q1 ?q2 ?q3 ?q4, ?_⟩); (case q1 => omega); (case q2 => exact und_of rfl); (case q3 => exact siz_of rfl); (case q4 => omega)))
        | (refine w4 ?_; (first | ((fail_if_success have := b1); intro b1) | ((fail_if_success have := b2); intro b2) | intro _))
        | (refine w5 ?_; (intro _ _))
        | refine w3 ?_ ?_
        | fail_if_success skip)
    exact ret_n [] (res1 rfl rfl) (List.nil_sublist _) ⟨by simp, rfl⟩
  · obtain ⟨j, hj⟩ : ∃ j : Nat, (j : Int) = min (max bh 0) (len : Int) := ⟨(min (max bh 0) (len : Int)).toNat, by omega⟩
    rw [show (min (max bh 0) (len : Int)).toNat = j by omega]
    refine Sp.enter (n := 27) Try.func24 rfl rfl rfl (Hp.refl w) ?_
    repeat' (first
        | ((with_reducible refine is_load ?_); (first | ((refine' ⟨_, Yl_load_old rfl ?q1 hb List.not_mem_nil rfl, ?_⟩); (case q1 => exact one_of rfl)) | ((refine' ⟨_, Yl_load_old rfl ?q1 hb1 List.not_mem_nil rfl, ?_⟩); (case q1 => exact one_of rfl)) | ((refine' ⟨_, Yl_load_old rfl ?q1 hb2 List.not_mem_nil rfl, ?_⟩); (case q1 => exact one_of rfl)) | ((refine' ⟨_, Yl_loadA_hp rfl ?qa ?qb ?ql ?qc, ?_⟩); (case qa => exact agg_of rfl); (case qb => (first | exact fun _ hp => hp.rd hr fun _ => List.not_mem_nil | exact fun _ hp => hp.rd hrb fun _ => List.not_mem_nil)); (case qc => assumption); (case ql => rfl))))
        | ((with_reducible refine ie_callf ?_); (first   | ((with_reducible refine g_call 42 ?_); (first | ((refine' Ef_callP rfl rfl ent_42 (fun w1 hp => containsf_c 43 #[.pointer (some ⟨b1, 0, none⟩), .pointer (some ⟨b2, 0, none⟩)] (fun m => Lg.whoP c i m.1) (subA A cap j 5) (len - j) (cap - j) (l.drop j) ent_43 w1 (fun w' hp' x _ => who_c b1 b2 c i x w' (hp'.keep_blk hp ?q1) (hp'.keep_blk hp ?q2)) ((hp.rd hr fun _ => List.not_mem_nil).from_ mE_len hl ?q3 hcap) ?q4 ?q5) ?_); (case q1 => (repeat (first | exact .head _ | apply List.Mem.tail))); (case q2 => (repeat (first | exact .head _ | apply List.Mem.tail))); (case q3 => omega); (case q4 => rw [List.length_drop, hl]); (case q5 => omega)))) | ((with_reducible refine g_call 15 ?_); (first | refine Ef_callP rfl rfl ent_15 (fun w hp => hle w hp) ?_))))
        | (first | ((((refine' Ef_appG_row (news := mE _) rfl rfl rfl ?q1 ?q2 ?q3 (mE_one _) ?q4 ?q5 ?_); (case q1 => exact app_of rfl); (case q2 => (first | exact at0 | exact at1 | exact at2 | exact at3 | exact at4 | exact at5 | exact at6)); (case q3 => (repeat (first | exact .head _ | apply List.Mem.tail))); (case q4 => omega); (case q5 => omega))); (intro _ _)))
        | ((with_reducible refine g_draw ?_); (first | (((with_reducible refine' T.drawM (id := 3) [(0, true), (1, true), (2, true), (3, true), (4, true), (6, true), (7, true), (8, true), (9, true), (10, true), (13, true), (5, false), (11, false), (12, false), (14, false), (15, false)] mixd ?q1 ?_); (case q1 => kernel_rfl)))))
        | refine w1 ?_
        | (refine w2 ?_ ?_ <;> intro hc)
        | (first | ((refine' ⟨_, Yl_sl_lZ (l := j) rfl rfl ?q1 ?q2 ?q3 ?q4, ?_⟩); (case q1 => omega); (case q2 => exact und_of rfl); (case q3 => exact siz_of rfl); (case q4 => omega)))
        | (refine w4 ?_; (first | ((fail_if_success have := b1); intro b1) | ((fail_if_success have := b2); intro b2) | intro _))
        | (refine w5 ?_; (intro _ _))
        | refine w3 ?_ ?_
        | fail_if_success skip)
    exact ret_n [] (res1 rfl rfl) (List.nil_sublist _) ⟨rfl, rfl⟩
end

/-! ### A log that nobody made -/
section
variable (pv : Value) (w : World) (hno : ∀ {M : List Asrt} (w' : World), Hp w [] M w' → Sp Try.prog 37 [pv] w' [] fun v N => v = .bool true ∧ N = [])
include hno
theorem markN_v : Sp Try.prog 29 [pv] w [] fun v N => v = .int .i64 1 ∧ N = [] := by
  refine Sp.enter (n := 13) Try.func29 rfl rfl rfl (Hp.refl w) ?_
  repeat' (first
      | ((with_reducible refine is_load ?_); (first | ((refine' ⟨_, Yl_load_old rfl ?q1 hb List.not_mem_nil rfl, ?_⟩); (case q1 => exact one_of rfl)) | ((refine' ⟨_, Yl_load_old rfl ?q1 hb1 List.not_mem_nil rfl, ?_⟩); (case q1 => exact one_of rfl)) | ((refine' ⟨_, Yl_load_old rfl ?q1 hb2 List.not_mem_nil rfl, ?_⟩); (case q1 => exact one_of rfl)) | ((refine' ⟨_, Yl_loadA_hp rfl ?qa ?qb ?ql ?qc, ?_⟩); (case qa => exact agg_of rfl); (case qb => (first | exact fun _ hp => hp.rd hr fun _ => List.not_mem_nil | exact fun _ hp => hp.rd hrb fun _ => List.not_mem_nil)); (case qc => assumption); (case ql => rfl))))
      | ((with_reducible refine ie_callf ?_); (first     | ((with_reducible refine g_call 37 ?_); (first | refine Ef_callP rfl rfl ent_37 (fun w hp => hno w hp) ?_))))
      | (first | ((((refine' Ef_appG_row (news := mE _) rfl rfl rfl ?q1 ?q2 ?q3 (mE_one _) ?q4 ?q5 ?_); (case q1 => exact app_of rfl); (case q2 => (first | exact at0 | exact at1 | exact at2 | exact at3 | exact at4 | exact at5 | exact at6)); (case q3 => (repeat (first | exact .head _ | apply List.Mem.tail))); (case q4 => omega); (case q5 => omega))); (intro _ _)))
      | refine w1 ?_
      | (refine w2 ?_ ?_ <;> intro hc)
      | (first | ((refine' ⟨_, Yl_sl_lZ (l := j) rfl rfl ?q1 ?q2 ?q3 ?q4, ?_⟩); (case q1 => omega); (case q2 => exact und_of rfl); (case q3 => exact siz_of rfl); (case q4 => omega)))
      | (refine w4 ?_; (intro _))
      | (refine w5 ?_; (intro _ _))
      | refine w3 ?_ ?_
      | fail_if_success skip)
  exact ret_n [] (res1 rfl rfl) (List.nil_sublist _) ⟨rfl, rfl⟩
theorem cutN_v (n : Int) : Sp Try.prog 30 [pv, .int .i64 n] w [] fun v N => v = .int .i64 1 ∧ N = [] := by
  refine Sp.enter (n := 39) Try.func30 rfl rfl rfl (Hp.refl w) ?_
  repeat' (first
      | ((with_reducible refine is_load ?_); (first | ((refine' ⟨_, Yl_load_old rfl ?q1 hb List.not_mem_nil rfl, ?_⟩); (case q1 => exact one_of rfl)) | ((refine' ⟨_, Yl_load_old rfl ?q1 hb1 List.not_mem_nil rfl, ?_⟩); (case q1 => exact one_of rfl)) | ((refine' ⟨_, Yl_load_old rfl ?q1 hb2 List.not_mem_nil rfl, ?_⟩); (case q1 => exact one_of rfl)) | ((refine' ⟨_, Yl_loadA_hp rfl ?qa ?qb ?ql ?qc, ?_⟩); (case qa => exact agg_of rfl); (case qb => (first | exact fun _ hp => hp.rd hr fun _ => List.not_mem_nil | exact fun _ hp => hp.rd hrb fun _ => List.not_mem_nil)); (case qc => assumption); (case ql => rfl))))
      | ((with_reducible refine ie_callf ?_); (first     | ((with_reducible refine g_call 37 ?_); (first | refine Ef_callP rfl rfl ent_37 (fun w hp => hno w hp) ?_))))
      | (first | ((((refine' Ef_appG_row (news := mE _) rfl rfl rfl ?q1 ?q2 ?q3 (mE_one _) ?q4 ?q5 ?_); (case q1 => exact app_of rfl); (case q2 => (first | exact at0 | exact at1 | exact at2 | exact at3 | exact at4 | exact at5 | exact at6)); (case q3 => (repeat (first | exact .head _ | apply List.Mem.tail))); (case q4 => omega); (case q5 => omega))); (intro _ _)))
      | refine w1 ?_
      | (refine w2 ?_ ?_ <;> intro hc)
      | (first | ((refine' ⟨_, Yl_sl_lZ (l := j) rfl rfl ?q1 ?q2 ?q3 ?q4, ?_⟩); (case q1 => omega); (case q2 => exact und_of rfl); (case q3 => exact siz_of rfl); (case q4 => omega)))
      | (refine w4 ?_; (intro _))
      | (refine w5 ?_; (intro _ _))
      | refine w3 ?_ ?_
      | fail_if_success skip)
  exact ret_n [] (res1 rfl rfl) (List.nil_sublist _) ⟨rfl, rfl⟩
theorem addN_v (hpv : pv.oneCell' = true) (e : Me) : Sp Try.prog 28 [pv, .agg (mE e).toArray] w [] fun v N => v = .int .i64 1 ∧ N = [] := by
  refine Sp.enterM (n := 39) Try.func28 rfl rfl rfl (Hp.refl w) fun a hk => ?_
  refine TW.run (M := []) ?_ a w hk (Hp.refl w)
  refine TW.seq ?_
  refine T.region ?_
  refine TL_e ?_
  refine ie_box ?_
  refine Ef_box1 rfl rfl hpv fun b1 => ?_
  repeat' (first
      | ((with_reducible refine is_load ?_); (first | ((refine' ⟨_, Yl_load_old rfl ?q1 hb List.not_mem_nil rfl, ?_⟩); (case q1 => exact one_of rfl)) | ((refine' ⟨_, Yl_load_old rfl ?q1 hb1 List.not_mem_nil rfl, ?_⟩); (case q1 => exact one_of rfl)) | ((refine' ⟨_, Yl_load_old rfl ?q1 hb2 List.not_mem_nil rfl, ?_⟩); (case q1 => exact one_of rfl)) | ((refine' ⟨_, Yl_loadA_hp rfl ?qa ?qb ?ql ?qc, ?_⟩); (case qa => exact agg_of rfl); (case qb => (first | exact fun _ hp => hp.rd hr fun _ => List.not_mem_nil | exact fun _ hp => hp.rd hrb fun _ => List.not_mem_nil)); (case qc => assumption); (case ql => rfl))))
      | ((with_reducible refine ie_callf ?_); (first     | ((with_reducible refine g_call 37 ?_); (first | refine Ef_callP rfl rfl ent_37 (fun w hp => hno w hp) ?_))))
      | (first | ((((refine' Ef_appG_row (news := mE _) rfl rfl rfl ?q1 ?q2 ?q3 (mE_one _) ?q4 ?q5 ?_); (case q1 => exact app_of rfl); (case q2 => (first | exact at0 | exact at1 | exact at2 | exact at3 | exact at4 | exact at5 | exact at6)); (case q3 => (repeat (first | exact .head _ | apply List.Mem.tail))); (case q4 => omega); (case q5 => omega))); (intro _ _)))
      | refine w1 ?_
      | (refine w2 ?_ ?_ <;> intro hc)
      | (first | ((refine' ⟨_, Yl_sl_lZ (l := j) rfl rfl ?q1 ?q2 ?q3 ?q4, ?_⟩); (case q1 => omega); (case q2 => exact und_of rfl); (case q3 => exact siz_of rfl); (case q4 => omega)))
      | (refine w4 ?_; (first | ((fail_if_success have := b1); intro b1) | intro _))
      | (refine w5 ?_; (intro _ _))
      | refine w3 ?_ ?_
      | fail_if_success skip)
  refine mixQ_n ?_
  refine TW.seq ?_
  repeat' (first
      | ((with_reducible refine is_load ?_); (first | ((refine' ⟨_, Yl_load_old rfl ?q1 hb List.not_mem_nil rfl, ?_⟩); (case q1 => exact one_of rfl)) | ((refine' ⟨_, Yl_load_old rfl ?q1 hb1 List.not_mem_nil rfl, ?_⟩); (case q1 => exact one_of rfl)) | ((refine' ⟨_, Yl_load_old rfl ?q1 hb2 List.not_mem_nil rfl, ?_⟩); (case q1 => exact one_of rfl)) | ((refine' ⟨_, Yl_loadA_hp rfl ?qa ?qb ?ql ?qc, ?_⟩); (case qa => exact agg_of rfl); (case qb => (first | exact fun _ hp => hp.rd hr fun _ => List.not_mem_nil | exact fun _ hp => hp.rd hrb fun _ => List.not_mem_nil)); (case qc => assumption); (case ql => rfl))))
      | ((with_reducible refine ie_callf ?_); (first     | ((with_reducible refine g_call 37 ?_); (first | refine Ef_callP rfl rfl ent_37 (fun w hp => hno w hp) ?_))))
      | (first | ((((refine' Ef_appG_row (news := mE _) rfl rfl rfl ?q1 ?q2 ?q3 (mE_one _) ?q4 ?q5 ?_); (case q1 => exact app_of rfl); (case q2 => (first | exact at0 | exact at1 | exact at2 | exact at3 | exact at4 | exact at5 | exact at6)); (case q3 => (repeat (first | exact .head _ | apply List.Mem.tail))); (case q4 => omega); (case q5 => omega))); (intro _ _)))
      | refine w1 ?_
      | (refine w2 ?_ ?_ <;> intro hc)
      | (first | ((refine' ⟨_, Yl_sl_lZ (l := j) rfl rfl ?q1 ?q2 ?q3 ?q4, ?_⟩); (case q1 => omega); (case q2 => exact und_of rfl); (case q3 => exact siz_of rfl); (case q4 => omega)))
      | (refine w4 ?_; (first | ((fail_if_success have := b1); intro b1) | intro _))
      | (refine w5 ?_; (intro _ _))
      | refine w3 ?_ ?_
      | fail_if_success skip)
  exact retM [] (fun a w => res1 rfl rfl a w) (List.nil_sublist _) ⟨rfl, rfl⟩
end
section
variable (pv : Value) (w : World) (hle : ∀ {M : List Asrt} (w' : World), Hp w [] M w' → Sp Try.prog 15 [pv] w' [] fun v N => v = .int .i64 0 ∧ N = [])
include hle
theorem hasN_v (c i bh : Int) : Sp Try.prog 24 [pv, .int .i64 c, .int .i64 i, .int .i64 bh] w [] fun v N => v = .bool false ∧ N = [] := by
  refine Sp.enter (n := 27) Try.func24 rfl rfl rfl (Hp.refl w) ?_
  repeat' (first
      | ((with_reducible refine is_load ?_); (first | ((refine' ⟨_, Yl_load_old rfl ?q1 hb List.not_mem_nil rfl, ?_⟩); (case q1 => exact one_of rfl)) | ((refine' ⟨_, Yl_load_old rfl ?q1 hb1 List.not_mem_nil rfl, ?_⟩); (case q1 => exact one_of rfl)) | ((refine' ⟨_, Yl_load_old rfl ?q1 hb2 List.not_mem_nil rfl, ?_⟩); (case q1 => exact one_of rfl)) | ((refine' ⟨_, Yl_loadA_hp rfl ?qa ?qb ?ql ?qc, ?_⟩); (case qa => exact agg_of rfl); (case qb => (first | exact fun _ hp => hp.rd hr fun _ => List.not_mem_nil | exact fun _ hp => hp.rd hrb fun _ => List.not_mem_nil)); (case qc => assumption); (case ql => rfl))))
      | ((with_reducible refine ie_callf ?_); (first   | ((with_reducible refine g_call 42 ?_); (first | ((refine' Ef_callP rfl rfl ent_42 (fun w1 hp => containsf_c 43 #[.pointer (some ⟨b1, 0, none⟩), .pointer (some ⟨b2, 0, none⟩)] (fun m => Lg.whoP c i m.1) (subA A cap j 5) (len - j) (cap - j) (l.drop j) ent_43 w1 (fun w' hp' x _ => who_c b1 b2 c i x w' (hp'.keep_blk hp ?q1) (hp'.keep_blk hp ?q2)) ((hp.rd hr fun _ => List.not_mem_nil).from_ mE_len hl ?q3 hcap) ?q4 ?q5) ?_); (case q1 => (repeat (first | exact .head _ | apply List.Mem.tail))); (case q2 => (repeat (first | exact .head _ | apply List.Mem.tail))); (case q3 => omega); (case q4 => rw [List.length_drop, hl]); (case q5 => omega)))) | ((with_reducible refine g_call 15 ?_); (first | refine Ef_callP rfl rfl ent_15 (fun w hp => hle w hp) ?_))))
      | (first | ((((refine' Ef_appG_row (news := mE _) rfl rfl rfl ?q1 ?q2 ?q3 (mE_one _) ?q4 ?q5 ?_); (case q1 => exact app_of rfl); (case q2 => (first | exact at0 | exact at1 | exact at2 | exact at3 | exact at4 | exact at5 | exact at6)); (case q3 => (repeat (first | exact .head _ | apply List.Mem.tail))); (case q4 => omega); (case q5 => omega))); (intro _ _)))
      | ((with_reducible refine g_draw ?_); (first | (((with_reducible refine' T.drawM (id := 3) [(0, true), (1, true), (2, true), (3, true), (4, true), (6, true), (7, true), (8, true), (9, true), (10, true), (13, true), (5, false), (11, false), (12, false), (14, false), (15, false)] mixd ?q1 ?_); (case q1 => kernel_rfl)))))
      | refine w1 ?_
      | (refine w2 ?_ ?_ <;> intro hc)
      | (first | ((refine' ⟨_, Yl_sl_lZ (l := j) rfl rfl ?q1 ?q2 ?q3 ?q4, ?_⟩); (case q1 => omega); (case q2 => exact und_of rfl); (case q3 => exact siz_of rfl); (case q4 => omega)))
      | (refine w4 ?_; (first | ((fail_if_success have := b1); intro b1) | ((fail_if_success have := b2); intro b2) | intro _))
      | (refine w5 ?_; (intro _ _))
      | refine w3 ?_ ?_
      | fail_if_success skip)
  exact ret_n [] (res1 rfl rfl) (List.nil_sublist _) ⟨rfl, rfl⟩
end
end Go.Proofs.Ytegaejbfhpigjaa
