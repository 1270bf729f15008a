/- Copies of bodies, of entries, of rows of entries: what a call of each comes to. -/
import Derived.Test.YtegaejbfhpigjaaT1
import Derived.Test.YtegaejbfhpigjaaIt
namespace Go.Proofs.Ytegaejbfhpigjaa
open Go.RowKit
set_option maxRecDepth 20000

/-- A body, a row of entries. -/
def rB (l : List UInt8) (z : Hd) : Asrt := .row 5 1 (.slice z.1 l.length z.2) l.length (l.flatMap eU)
def rM (l : List Me) (z : Hd) : Asrt := .row 27 5 (.slice z.1 l.length z.2) l.length (l.flatMap mE)


section
variable (A : Option Addr) (len cap : Nat) (l : List UInt8) (w : World) (hr : Rd w A len 1 (l.flatMap eU)) (hl : l.length = len) (h4 : len ≤ 6000)
include hr hl h4
theorem clone_c : Sp Try.prog 48 [.slice A len cap] w [] fun v N => ∃ z : Hd, v = .slice z.1 l.length z.2 ∧ N = [rB l z] := by
  have oL := one_flat eU_one l
  cases A with
  | none =>
    have h0 : len = 0 := by
      rcases Nat.eq_zero_or_pos len with h | h
      · exact h
      · have := hr.some_ h; cases this
    have hn : l = [] := List.eq_nil_of_length_eq_zero (by omega)
    subst hn
    refine Sp.enter (n := 8) Try.func48 rfl rfl rfl (Hp.refl w) ?_
    refine T.row0e 5 1 ?_
    repeat' (first       | (first | ((((refine' Ef_appG_row (news := mE _) rfl rfl rfl ?q1 ?q2 ?q3 (mE_one _) ?q4 ?q5 ?_); (case q1 => exact app_of rfl); (case q2 => (first | exact at0 | exact at1 | exact at2 | exact at3 | exact at4 | exact at5 | exact at6)); (case q3 => (repeat (first | exact .head _ | apply List.Mem.tail))); (case q4 => omega); (case q5 => omega))); (first | ((fail_if_success have := A1); intro A1 c1) | intro _ _)))  | refine w1 ?_ | (refine w2 ?_ ?_ <;> intro hc) | (first | ((refine' ⟨_, Yl_eql_nil rfl rfl ?q1, ?_⟩); (case q1 => exact und_of rfl))) | (refine w4 ?_; (intro _)) | (refine w5 ?_; (first | ((fail_if_success have := A1); intro A1 c1) | intro _ _)) | refine w3 ?_ ?_ | fail_if_success skip)
    exact ret_n [rB [] (none, 0)] (res1 rfl rfl) (List.Sublist.refl _) ⟨(none, 0), rfl, rfl⟩
  | some a =>
    refine Sp.enter (n := 8) Try.func48 rfl rfl rfl (Hp.refl w) ?_
    repeat' (first       | (first | ((((refine' Ef_appG_row (news := mE _) rfl rfl rfl ?q1 ?q2 ?q3 (mE_one _) ?q4 ?q5 ?_); (case q1 => exact app_of rfl); (case q2 => (first | exact at0 | exact at1 | exact at2 | exact at3 | exact at4 | exact at5 | exact at6)); (case q3 => (repeat (first | exact .head _ | apply List.Mem.tail))); (case q4 => omega); (case q5 => omega))); (first | ((fail_if_success have := A1); intro A1 c1) | intro _ _)))  | refine w1 ?_ | (refine w2 ?_ ?_ <;> intro hc) | (first | ((refine' ⟨_, Yl_eql_nil rfl rfl ?q1, ?_⟩); (case q1 => exact und_of rfl))) | (refine w4 ?_; (intro _)) | (refine w5 ?_; (first | ((fail_if_success have := A1); intro A1 c1) | intro _ _)) | refine w3 ?_ ?_ | fail_if_success skip)
    subst hl
    exact ret_n [rB l (A1, c1)] (res1 rfl rfl) (List.Sublist.refl _) ⟨(A1, c1), rfl, rfl⟩
theorem cat_c : Sp Try.prog 51 [.slice A len cap, .slice none 0 0] w [] fun v N => ∃ z : Hd, v = .slice z.1 l.length z.2 ∧ N = [rB l z] := by
  have oL := one_flat eU_one l
  have hr0 : Rd w none 0 1 ([] : List Value) := Rd.nil
  refine Sp.enter (n := 13) Try.func51 rfl rfl rfl (Hp.refl w) ?_
  refine T.row0e 5 1 ?_
  repeat' (first       | (first | ((((refine' Ef_appG_row (news := mE _) rfl rfl rfl ?q1 ?q2 ?q3 (mE_one _) ?q4 ?q5 ?_); (case q1 => exact app_of rfl); (case q2 => (first | exact at0 | exact at1 | exact at2 | exact at3 | exact at4 | exact at5 | exact at6)); (case q3 => (repeat (first | exact .head _ | apply List.Mem.tail))); (case q4 => omega); (case q5 => omega))); (first | ((fail_if_success have := A1); intro A1 c1) | ((fail_if_success have := A2); intro A2 c2) | intro _ _)))  | refine w1 ?_ | (refine w2 ?_ ?_ <;> intro hc) | (first | ((refine' ⟨_, Yl_eql_nil rfl rfl ?q1, ?_⟩); (case q1 => exact und_of rfl))) | (refine w4 ?_; (intro _)) | (refine w5 ?_; (first | ((fail_if_success have := A1); intro A1 c1) | ((fail_if_success have := A2); intro A2 c2) | intro _ _)) | refine w3 ?_ ?_ | fail_if_success skip)
  subst hl
  refine ret_n [rB l (A2, c2)] (res1 rfl rfl) ?_ ⟨(A2, c2), rfl, rfl⟩
  unfold rB
  simp only [Nat.add_zero, List.append_nil]
  exact List.Sublist.refl _
theorem copy_c : Sp Try.prog 49 [.slice A len cap] w [] fun v N => ∃ z : Hd, v = .slice z.1 l.length z.2 ∧ N = [rB l z] := by
  have hcat := fun w h1 => cat_c A len cap l w h1 hl h4
  refine Sp.enter (n := 5) Try.func49 rfl rfl rfl (Hp.refl w) ?_
  repeat' (first     | ((with_reducible refine ie_callf ?_); (first | ((with_reducible refine g_call 51 ?_); (first | (refine Ef_callN rfl rfl ent_51 (fun w hp => hcat w (hp.rd hr fun _ => List.not_mem_nil)) ?_; rintro ⟨A1, c1⟩)))))  | (first | ((((refine' Ef_appG_row (news := mE _) rfl rfl rfl ?q1 ?q2 ?q3 (mE_one _) ?q4 ?q5 ?_); (case q1 => exact app_of rfl); (case q2 => (first | exact at0 | exact at1 | exact at2 | exact at3 | exact at4 | exact at5 | exact at6)); (case q3 => (repeat (first | exact .head _ | apply List.Mem.tail))); (case q4 => omega); (case q5 => omega))); (first | ((fail_if_success have := A1); intro A1 c1) | intro _ _)))  | refine w1 ?_ | (refine w2 ?_ ?_ <;> intro hc) | (first | ((refine' ⟨_, Yl_eql_nil rfl rfl ?q1, ?_⟩); (case q1 => exact und_of rfl))) | (refine w4 ?_; (intro _)) | (refine w5 ?_; (first | ((fail_if_success have := A1); intro A1 c1) | intro _ _)) | refine w3 ?_ ?_ | fail_if_success skip)
  exact ret_n [rB l (A1, c1)] (res1 rfl rfl) (List.Sublist.refl _) ⟨(A1, c1), rfl, rfl⟩
end

section
variable (m : Me) (w : World) (ha : In w m) (h5 : m.1.body.length ≤ 6000)
include ha h5
set_option maxHeartbeats 1000000 in
theorem copied_c : Sp Try.prog 40 [.agg (mE m).toArray] w [] fun v N => ∃ z : Hd, v = .agg (mE (m.1, z)).toArray ∧ N = [bA (m.1, z)] := by
  have hcp := fun w h1 => copy_c m.2.1 m.1.body.length m.2.2 m.1.body w h1 rfl h5
  have oR := fun z => mE_one (m.1, z)
  refine Sp.enter (n := 8) Try.func40 rfl rfl rfl (Hp.refl w) ?_
  repeat' (first
      | ((with_reducible refine is_load ?_); (first | ((refine' ⟨_, Yl_loadA_hp rfl ?qa ?qb ?ql ?qc, ?_⟩); (case qa => exact agg_of rfl); (case qb => (first | exact fun _ hp => hp.rd hr fun _ => List.not_mem_nil)); (case qc => assumption); (case ql => rfl))))
      | ((with_reducible refine ie_store ?_); (first | ((refine' Ef_storeA' rfl rfl ?q1 (mE_one _) ?q2 ?q3 ?_); (case q1 => exact siz_of rfl); (case q2 => (first | exact at0 | exact at1 | exact at2 | exact at3 | exact at4 | exact at5 | exact at6)); (case q3 => rfl)) | ((refine' Ef_storeC (C' := (mE (m.1, (A1, c1))).toArray) rfl rfl ?q1 ?q2 ?q3 ?q4 ?q5 ?_); (case q1 => rfl); (case q2 => exact siz_of rfl); (case q3 => (first | exact at0 | exact at1 | exact at2 | exact at3 | exact at4 | exact at5 | exact at6)); (case q4 => exact Nat.le_of_ble_eq_true rfl); (case q5 => rfl))))
      | ((with_reducible refine ie_callf ?_); (first  | ((with_reducible refine g_call 49 ?_); (first | (refine Ef_callN rfl rfl ent_49 (fun w hp => hcp w (hp.in_old ha)) ?_; rintro ⟨A1, c1⟩)))))
      | (first | ((((refine' Ef_appG_row (news := mE _) rfl rfl rfl ?q1 ?q2 ?q3 (mE_one _) ?q4 ?q5 ?_); (case q1 => exact app_of rfl); (case q2 => (first | exact at0 | exact at1 | exact at2 | exact at3 | exact at4 | exact at5 | exact at6)); (case q3 => (repeat (first | exact .head _ | apply List.Mem.tail))); (case q4 => omega); (case q5 => omega))); (first | ((fail_if_success have := A1); intro A1 c1) | intro _ _)))
      | refine w1 ?_
      | (refine w2 ?_ ?_ <;> intro hc)
      | (first | ((refine' ⟨_, Yl_eql_nil rfl rfl ?q1, ?_⟩); (case q1 => exact und_of rfl)))
      | (refine w4 ?_; (intro _))
      | (refine w5 ?_; (first | ((fail_if_success have := A1); intro A1 c1) | intro _ _))
      | refine w3 ?_ ?_
      | fail_if_success skip)
  exact ret_n [bA (m.1, (A1, c1))] (resC rfl rfl (by (repeat (first | exact .head _ | apply List.Mem.tail))) (agg_of rfl)) (by (repeat (first | exact List.nil_sublist _ | refine List.Sublist.cons_cons _ ?_ | refine List.Sublist.cons _ ?_))) ⟨(A1, c1), rfl, rfl⟩
end

section
variable (A : Option Addr) (len cap : Nat) (l : List Me) (w : World) (hr : Rd w A len 5 (l.flatMap mE)) (hl : l.length = len) (hle : len ≤ 300) (hin : Ins w l) (h5 : ∀ x ∈ l, x.1.body.length ≤ 6000)
include hr hl hle hin h5
set_option maxHeartbeats 4000000 in
theorem copieds_c : Sp Try.prog 34 [.slice A len cap] w [] fun v N => ∃ y : Hd × List Me, y.2.map (·.1) = l.map (·.1) ∧ v = .slice y.1.1 y.2.length y.1.2 ∧ N = [rM y.2 y.1, bag (y.2.map bA)] := by
  refine Sp.enter (n := 20) Try.func34 rfl rfl rfl (Hp.refl w) ?_
  refine T.mem (fun _ h => h.bagNil) ?_
  refine T.row0e 27 5 ?_
  repeat' (first
      | ((with_reducible refine is_load ?_); (first | ((refine' ⟨_, Yl_loadA_hp rfl ?qa ?qb ?ql ?qc, ?_⟩); (case qa => exact agg_of rfl); (case qb => (first | exact fun _ hp => hp.rd hr fun _ => List.not_mem_nil)); (case qc => assumption); (case ql => rfl))))
      | ((with_reducible refine ie_callf ?_); (first   | ((with_reducible refine g_call 40 ?_); (first | (refine Ef_callN rfl rfl ent_40 (fun w hp => copied_c x w (hp.in_old (hin x (mem_of_some hx))) (h5 x (mem_of_some hx))) ?_; rintro ⟨A2, c2⟩)))))
      | (first | ((((refine' Ef_appG_row (news := mE _) rfl rfl rfl ?q1 ?q2 ?q3 (mE_one _) ?q4 ?q5 ?_); (case q1 => exact app_of rfl); (case q2 => (first | exact at0 | exact at1 | exact at2 | exact at3 | exact at4 | exact at5 | exact at6)); (case q3 => (repeat (first | exact .head _ | apply List.Mem.tail))); (case q4 => omega); (case q5 => omega))); (first | ((fail_if_success have := A1); intro A1 c1) | ((fail_if_success have := A2); intro A2 c2) | ((fail_if_success have := A3); intro A3 c3) | intro _ _)))
      | refine w1 ?_
      | (refine w2 ?_ ?_ <;> intro hc)
      | (first | ((refine' ⟨_, Yl_eql_nil rfl rfl ?q1, ?_⟩); (case q1 => exact und_of rfl)))
      | (refine w4 ?_; (intro _))
      | (refine w5 ?_; (first | ((fail_if_success have := A1); intro A1 c1) | ((fail_if_success have := A2); intro A2 c2) | ((fail_if_success have := A3); intro A3 c3) | intro _ _))
      | refine w3 ?_ ?_
      | fail_if_success skip)
  refine T.loopM (α := Nat × (Option Addr × Nat) × List Me) (fun z => [(0, .slice A len cap), (3, .slice z.2.1.1 z.2.2.length z.2.1.2), (4, .int .i64 (z.1 : Int))]) (fun z => [rM z.2.2 z.2.1, bag (z.2.2.map bA)]) (fun z => z.1 ≤ len ∧ z.2.2.map (·.1) = (l.take z.1).map (·.1)) (fun z => len - z.1) (0, (none, 0), []) ?_ ?_ ?_ ?_
  · (repeat (first | exact Sub.nil | refine Sub.cons rfl ?_))
  · exact fun _ h => h.ofPart (by unfold rM; (repeat (first | exact Part.nil | refine Part.p0 ?_ | refine Part.p1 ?_ | refine Part.p2 ?_ | refine Part.p3 ?_ | refine Part.p4 ?_ | refine Part.p5 ?_ | refine Part.p6 ?_)))
  · exact ⟨Nat.zero_le _, rfl⟩
  · rintro ⟨i, ⟨A1, c1⟩, ms⟩ ⟨hi, hms⟩
    dsimp only at hi hms ⊢
    have hml : ms.length = i := by have := congrArg List.length hms; simpa [hl, Nat.min_eq_left hi] using this
    by_cases hlt : i < len
    · obtain ⟨x, hx⟩ := some_of_lt (l := l) (i := i) (by omega)
      have eA : ∀ j u, (mE x)[j]? = some u → (l.flatMap mE)[i * 5 + j]? = some u := enc_atA mE_len hx
      have oX := fun z => mE_one (x.1, z)
      repeat' (first
          | ((with_reducible refine is_load ?_); (first | ((refine' ⟨_, Yl_loadA_hp rfl ?qa ?qb ?ql ?qc, ?_⟩); (case qa => exact agg_of rfl); (case qb => (first | exact fun _ hp => hp.rd hr fun _ => List.not_mem_nil)); (case qc => assumption); (case ql => rfl))))
          | ((with_reducible refine ie_callf ?_); (first   | ((with_reducible refine g_call 40 ?_); (first | (refine Ef_callN rfl rfl ent_40 (fun w hp => copied_c x w (hp.in_old (hin x (mem_of_some hx))) (h5 x (mem_of_some hx))) ?_; rintro ⟨A2, c2⟩)))))
          | (first | ((((refine' Ef_appG_row (news := mE _) rfl rfl rfl ?q1 ?q2 ?q3 (mE_one _) ?q4 ?q5 ?_); (case q1 => exact app_of rfl); (case q2 => (first | exact at0 | exact at1 | exact at2 | exact at3 | exact at4 | exact at5 | exact at6)); (case q3 => (repeat (first | exact .head _ | apply List.Mem.tail))); (case q4 => omega); (case q5 => omega))); (first | ((fail_if_success have := A1); intro A1 c1) | ((fail_if_success have := A2); intro A2 c2) | ((fail_if_success have := A3); intro A3 c3) | intro _ _)))
          | refine w1 ?_
          | (refine w2 ?_ ?_ <;> intro hc)
          | (first | ((refine' ⟨_, Yl_eql_nil rfl rfl ?q1, ?_⟩); (case q1 => exact und_of rfl)))
          | (refine w4 ?_; (intro _))
          | (refine w5 ?_; (first | ((fail_if_success have := A1); intro A1 c1) | ((fail_if_success have := A2); intro A2 c2) | ((fail_if_success have := A3); intro A3 c3) | intro _ _))
          | refine w3 ?_ ?_
          | fail_if_success skip)
      refine loopH_n (i + 1, (A3, c3), ms ++ [(x.1, (A2, c2))]) ?_ ?_ ⟨show i + 1 ≤ len by omega, by rw [take_snoc hx, List.map_append, List.map_append, hms]; rfl⟩ (show len - (i + 1) < len - i by omega)
      · rw [List.length_append]; (repeat (first | exact Sub.nil | refine Sub.cons rfl ?_))
      · intro w' hp
        have hp2 := (hp.ofPart (M' := [bA (x.1, (A2, c2)), bag (ms.map bA), .row 27 5 (.slice A3 (ms.length + 1) c3) (ms.length + 1) (ms.flatMap mE ++ mE (x.1, (A2, c2)))]) (by (repeat (first | exact Part.nil | refine Part.p0 ?_ | refine Part.p1 ?_ | refine Part.p2 ?_ | refine Part.p3 ?_ | refine Part.p4 ?_ | refine Part.p5 ?_ | refine Part.p6 ?_)))).bagAdd
        dsimp only
        unfold rM
        rw [List.length_append, mE_snoc, List.map_append]
        exact hp2.ofPart (by (repeat (first | exact Part.nil | refine Part.p0 ?_ | refine Part.p1 ?_ | refine Part.p2 ?_ | refine Part.p3 ?_ | refine Part.p4 ?_ | refine Part.p5 ?_ | refine Part.p6 ?_)))
    · have hil : i = l.length := by omega
      rw [List.take_of_length_le (by omega)] at hms
      repeat' (first
          | ((with_reducible refine is_load ?_); (first | ((refine' ⟨_, Yl_loadA_hp rfl ?qa ?qb ?ql ?qc, ?_⟩); (case qa => exact agg_of rfl); (case qb => (first | exact fun _ hp => hp.rd hr fun _ => List.not_mem_nil)); (case qc => assumption); (case ql => rfl))))
          | ((with_reducible refine ie_callf ?_); (first   | ((with_reducible refine g_call 40 ?_); (first | (refine Ef_callN rfl rfl ent_40 (fun w hp => copied_c x w (hp.in_old (hin x (mem_of_some hx))) (h5 x (mem_of_some hx))) ?_; rintro ⟨A2, c2⟩)))))
          | (first | ((((refine' Ef_appG_row (news := mE _) rfl rfl rfl ?q1 ?q2 ?q3 (mE_one _) ?q4 ?q5 ?_); (case q1 => exact app_of rfl); (case q2 => (first | exact at0 | exact at1 | exact at2 | exact at3 | exact at4 | exact at5 | exact at6)); (case q3 => (repeat (first | exact .head _ | apply List.Mem.tail))); (case q4 => omega); (case q5 => omega))); (first | ((fail_if_success have := A1); intro A1 c1) | ((fail_if_success have := A2); intro A2 c2) | ((fail_if_success have := A3); intro A3 c3) | intro _ _)))
          | refine w1 ?_
          | (refine w2 ?_ ?_ <;> intro hc)
          | (first | ((refine' ⟨_, Yl_eql_nil rfl rfl ?q1, ?_⟩); (case q1 => exact und_of rfl)))
          | (refine w4 ?_; (intro _))
          | (refine w5 ?_; (first | ((fail_if_success have := A1); intro A1 c1) | ((fail_if_success have := A2); intro A2 c2) | ((fail_if_success have := A3); intro A3 c3) | intro _ _))
          | refine w3 ?_ ?_
          | fail_if_success skip)
      exact ret_n [rM ms (A1, c1), bag (ms.map bA)] (res1 rfl rfl) (by (repeat (first | exact List.nil_sublist _ | refine List.Sublist.cons_cons _ ?_ | refine List.Sublist.cons _ ?_))) ⟨((A1, c1), ms), hms, rfl, rfl⟩
end
end Go.Proofs.Ytegaejbfhpigjaa
