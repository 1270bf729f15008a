/- Send of as many packets as fit, on both nets: what a call of each comes to. -/
import Derived.Test.YtdbpnolpgkcjiaaT14
namespace Go.Proofs.Ytdbpnolpgkcjiaa
open Go.RowKit Go.Conc

/-- What a net of n packets answers to k more. -/
def cod (n k : Nat) : Int := if n + k ≤ 4096 then 0 else 4
theorem take_room {α : Type} {ps : List α} {n : Nat} (h : n + ps.length ≤ 4096) : ps.take (4096 - n) = ps := List.take_of_length_le (by omega)

section
variable (b : Nat) (w : World) (R : List Nat) (l : List Pk) (hl : l.length ≤ 4096)
variable (A : Option Addr) (cap : Nat) (ps : List Pk) (ha : Rd w A ps.length 1 (ps.flatMap pE)) (haR : 0 < ps.length → (adr A).block ∉ R) (hin : Ins w ps) (hinR : ∀ p ∈ ps, 0 < p.1.length → (adr p.2.1).block ∉ R) (h5 : ∀ p ∈ ps, p.1.length ≤ 140737488355328) (hpl : ps.length ≤ 140737488355328)
include hl ha haR hin hinR h5 hpl
set_option maxHeartbeats 4000000 in
theorem sendG_c (c : Nat) (hp : Hp w R [nO b c, chA c l] w) : Sp Try.prog 10 [.pointer (some ⟨b, 0, none⟩), .slice A ps.length cap] w R fun v N => ∃ ns : List Pk, ns.map (·.1) = (ps.take (4096 - l.length)).map (·.1) ∧ v = .int .i64 (cod l.length ps.length) ∧ N = [nO b c, chA c (l ++ ns), bag (ns.map bP)] := by
  refine Sp.part (Res := fun v N => ∃ ns : List Pk, ns.map (·.1) = (ps.take (4096 - l.length)).map (·.1) ∧ v = .int .i64 (cod l.length ps.length) ∧ ([nO b c, chA c (l ++ ns), bag (ns.map bP)] = N ∨ [bag (ns.map bP), nO b c, chA c (l ++ ns)] = N)) ?_ (fun v N ⟨ns, h1, h2, h3⟩ => ⟨[nO b c, chA c (l ++ ns), bag (ns.map bP)], ?_, ns, h1, h2, rfl⟩)
  case refine_2 => rcases h3 with h3 | h3 <;> subst h3 <;> (repeat (first | exact Part.nil | refine Part.p0 ?_ | refine Part.p1 ?_ | refine Part.p2 ?_ | refine Part.p3 ?_ | refine Part.p4 ?_ | refine Part.p5 ?_ | refine Part.p6 ?_))
  refine Sp.enter (n := 21) Try.func10 rfl rfl rfl hp ?_
  repeat' (first
      | ((with_reducible refine is_load ?_); (first | ((refine' ⟨_, Yl_load_hp rfl ?q1 (fun w hp => hp.rd ha haR) ?q2, ?_⟩); (case q1 => exact one_of rfl); (case q2 => assumption))))
      | ((with_reducible refine ie_callf ?_); (first | ((with_reducible refine g_call 21 ?_); (first | ((refine' Ef_callP rfl rfl ent_21 (fun w hp => none1_v b c w (hp.blkOf ?q1)) ?_); (case q1 => (repeat (first | exact .head _ | apply List.Mem.tail)))))) | ((with_reducible refine g_call 23 ?_); (first | (refine Ef_callN rfl rfl ent_23 (fun w hp => clone_c x w (hp.rd (hin x (mem_of_some hx)) (hinR x (mem_of_some hx))) (h5 x (mem_of_some hx))) ?_; rintro ⟨A1, c1⟩))) | ((with_reducible refine g_call 22 ?_); (first | ((refine' Ef_callT [false, false, true, true] rfl rfl ent_22 rfl rfl rfl (fun w hp => put_c b c w _ (l ++ ns) (x.1, (A1, c1)) hp ?q1) ?_); (case q1 => rw [List.length_append]; omega)) | ((refine' Ef_callT [false, false, true, true] rfl rfl ent_22 rfl rfl rfl (fun w hp => putF_c b c w _ (l ++ ns) (x.1, (A1, c1)) hp ?q1) ?_); (case q1 => rw [List.length_append]; omega))))))
      | (first | ((((refine' Ef_appG_row (xs := ls.flatMap pE) (news := [pV (x.1, (A1, c1))]) rfl rfl rfl ?q1 ?q2 ?q3 (pE_one (x.1, (A1, c1))) ?q4 ?q5 ?_); (case q1 => exact app_of rfl); (case q2 => (first | exact at0 | exact at1 | exact at2 | exact at3 | exact at4 | exact at5 | exact at6)); (case q3 => (repeat (first | exact .head _ | apply List.Mem.tail))); (case q4 => omega); (case q5 => omega))); (first | ((fail_if_success have := A1); intro A1 c1) | intro _ _)))
      | ((with_reducible refine g_draw ?_); (first | (((refine' T.drawB (id := 6) (.y 0 (.y 1 (.y 2 (.y 3 (.y 5 (.y 6 (.y 7 (.y 8 (.b 4 (.run [(9, false), (10, false), (11, false), (12, false), (13, false), (14, false)]) 9 (.b 4 (.run [(10, false), (11, false), (12, false), (13, false), (14, false)]) 10 (.run [(4, false), (11, false), (12, false), (13, false), (14, false)]))))))))))) [] mixd ?q1 ?q2 ?_); (case q1 => kernel_rfl); (case q2 => (repeat (first | exact List.nil_sublist _ | refine List.Sublist.cons_cons _ ?_ | refine List.Sublist.cons _ ?_)))))))
      | refine w1 ?_
      | (refine w2 ?_ ?_ <;> intro hc)
      | (refine w4 ?_; (intro _))
      | (refine w5 ?_; (first | ((fail_if_success have := A1); intro A1 c1) | intro _ _))
      | refine w3 ?_ ?_
      | fail_if_success skip)
  refine T.loopM (α := Nat × List Pk) (fun z => [(0, .pointer (some ⟨b, 0, none⟩)), (9, .slice A ps.length cap), (10, .int .i64 (ps.length : Int)), (11, .int .i64 (z.1 : Int))]) (fun z => [bag (z.2.map bP), nO b c, chA c (l ++ z.2)]) (fun z => z.1 ≤ ps.length ∧ l.length + z.1 ≤ 4096 ∧ z.2.map (·.1) = (ps.take z.1).map (·.1)) (fun z => ps.length - z.1) (0, []) ?_ ?_ ?_ ?_
  · (repeat (first | exact Sub.nil | refine Sub.cons rfl ?_))
  · intro w' h
    dsimp only
    rw [List.append_nil]
    exact h.bagNil
  · exact ⟨Nat.zero_le _, hl, rfl⟩
  · rintro ⟨i, ns⟩ ⟨hi, hi4, hns⟩
    dsimp only at hi hi4 hns ⊢
    have hnl : ns.length = i := by have := congrArg List.length hns; simpa [Nat.min_eq_left hi] using this
    by_cases hlt : i < ps.length
    · obtain ⟨x, hx⟩ := some_of_lt (l := ps) (i := i) hlt
      have e0 : (ps.flatMap pE)[i * 1]? = some (pV x) := enc_at pE_len hx (j := 0) (by decide)
      refine T.part (M' := [bag (ns.map bP), nO b c, chA c (l ++ ns)]) (by (repeat (first | exact Part.nil | refine Part.p0 ?_ | refine Part.p1 ?_ | refine Part.p2 ?_ | refine Part.p3 ?_ | refine Part.p4 ?_ | refine Part.p5 ?_ | refine Part.p6 ?_))) ?_
      by_cases hroom : l.length + i < 4096
      · repeat' (first
          | ((with_reducible refine is_load ?_); (first | ((refine' ⟨_, Yl_load_hp rfl ?q1 (fun w hp => hp.rd ha haR) ?q2, ?_⟩); (case q1 => exact one_of rfl); (case q2 => assumption))))
          | ((with_reducible refine ie_callf ?_); (first | ((with_reducible refine g_call 21 ?_); (first | ((refine' Ef_callP rfl rfl ent_21 (fun w hp => none1_v b c w (hp.blkOf ?q1)) ?_); (case q1 => (repeat (first | exact .head _ | apply List.Mem.tail)))))) | ((with_reducible refine g_call 23 ?_); (first | (refine Ef_callN rfl rfl ent_23 (fun w hp => clone_c x w (hp.rd (hin x (mem_of_some hx)) (hinR x (mem_of_some hx))) (h5 x (mem_of_some hx))) ?_; rintro ⟨A1, c1⟩))) | ((with_reducible refine g_call 22 ?_); (first | ((refine' Ef_callT [false, false, true, true] rfl rfl ent_22 rfl rfl rfl (fun w hp => put_c b c w _ (l ++ ns) (x.1, (A1, c1)) hp ?q1) ?_); (case q1 => rw [List.length_append]; omega)) | ((refine' Ef_callT [false, false, true, true] rfl rfl ent_22 rfl rfl rfl (fun w hp => putF_c b c w _ (l ++ ns) (x.1, (A1, c1)) hp ?q1) ?_); (case q1 => rw [List.length_append]; omega))))))
          | (first | ((((refine' Ef_appG_row (xs := ls.flatMap pE) (news := [pV (x.1, (A1, c1))]) rfl rfl rfl ?q1 ?q2 ?q3 (pE_one (x.1, (A1, c1))) ?q4 ?q5 ?_); (case q1 => exact app_of rfl); (case q2 => (first | exact at0 | exact at1 | exact at2 | exact at3 | exact at4 | exact at5 | exact at6)); (case q3 => (repeat (first | exact .head _ | apply List.Mem.tail))); (case q4 => omega); (case q5 => omega))); (first | ((fail_if_success have := A1); intro A1 c1) | intro _ _)))
          | ((with_reducible refine g_draw ?_); (first | (((refine' T.drawB (id := 6) (.y 0 (.y 1 (.y 2 (.y 3 (.y 5 (.y 6 (.y 7 (.y 8 (.b 4 (.run [(9, false), (10, false), (11, false), (12, false), (13, false), (14, false)]) 9 (.b 4 (.run [(10, false), (11, false), (12, false), (13, false), (14, false)]) 10 (.run [(4, false), (11, false), (12, false), (13, false), (14, false)]))))))))))) [] mixd ?q1 ?q2 ?_); (case q1 => kernel_rfl); (case q2 => (repeat (first | exact List.nil_sublist _ | refine List.Sublist.cons_cons _ ?_ | refine List.Sublist.cons _ ?_)))))))
          | refine w1 ?_
          | (refine w2 ?_ ?_ <;> intro hc)
          | (refine w4 ?_; (intro _))
          | (refine w5 ?_; (first | ((fail_if_success have := A1); intro A1 c1) | intro _ _))
          | refine w3 ?_ ?_
          | fail_if_success skip)
        refine loopH_n (i + 1, ns ++ [(x.1, (A1, c1))]) ?_ (fun w' h => ?_) ⟨show i + 1 ≤ _ by omega, show l.length + (i + 1) ≤ 4096 by omega, by dsimp only; rw [take_snoc hx, List.map_append, List.map_append, hns]; rfl⟩ (show ps.length - (i + 1) < ps.length - i by omega)
        · (repeat (first | exact Sub.nil | refine Sub.cons rfl ?_))
        · dsimp only
          rw [List.map_append, ← List.append_assoc]
          exact ((h.ofPart (M' := [bP (x.1, (A1, c1)), bag (ns.map bP), nO b c, chA c (l ++ ns ++ [(x.1, (A1, c1))])]) (by (repeat (first | exact Part.nil | refine Part.p0 ?_ | refine Part.p1 ?_ | refine Part.p2 ?_ | refine Part.p3 ?_ | refine Part.p4 ?_ | refine Part.p5 ?_ | refine Part.p6 ?_)))).bagAdd)
      · have hc4 : cod l.length ps.length = 4 := if_neg (by omega)
        rw [hc4]
        repeat' (first
            | ((with_reducible refine is_load ?_); (first | ((refine' ⟨_, Yl_load_hp rfl ?q1 (fun w hp => hp.rd ha haR) ?q2, ?_⟩); (case q1 => exact one_of rfl); (case q2 => assumption))))
            | ((with_reducible refine ie_callf ?_); (first | ((with_reducible refine g_call 21 ?_); (first | ((refine' Ef_callP rfl rfl ent_21 (fun w hp => none1_v b c w (hp.blkOf ?q1)) ?_); (case q1 => (repeat (first | exact .head _ | apply List.Mem.tail)))))) | ((with_reducible refine g_call 23 ?_); (first | (refine Ef_callN rfl rfl ent_23 (fun w hp => clone_c x w (hp.rd (hin x (mem_of_some hx)) (hinR x (mem_of_some hx))) (h5 x (mem_of_some hx))) ?_; rintro ⟨A1, c1⟩))) | ((with_reducible refine g_call 22 ?_); (first | ((refine' Ef_callT [false, false, true, true] rfl rfl ent_22 rfl rfl rfl (fun w hp => put_c b c w _ (l ++ ns) (x.1, (A1, c1)) hp ?q1) ?_); (case q1 => rw [List.length_append]; omega)) | ((refine' Ef_callT [false, false, true, true] rfl rfl ent_22 rfl rfl rfl (fun w hp => putF_c b c w _ (l ++ ns) (x.1, (A1, c1)) hp ?q1) ?_); (case q1 => rw [List.length_append]; omega))))))
            | (first | ((((refine' Ef_appG_row (xs := ls.flatMap pE) (news := [pV (x.1, (A1, c1))]) rfl rfl rfl ?q1 ?q2 ?q3 (pE_one (x.1, (A1, c1))) ?q4 ?q5 ?_); (case q1 => exact app_of rfl); (case q2 => (first | exact at0 | exact at1 | exact at2 | exact at3 | exact at4 | exact at5 | exact at6)); (case q3 => (repeat (first | exact .head _ | apply List.Mem.tail))); (case q4 => omega); (case q5 => omega))); (first | ((fail_if_success have := A1); intro A1 c1) | intro _ _)))
            | ((with_reducible refine g_draw ?_); (first | (((refine' T.drawB (id := 6) (.y 0 (.y 1 (.y 2 (.y 3 (.y 5 (.y 6 (.y 7 (.y 8 (.b 4 (.run [(9, false), (10, false), (11, false), (12, false), (13, false), (14, false)]) 9 (.b 4 (.run [(10, false), (11, false), (12, false), (13, false), (14, false)]) 10 (.run [(4, false), (11, false), (12, false), (13, false), (14, false)]))))))))))) [] mixd ?q1 ?q2 ?_); (case q1 => kernel_rfl); (case q2 => (repeat (first | exact List.nil_sublist _ | refine List.Sublist.cons_cons _ ?_ | refine List.Sublist.cons _ ?_)))))))
            | refine w1 ?_
            | (refine w2 ?_ ?_ <;> intro hc)
            | (refine w4 ?_; (intro _))
            | (refine w5 ?_; (first | ((fail_if_success have := A1); intro A1 c1) | intro _ _))
            | refine w3 ?_ ?_
            | fail_if_success skip)
        exact ret_n [nO b c, chA c (l ++ ns), bag (ns.map bP)] (res1 rfl rfl) (by (repeat (first | exact List.nil_sublist _ | refine List.Sublist.cons_cons _ ?_ | refine List.Sublist.cons _ ?_))) ⟨ns, by rw [show 4096 - l.length = i by omega]; exact hns, rfl, .inl rfl⟩
    · have hc0 : cod l.length ps.length = 0 := if_pos (by omega)
      rw [List.take_of_length_le (by omega)] at hns
      rw [hc0, take_room (by omega)]
      repeat' (first
          | ((with_reducible refine is_load ?_); (first | ((refine' ⟨_, Yl_load_hp rfl ?q1 (fun w hp => hp.rd ha haR) ?q2, ?_⟩); (case q1 => exact one_of rfl); (case q2 => assumption))))
          | ((with_reducible refine ie_callf ?_); (first | ((with_reducible refine g_call 21 ?_); (first | ((refine' Ef_callP rfl rfl ent_21 (fun w hp => none1_v b c w (hp.blkOf ?q1)) ?_); (case q1 => (repeat (first | exact .head _ | apply List.Mem.tail)))))) | ((with_reducible refine g_call 23 ?_); (first | (refine Ef_callN rfl rfl ent_23 (fun w hp => clone_c x w (hp.rd (hin x (mem_of_some hx)) (hinR x (mem_of_some hx))) (h5 x (mem_of_some hx))) ?_; rintro ⟨A1, c1⟩))) | ((with_reducible refine g_call 22 ?_); (first | ((refine' Ef_callT [false, false, true, true] rfl rfl ent_22 rfl rfl rfl (fun w hp => put_c b c w _ (l ++ ns) (x.1, (A1, c1)) hp ?q1) ?_); (case q1 => rw [List.length_append]; omega)) | ((refine' Ef_callT [false, false, true, true] rfl rfl ent_22 rfl rfl rfl (fun w hp => putF_c b c w _ (l ++ ns) (x.1, (A1, c1)) hp ?q1) ?_); (case q1 => rw [List.length_append]; omega))))))
          | (first | ((((refine' Ef_appG_row (xs := ls.flatMap pE) (news := [pV (x.1, (A1, c1))]) rfl rfl rfl ?q1 ?q2 ?q3 (pE_one (x.1, (A1, c1))) ?q4 ?q5 ?_); (case q1 => exact app_of rfl); (case q2 => (first | exact at0 | exact at1 | exact at2 | exact at3 | exact at4 | exact at5 | exact at6)); (case q3 => (repeat (first | exact .head _ | apply List.Mem.tail))); (case q4 => omega); (case q5 => omega))); (first | ((fail_if_success have := A1); intro A1 c1) | intro _ _)))
          | ((with_reducible refine g_draw ?_); (first | (((refine' T.drawB (id := 6) (.y 0 (.y 1 (.y 2 (.y 3 (.y 5 (.y 6 (.y 7 (.y 8 (.b 4 (.run [(9, false), (10, false), (11, false), (12, false), (13, false), (14, false)]) 9 (.b 4 (.run [(10, false), (11, false), (12, false), (13, false), (14, false)]) 10 (.run [(4, false), (11, false), (12, false), (13, false), (14, false)]))))))))))) [] mixd ?q1 ?q2 ?_); (case q1 => kernel_rfl); (case q2 => (repeat (first | exact List.nil_sublist _ | refine List.Sublist.cons_cons _ ?_ | refine List.Sublist.cons _ ?_)))))))
          | refine w1 ?_
          | (refine w2 ?_ ?_ <;> intro hc)
          | (refine w4 ?_; (intro _))
          | (refine w5 ?_; (first | ((fail_if_success have := A1); intro A1 c1) | intro _ _))
          | refine w3 ?_ ?_
          | fail_if_success skip)
      exact ret_n [bag (ns.map bP), nO b c, chA c (l ++ ns)] (res1 rfl rfl) (by (repeat (first | exact List.nil_sublist _ | refine List.Sublist.cons_cons _ ?_ | refine List.Sublist.cons _ ?_))) ⟨ns, hns, rfl, .inr rfl⟩
set_option maxHeartbeats 4000000 in
theorem rsendG_c (z : Hd) (hp : Hp w R (yL b z l) w) : Sp Try.prog 29 [.pointer (some ⟨b, 0, none⟩), .slice A ps.length cap] w R fun v N => ∃ y : Hd × List Pk, y.2.map (·.1) = l.map (·.1) ++ (ps.take (4096 - l.length)).map (·.1) ∧ v = .int .i64 (cod l.length ps.length) ∧ N = yL b y.1 y.2 := by
  refine Sp.enter (n := 32) Try.func29 rfl rfl rfl hp ?_
  repeat' (first
      | ((with_reducible refine is_load ?_); (first | ((refine' ⟨_, Yl_load_hp rfl ?q1 (fun w hp => hp.rd ha haR) ?q2, ?_⟩); (case q1 => exact one_of rfl); (case q2 => assumption))))
      | ((with_reducible refine ie_store ?_); (first | ((refine' Ef_storeC (C' := nrC (.slice A2 (ls.length + 1) c2)) rfl rfl ?q1 ?q2 ?q3 ?q4 ?q5 ?_); (case q1 => rfl); (case q2 => exact siz_of rfl); (case q3 => (first | exact at0 | exact at1 | exact at2 | exact at3 | exact at4 | exact at5 | exact at6)); (case q4 => exact Nat.le_of_ble_eq_true rfl); (case q5 => rfl))))
      | ((with_reducible refine ie_callf ?_); (first    | ((with_reducible refine g_call 28 ?_); (first | (refine Ef_callN rfl rfl ent_28 (fun w hp => copy_c x w (hp.rd (hin x (mem_of_some hx)) (hinR x (mem_of_some hx))) (h5 x (mem_of_some hx))) ?_; rintro ⟨A1, c1⟩)))))
      | (first | ((((refine' Ef_appG_row (xs := ls.flatMap pE) (news := [pV (x.1, (A1, c1))]) rfl rfl rfl ?q1 ?q2 ?q3 (pE_one (x.1, (A1, c1))) ?q4 ?q5 ?_); (case q1 => exact app_of rfl); (case q2 => (first | exact at0 | exact at1 | exact at2 | exact at3 | exact at4 | exact at5 | exact at6)); (case q3 => (repeat (first | exact .head _ | apply List.Mem.tail))); (case q4 => omega); (case q5 => omega))); (first | ((fail_if_success have := A1); intro A1 c1) | ((fail_if_success have := A2); intro A2 c2) | intro _ _)))
      | ((with_reducible refine g_draw ?_); (first | (((refine' T.drawB (id := 6) (.y 0 (.y 1 (.y 2 (.y 3 (.y 5 (.y 6 (.y 7 (.y 8 (.b 4 (.run [(9, false), (10, false), (11, false), (12, false), (13, false), (14, false)]) 9 (.b 4 (.run [(10, false), (11, false), (12, false), (13, false), (14, false)]) 10 (.run [(4, false), (11, false), (12, false), (13, false), (14, false)]))))))))))) [] mixd ?q1 ?q2 ?_); (case q1 => kernel_rfl); (case q2 => (repeat (first | exact List.nil_sublist _ | refine List.Sublist.cons_cons _ ?_ | refine List.Sublist.cons _ ?_)))))))
      | refine w1 ?_
      | (refine w2 ?_ ?_ <;> intro hc)
      | (refine w4 ?_; (intro _))
      | (refine w5 ?_; (first | ((fail_if_success have := A1); intro A1 c1) | ((fail_if_success have := A2); intro A2 c2) | intro _ _))
      | refine w3 ?_ ?_
      | fail_if_success skip)
  refine T.loopM (α := Nat × Hd × List Pk) (fun y => [(0, .pointer (some ⟨b, 0, none⟩)), (1, .slice A ps.length cap), (5, .int .i64 (y.1 : Int))]) (fun y => yL b y.2.1 y.2.2) (fun y => y.1 ≤ ps.length ∧ l.length + y.1 ≤ 4096 ∧ y.2.2.map (·.1) = l.map (·.1) ++ (ps.take y.1).map (·.1)) (fun y => ps.length - y.1) (0, z, l) ?_ ?_ ?_ ?_
  · (repeat (first | exact Sub.nil | refine Sub.cons rfl ?_))
  · exact fun _ h => h
  · exact ⟨Nat.zero_le _, hl, by simp⟩
  · rintro ⟨i, ⟨A0, c0⟩, ls⟩ ⟨hi, hi4, hls⟩
    dsimp only at hi hi4 hls ⊢
    have hll : ls.length = l.length + i := by have := congrArg List.length hls; simpa [Nat.min_eq_left hi] using this
    by_cases hlt : i < ps.length
    · obtain ⟨x, hx⟩ := some_of_lt (l := ps) (i := i) hlt
      have e0 : (ps.flatMap pE)[i * 1]? = some (pV x) := enc_at pE_len hx (j := 0) (by decide)
      by_cases hroom : l.length + i < 4096
      · repeat' (first
          | ((with_reducible refine is_load ?_); (first | ((refine' ⟨_, Yl_load_hp rfl ?q1 (fun w hp => hp.rd ha haR) ?q2, ?_⟩); (case q1 => exact one_of rfl); (case q2 => assumption))))
          | ((with_reducible refine ie_store ?_); (first | ((refine' Ef_storeC (C' := nrC (.slice A2 (ls.length + 1) c2)) rfl rfl ?q1 ?q2 ?q3 ?q4 ?q5 ?_); (case q1 => rfl); (case q2 => exact siz_of rfl); (case q3 => (first | exact at0 | exact at1 | exact at2 | exact at3 | exact at4 | exact at5 | exact at6)); (case q4 => exact Nat.le_of_ble_eq_true rfl); (case q5 => rfl))))
          | ((with_reducible refine ie_callf ?_); (first    | ((with_reducible refine g_call 28 ?_); (first | (refine Ef_callN rfl rfl ent_28 (fun w hp => copy_c x w (hp.rd (hin x (mem_of_some hx)) (hinR x (mem_of_some hx))) (h5 x (mem_of_some hx))) ?_; rintro ⟨A1, c1⟩)))))
          | (first | ((((refine' Ef_appG_row (xs := ls.flatMap pE) (news := [pV (x.1, (A1, c1))]) rfl rfl rfl ?q1 ?q2 ?q3 (pE_one (x.1, (A1, c1))) ?q4 ?q5 ?_); (case q1 => exact app_of rfl); (case q2 => (first | exact at0 | exact at1 | exact at2 | exact at3 | exact at4 | exact at5 | exact at6)); (case q3 => (repeat (first | exact .head _ | apply List.Mem.tail))); (case q4 => omega); (case q5 => omega))); (first | ((fail_if_success have := A1); intro A1 c1) | ((fail_if_success have := A2); intro A2 c2) | intro _ _)))
          | ((with_reducible refine g_draw ?_); (first | (((refine' T.drawB (id := 6) (.y 0 (.y 1 (.y 2 (.y 3 (.y 5 (.y 6 (.y 7 (.y 8 (.b 4 (.run [(9, false), (10, false), (11, false), (12, false), (13, false), (14, false)]) 9 (.b 4 (.run [(10, false), (11, false), (12, false), (13, false), (14, false)]) 10 (.run [(4, false), (11, false), (12, false), (13, false), (14, false)]))))))))))) [] mixd ?q1 ?q2 ?_); (case q1 => kernel_rfl); (case q2 => (repeat (first | exact List.nil_sublist _ | refine List.Sublist.cons_cons _ ?_ | refine List.Sublist.cons _ ?_)))))))
          | refine w1 ?_
          | (refine w2 ?_ ?_ <;> intro hc)
          | (refine w4 ?_; (intro _))
          | (refine w5 ?_; (first | ((fail_if_success have := A1); intro A1 c1) | ((fail_if_success have := A2); intro A2 c2) | intro _ _))
          | refine w3 ?_ ?_
          | fail_if_success skip)
        all_goals
          refine loopH_n (i + 1, (A2, c2), ls ++ [(x.1, (A1, c1))]) ?_ (fun w' h => ?_) ⟨show i + 1 ≤ _ by omega, show l.length + (i + 1) ≤ 4096 by omega, by dsimp only; rw [take_snoc hx, List.map_append, List.map_append, hls, List.append_assoc]; rfl⟩ (show ps.length - (i + 1) < ps.length - i by omega)
          · (repeat (first | exact Sub.nil | refine Sub.cons rfl ?_))
          · have h3 := (h.ofPart (M' := [bP (x.1, (A1, c1)), bag (ls.map bP), .blk b (.cells (nrC (.slice A2 (ls.length + 1) c2)) 45 (0, 0)), .row 38 1 (.slice A2 (ls.length + 1) c2) (ls.length + 1) (ls.flatMap pE ++ [pV (x.1, (A1, c1))])]) (by (repeat (first | exact Part.nil | refine Part.p0 ?_ | refine Part.p1 ?_ | refine Part.p2 ?_ | refine Part.p3 ?_ | refine Part.p4 ?_ | refine Part.p5 ?_ | refine Part.p6 ?_)))).bagAdd
            dsimp only [yL]
            rw [List.length_append, pE_snoc, List.map_append]
            exact h3.ofPart (by (repeat (first | exact Part.nil | refine Part.p0 ?_ | refine Part.p1 ?_ | refine Part.p2 ?_ | refine Part.p3 ?_ | refine Part.p4 ?_ | refine Part.p5 ?_ | refine Part.p6 ?_)))
      · have hc4 : cod l.length ps.length = 4 := if_neg (by omega)
        rw [hc4, show 4096 - l.length = i by omega]
        repeat' (first
            | ((with_reducible refine is_load ?_); (first | ((refine' ⟨_, Yl_load_hp rfl ?q1 (fun w hp => hp.rd ha haR) ?q2, ?_⟩); (case q1 => exact one_of rfl); (case q2 => assumption))))
            | ((with_reducible refine ie_store ?_); (first | ((refine' Ef_storeC (C' := nrC (.slice A2 (ls.length + 1) c2)) rfl rfl ?q1 ?q2 ?q3 ?q4 ?q5 ?_); (case q1 => rfl); (case q2 => exact siz_of rfl); (case q3 => (first | exact at0 | exact at1 | exact at2 | exact at3 | exact at4 | exact at5 | exact at6)); (case q4 => exact Nat.le_of_ble_eq_true rfl); (case q5 => rfl))))
            | ((with_reducible refine ie_callf ?_); (first    | ((with_reducible refine g_call 28 ?_); (first | (refine Ef_callN rfl rfl ent_28 (fun w hp => copy_c x w (hp.rd (hin x (mem_of_some hx)) (hinR x (mem_of_some hx))) (h5 x (mem_of_some hx))) ?_; rintro ⟨A1, c1⟩)))))
            | (first | ((((refine' Ef_appG_row (xs := ls.flatMap pE) (news := [pV (x.1, (A1, c1))]) rfl rfl rfl ?q1 ?q2 ?q3 (pE_one (x.1, (A1, c1))) ?q4 ?q5 ?_); (case q1 => exact app_of rfl); (case q2 => (first | exact at0 | exact at1 | exact at2 | exact at3 | exact at4 | exact at5 | exact at6)); (case q3 => (repeat (first | exact .head _ | apply List.Mem.tail))); (case q4 => omega); (case q5 => omega))); (first | ((fail_if_success have := A1); intro A1 c1) | ((fail_if_success have := A2); intro A2 c2) | intro _ _)))
            | ((with_reducible refine g_draw ?_); (first | (((refine' T.drawB (id := 6) (.y 0 (.y 1 (.y 2 (.y 3 (.y 5 (.y 6 (.y 7 (.y 8 (.b 4 (.run [(9, false), (10, false), (11, false), (12, false), (13, false), (14, false)]) 9 (.b 4 (.run [(10, false), (11, false), (12, false), (13, false), (14, false)]) 10 (.run [(4, false), (11, false), (12, false), (13, false), (14, false)]))))))))))) [] mixd ?q1 ?q2 ?_); (case q1 => kernel_rfl); (case q2 => (repeat (first | exact List.nil_sublist _ | refine List.Sublist.cons_cons _ ?_ | refine List.Sublist.cons _ ?_)))))))
            | refine w1 ?_
            | (refine w2 ?_ ?_ <;> intro hc)
            | (refine w4 ?_; (intro _))
            | (refine w5 ?_; (first | ((fail_if_success have := A1); intro A1 c1) | ((fail_if_success have := A2); intro A2 c2) | intro _ _))
            | refine w3 ?_ ?_
            | fail_if_success skip)
        exact ret_n (yL b (A0, c0) ls) (res1 rfl rfl) (by (repeat (first | exact List.nil_sublist _ | refine List.Sublist.cons_cons _ ?_ | refine List.Sublist.cons _ ?_))) ⟨((A0, c0), ls), hls, rfl, rfl⟩
    · have hc0 : cod l.length ps.length = 0 := if_pos (by omega)
      rw [List.take_of_length_le (by omega)] at hls
      rw [hc0, take_room (by omega)]
      repeat' (first
          | ((with_reducible refine is_load ?_); (first | ((refine' ⟨_, Yl_load_hp rfl ?q1 (fun w hp => hp.rd ha haR) ?q2, ?_⟩); (case q1 => exact one_of rfl); (case q2 => assumption))))
          | ((with_reducible refine ie_store ?_); (first | ((refine' Ef_storeC (C' := nrC (.slice A2 (ls.length + 1) c2)) rfl rfl ?q1 ?q2 ?q3 ?q4 ?q5 ?_); (case q1 => rfl); (case q2 => exact siz_of rfl); (case q3 => (first | exact at0 | exact at1 | exact at2 | exact at3 | exact at4 | exact at5 | exact at6)); (case q4 => exact Nat.le_of_ble_eq_true rfl); (case q5 => rfl))))
          | ((with_reducible refine ie_callf ?_); (first    | ((with_reducible refine g_call 28 ?_); (first | (refine Ef_callN rfl rfl ent_28 (fun w hp => copy_c x w (hp.rd (hin x (mem_of_some hx)) (hinR x (mem_of_some hx))) (h5 x (mem_of_some hx))) ?_; rintro ⟨A1, c1⟩)))))
          | (first | ((((refine' Ef_appG_row (xs := ls.flatMap pE) (news := [pV (x.1, (A1, c1))]) rfl rfl rfl ?q1 ?q2 ?q3 (pE_one (x.1, (A1, c1))) ?q4 ?q5 ?_); (case q1 => exact app_of rfl); (case q2 => (first | exact at0 | exact at1 | exact at2 | exact at3 | exact at4 | exact at5 | exact at6)); (case q3 => (repeat (first | exact .head _ | apply List.Mem.tail))); (case q4 => omega); (case q5 => omega))); (first | ((fail_if_success have := A1); intro A1 c1) | ((fail_if_success have := A2); intro A2 c2) | intro _ _)))
          | ((with_reducible refine g_draw ?_); (first | (((refine' T.drawB (id := 6) (.y 0 (.y 1 (.y 2 (.y 3 (.y 5 (.y 6 (.y 7 (.y 8 (.b 4 (.run [(9, false), (10, false), (11, false), (12, false), (13, false), (14, false)]) 9 (.b 4 (.run [(10, false), (11, false), (12, false), (13, false), (14, false)]) 10 (.run [(4, false), (11, false), (12, false), (13, false), (14, false)]))))))))))) [] mixd ?q1 ?q2 ?_); (case q1 => kernel_rfl); (case q2 => (repeat (first | exact List.nil_sublist _ | refine List.Sublist.cons_cons _ ?_ | refine List.Sublist.cons _ ?_)))))))
          | refine w1 ?_
          | (refine w2 ?_ ?_ <;> intro hc)
          | (refine w4 ?_; (intro _))
          | (refine w5 ?_; (first | ((fail_if_success have := A1); intro A1 c1) | ((fail_if_success have := A2); intro A2 c2) | intro _ _))
          | refine w3 ?_ ?_
          | fail_if_success skip)
      exact ret_n (yL b (A0, c0) ls) (res1 rfl rfl) (by (repeat (first | exact List.nil_sublist _ | refine List.Sublist.cons_cons _ ?_ | refine List.Sublist.cons _ ?_))) ⟨((A0, c0), ls), hls, rfl, rfl⟩
end
end Go.Proofs.Ytdbpnolpgkcjiaa
