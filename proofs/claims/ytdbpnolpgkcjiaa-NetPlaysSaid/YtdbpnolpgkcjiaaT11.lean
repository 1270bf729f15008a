/- The document's Send, Take, Double: what a call of each comes to. -/
import Derived.Test.YtdbpnolpgkcjiaaT5
import Derived.Test.YtdbpnolpgkcjiaaT4
namespace Go.Proofs.Ytdbpnolpgkcjiaa
open Go.RowKit Go.Conc

/-- What the document's net holds. -/
abbrev yL (b : Nat) (z : Hd) (l : List Pk) : List Asrt := [yO b z l.length, .row 38 1 (.slice z.1 l.length z.2) l.length (l.flatMap pE), bag (l.map bP)]
theorem pEs_one (l : List Pk) : ∀ u ∈ l.flatMap pE, u.oneCell' = true := fun u hu => by
  obtain ⟨p, _, hp⟩ := List.mem_flatMap.1 hu
  exact pE_one p u hp
theorem cap_row {w : World} {e k m cap : Nat} {A : Option Addr} {xs : List Value} (h : w.ownsRow 0 e k (.slice A m cap) m xs) : m ≤ cap := by
  rcases h.2 with ⟨hv, h0⟩ | ⟨g, cap', cur, hv, h1, h2, h3, h4, h5, h6⟩
  · omega
  · injection hv with e1 e2 e3
    omega
theorem Yl_sl_1 {P : Program} {n : Nat} {w0 : World} {R : List Nat} {L : List (Nat × Value)} {M : List Asrt} {t ty : TypeId} {x : Operand} {e k len cap l : Nat} {A : Option Addr} {kd kd' : IntKind} {lo hi : Operand} (hx : evl L x = some (.slice A len cap)) (hl : evl L lo = some (.int kd' (l : Int))) (hh : evl L hi = some (.int kd ((l + 1 : Nat) : Int))) (ht : P.underlying t = some (.slice e)) (hs : sizT P e = some k) (h1 : l + 1 ≤ cap) :
    Yl P n w0 R (.slice t x (some lo) (some hi) none) ty L M (.slice (subA A cap l k) 1 (cap - l)) := by
  have := Yl_sl_lh (n := n) (w0 := w0) (R := R) (M := M) (ty := ty) hx hl hh ht hs (Nat.le_succ l) h1
  rwa [Nat.add_sub_cancel_left] at this

section
variable (b : Nat) (z : Hd) (l : List Pk) (w : World) (R : List Nat) (hp : Hp w R (yL b z l) w)
include hp
section
variable (A : Option Addr) (cap : Nat) (ps : List Pk) (ha : Rd w A ps.length 1 (ps.flatMap pE)) (haR : 0 < ps.length → (adr A).block ∉ R) (hin : Ins w ps) (hinR : ∀ p ∈ ps, 0 < p.1.length → (adr p.2.1).block ∉ R) (h5 : ∀ p ∈ ps, p.1.length ≤ 140737488355328)
include ha haR hin hinR h5
set_option maxHeartbeats 4000000 in
theorem rsend_c (hroom : l.length + ps.length ≤ 4096) : Sp Try.prog 29 [.pointer (some ⟨b, 0, none⟩), .slice A ps.length cap] w R fun v N => ∃ y : Hd × List Pk, y.2.map (·.1) = l.map (·.1) ++ ps.map (·.1) ∧ v = .int .i64 0 ∧ N = yL b y.1 y.2 := by
  refine Sp.enter (n := 32) Try.func29 rfl rfl rfl hp ?_
  repeat' (first
      | ((with_reducible refine is_load ?_); (first | ((refine' ⟨_, Yl_load_hp rfl ?q1 (fun w hp => hp.rd ha haR) ?q2, ?_⟩); (case q1 => exact one_of rfl); (case q2 => assumption)) | ((refine' ⟨_, Yl_load_hp rfl ?q1 (fun w hp => hsub w (hp.rowOf ?q2)) ?q3, ?_⟩); (case q1 => exact one_of rfl); (case q2 => (repeat (first | exact .head _ | apply List.Mem.tail))); (case q3 => assumption)) | ((refine' ⟨_, Yl_load_row rfl ?q1 ?q2 eP, ?_⟩); (case q1 => exact one_of rfl); (case q2 => (repeat (first | exact .head _ | apply List.Mem.tail))))))
      | ((with_reducible refine ie_store ?_); (first | ((refine' Ef_storeC (C' := nrC (.slice A2 (ls.length + 1) c2)) rfl rfl ?q1 ?q2 ?q3 ?q4 ?q5 ?_); (case q1 => rfl); (case q2 => exact siz_of rfl); (case q3 => (first | exact at0 | exact at1 | exact at2 | exact at3 | exact at4 | exact at5 | exact at6)); (case q4 => exact Nat.le_of_ble_eq_true rfl); (case q5 => rfl)) | ((refine' Ef_storeC (C' := nrC (.slice A2 (p + (l.length - (p + 1))) c2)) rfl rfl ?q1 ?q2 ?q3 ?q4 ?q5 ?_); (case q1 => rfl); (case q2 => exact siz_of rfl); (case q3 => (first | exact at0 | exact at1 | exact at2 | exact at3 | exact at4 | exact at5 | exact at6)); (case q4 => exact Nat.le_of_ble_eq_true rfl); (case q5 => rfl))))
      | ((with_reducible refine ie_callf ?_); (first | ((with_reducible refine g_call 28 ?_); (first | (refine Ef_callN rfl rfl ent_28 (fun w hp => copy_c x w (hp.rd (hin x (mem_of_some hx)) (hinR x (mem_of_some hx))) (h5 x (mem_of_some hx))) ?_; rintro ⟨A1, c1⟩) | (((refine' Ef_callN rfl rfl ent_28 (fun w hp => copy_c x0 w (hp.ins_bag (ps := l) ?q1 x0 hxm) h5) ?_); (case q1 => (repeat (first | exact .head _ | apply List.Mem.tail)))); rintro ⟨A1, c1⟩)))))
      | (first
      | ((((refine' Ef_appG_row (xs := ls.flatMap pE) (news := [pV (x.1, (A1, c1))]) rfl rfl rfl ?q1 ?q2 ?q3 (pE_one (x.1, (A1, c1))) ?q4 ?q5 ?_); (case q1 => exact app_of rfl); (case q2 => (first | exact at0 | exact at1 | exact at2 | exact at3 | exact at4 | exact at5 | exact at6)); (case q3 => (repeat (first | exact .head _ | apply List.Mem.tail))); (case q4 => omega); (case q5 => omega))); (first | ((fail_if_success have := A1); intro A1 c1) | ((fail_if_success have := A2); intro A2 c2) | intro _ _))
      | ((((refine' Ef_appG_row (xs := ls.flatMap pE) (news := [pV (x0.1, (A1, c1))]) rfl rfl rfl ?q1 ?q2 ?q3 (pE_one (x0.1, (A1, c1))) ?q4 ?q5 ?_); (case q1 => exact app_of rfl); (case q2 => (first | exact at0 | exact at1 | exact at2 | exact at3 | exact at4 | exact at5 | exact at6)); (case q3 => (repeat (first | exact .head _ | apply List.Mem.tail))); (case q4 => omega); (case q5 => omega))); (first | ((fail_if_success have := A1); intro A1 c1) | ((fail_if_success have := A2); intro A2 c2) | intro _ _))
      | ((((refine' Ef_app0G (news := (l.take p).flatMap pE) rfl rfl rfl ?q1 ?q2 (fun w hp => (hp.rowOf (xs := l.flatMap pE) ?q3).upto pE_len ?q4) (pEs_one _) ?q5 ?q6 ?_); (case q1 => exact app_of rfl); (case q2 => (first | exact at0 | exact at1 | exact at2 | exact at3 | exact at4 | exact at5 | exact at6)); (case q3 => (repeat (first | exact .head _ | apply List.Mem.tail))); (case q4 => omega); (case q5 => omega); (case q6 => omega))); (first | ((fail_if_success have := A1); intro A1 c1) | ((fail_if_success have := A2); intro A2 c2) | intro _ _))
      | ((((refine' Ef_appendG (xs := (l.take p).flatMap pE) (news := (l.drop (p + 1)).flatMap pE) rfl rfl rfl ?q1 ?q2 (fun w hp => (hp.rowOf (xs := l.flatMap pE) ?q3).from_ pE_len rfl ?q4 hcap) (pEs_one _) ?q5 ?q6 ?_); (case q1 => exact app_of rfl); (case q2 => (first | exact at0 | exact at1 | exact at2 | exact at3 | exact at4 | exact at5 | exact at6)); (case q3 => (repeat (first | exact .head _ | apply List.Mem.tail))); (case q4 => omega); (case q5 => omega); (case q6 => omega))); (first | ((fail_if_success have := A1); intro A1 c1) | ((fail_if_success have := A2); intro A2 c2) | intro _ _)))
      | ((with_reducible refine g_draw ?_); (first | (((refine' T.drawB (id := 6) (.y 0 (.y 1 (.y 2 (.y 3 (.y 5 (.y 6 (.y 7 (.y 8 (.b 4 (.run [(9, false), (10, false), (11, false), (12, false), (13, false), (14, false)]) 9 (.b 4 (.run [(10, false), (11, false), (12, false), (13, false), (14, false)]) 10 (.run [(4, false), (11, false), (12, false), (13, false), (14, false)]))))))))))) [] mixd ?q1 ?q2 ?_); (case q1 => kernel_rfl); (case q2 => (repeat (first | exact List.nil_sublist _ | refine List.Sublist.cons_cons _ ?_ | refine List.Sublist.cons _ ?_)))))))
      | refine w1 ?_
      | (refine w2 ?_ ?_ <;> intro hc)
      | (first | ((refine' ⟨_, Yl_sl_h rfl rfl ?q1 ?q2 ?q3, ?_⟩); (case q1 => exact und_of rfl); (case q2 => exact siz_of rfl); (case q3 => omega)) | ((refine' ⟨_, Yl_sl_l (l := p + 1) rfl rfl ?q1 ?q2 ?q3, ?_⟩); (case q1 => exact und_of rfl); (case q2 => exact siz_of rfl); (case q3 => omega)) | ((refine' ⟨_, Yl_sl_1 (l := p) rfl rfl rfl ?q1 ?q2 ?q3, ?_⟩); (case q1 => exact und_of rfl); (case q2 => exact siz_of rfl); (case q3 => omega)))
      | (refine w4 ?_; (intro _))
      | (refine w5 ?_; (first | ((fail_if_success have := A1); intro A1 c1) | ((fail_if_success have := A2); intro A2 c2) | intro _ _))
      | refine w3 ?_ ?_
      | fail_if_success skip)
  refine T.loopM (α := Nat × Hd × List Pk) (fun y => [(0, .pointer (some ⟨b, 0, none⟩)), (1, .slice A ps.length cap), (5, .int .i64 (y.1 : Int))]) (fun y => yL b y.2.1 y.2.2) (fun y => y.1 ≤ ps.length ∧ y.2.2.map (·.1) = l.map (·.1) ++ (ps.take y.1).map (·.1)) (fun y => ps.length - y.1) (0, z, l) ?_ ?_ ?_ ?_
  · (repeat (first | exact Sub.nil | refine Sub.cons rfl ?_))
  · exact fun _ h => h
  · exact ⟨Nat.zero_le _, by simp⟩
  · rintro ⟨i, ⟨A0, c0⟩, ls⟩ ⟨hi, hls⟩
    dsimp only at hi hls ⊢
    have hll : ls.length = l.length + i := by have := congrArg List.length hls; simpa [Nat.min_eq_left hi] using this
    by_cases hlt : i < ps.length
    · obtain ⟨x, hx⟩ := some_of_lt (l := ps) (i := i) hlt
      have e0 : (ps.flatMap pE)[i * 1]? = some (pV x) := enc_at pE_len hx (j := 0) (by decide)
      repeat' (first
          | ((with_reducible refine is_load ?_); (first | ((refine' ⟨_, Yl_load_hp rfl ?q1 (fun w hp => hp.rd ha haR) ?q2, ?_⟩); (case q1 => exact one_of rfl); (case q2 => assumption)) | ((refine' ⟨_, Yl_load_hp rfl ?q1 (fun w hp => hsub w (hp.rowOf ?q2)) ?q3, ?_⟩); (case q1 => exact one_of rfl); (case q2 => (repeat (first | exact .head _ | apply List.Mem.tail))); (case q3 => assumption)) | ((refine' ⟨_, Yl_load_row rfl ?q1 ?q2 eP, ?_⟩); (case q1 => exact one_of rfl); (case q2 => (repeat (first | exact .head _ | apply List.Mem.tail))))))
          | ((with_reducible refine ie_store ?_); (first | ((refine' Ef_storeC (C' := nrC (.slice A2 (ls.length + 1) c2)) rfl rfl ?q1 ?q2 ?q3 ?q4 ?q5 ?_); (case q1 => rfl); (case q2 => exact siz_of rfl); (case q3 => (first | exact at0 | exact at1 | exact at2 | exact at3 | exact at4 | exact at5 | exact at6)); (case q4 => exact Nat.le_of_ble_eq_true rfl); (case q5 => rfl)) | ((refine' Ef_storeC (C' := nrC (.slice A2 (p + (l.length - (p + 1))) c2)) rfl rfl ?q1 ?q2 ?q3 ?q4 ?q5 ?_); (case q1 => rfl); (case q2 => exact siz_of rfl); (case q3 => (first | exact at0 | exact at1 | exact at2 | exact at3 | exact at4 | exact at5 | exact at6)); (case q4 => exact Nat.le_of_ble_eq_true rfl); (case q5 => rfl))))
          | ((with_reducible refine ie_callf ?_); (first | ((with_reducible refine g_call 28 ?_); (first | (refine Ef_callN rfl rfl ent_28 (fun w hp => copy_c x w (hp.rd (hin x (mem_of_some hx)) (hinR x (mem_of_some hx))) (h5 x (mem_of_some hx))) ?_; rintro ⟨A1, c1⟩) | (((refine' Ef_callN rfl rfl ent_28 (fun w hp => copy_c x0 w (hp.ins_bag (ps := l) ?q1 x0 hxm) h5) ?_); (case q1 => (repeat (first | exact .head _ | apply List.Mem.tail)))); rintro ⟨A1, c1⟩)))))
          | (first
          | ((((refine' Ef_appG_row (xs := ls.flatMap pE) (news := [pV (x.1, (A1, c1))]) rfl rfl rfl ?q1 ?q2 ?q3 (pE_one (x.1, (A1, c1))) ?q4 ?q5 ?_); (case q1 => exact app_of rfl); (case q2 => (first | exact at0 | exact at1 | exact at2 | exact at3 | exact at4 | exact at5 | exact at6)); (case q3 => (repeat (first | exact .head _ | apply List.Mem.tail))); (case q4 => omega); (case q5 => omega))); (first | ((fail_if_success have := A1); intro A1 c1) | ((fail_if_success have := A2); intro A2 c2) | intro _ _))
          | ((((refine' Ef_appG_row (xs := ls.flatMap pE) (news := [pV (x0.1, (A1, c1))]) rfl rfl rfl ?q1 ?q2 ?q3 (pE_one (x0.1, (A1, c1))) ?q4 ?q5 ?_); (case q1 => exact app_of rfl); (case q2 => (first | exact at0 | exact at1 | exact at2 | exact at3 | exact at4 | exact at5 | exact at6)); (case q3 => (repeat (first | exact .head _ | apply List.Mem.tail))); (case q4 => omega); (case q5 => omega))); (first | ((fail_if_success have := A1); intro A1 c1) | ((fail_if_success have := A2); intro A2 c2) | intro _ _))
          | ((((refine' Ef_app0G (news := (l.take p).flatMap pE) rfl rfl rfl ?q1 ?q2 (fun w hp => (hp.rowOf (xs := l.flatMap pE) ?q3).upto pE_len ?q4) (pEs_one _) ?q5 ?q6 ?_); (case q1 => exact app_of rfl); (case q2 => (first | exact at0 | exact at1 | exact at2 | exact at3 | exact at4 | exact at5 | exact at6)); (case q3 => (repeat (first | exact .head _ | apply List.Mem.tail))); (case q4 => omega); (case q5 => omega); (case q6 => omega))); (first | ((fail_if_success have := A1); intro A1 c1) | ((fail_if_success have := A2); intro A2 c2) | intro _ _))
          | ((((refine' Ef_appendG (xs := (l.take p).flatMap pE) (news := (l.drop (p + 1)).flatMap pE) rfl rfl rfl ?q1 ?q2 (fun w hp => (hp.rowOf (xs := l.flatMap pE) ?q3).from_ pE_len rfl ?q4 hcap) (pEs_one _) ?q5 ?q6 ?_); (case q1 => exact app_of rfl); (case q2 => (first | exact at0 | exact at1 | exact at2 | exact at3 | exact at4 | exact at5 | exact at6)); (case q3 => (repeat (first | exact .head _ | apply List.Mem.tail))); (case q4 => omega); (case q5 => omega); (case q6 => omega))); (first | ((fail_if_success have := A1); intro A1 c1) | ((fail_if_success have := A2); intro A2 c2) | intro _ _)))
          | ((with_reducible refine g_draw ?_); (first | (((refine' T.drawB (id := 6) (.y 0 (.y 1 (.y 2 (.y 3 (.y 5 (.y 6 (.y 7 (.y 8 (.b 4 (.run [(9, false), (10, false), (11, false), (12, false), (13, false), (14, false)]) 9 (.b 4 (.run [(10, false), (11, false), (12, false), (13, false), (14, false)]) 10 (.run [(4, false), (11, false), (12, false), (13, false), (14, false)]))))))))))) [] mixd ?q1 ?q2 ?_); (case q1 => kernel_rfl); (case q2 => (repeat (first | exact List.nil_sublist _ | refine List.Sublist.cons_cons _ ?_ | refine List.Sublist.cons _ ?_)))))))
          | refine w1 ?_
          | (refine w2 ?_ ?_ <;> intro hc)
          | (first | ((refine' ⟨_, Yl_sl_h rfl rfl ?q1 ?q2 ?q3, ?_⟩); (case q1 => exact und_of rfl); (case q2 => exact siz_of rfl); (case q3 => omega)) | ((refine' ⟨_, Yl_sl_l (l := p + 1) rfl rfl ?q1 ?q2 ?q3, ?_⟩); (case q1 => exact und_of rfl); (case q2 => exact siz_of rfl); (case q3 => omega)) | ((refine' ⟨_, Yl_sl_1 (l := p) rfl rfl rfl ?q1 ?q2 ?q3, ?_⟩); (case q1 => exact und_of rfl); (case q2 => exact siz_of rfl); (case q3 => omega)))
          | (refine w4 ?_; (intro _))
          | (refine w5 ?_; (first | ((fail_if_success have := A1); intro A1 c1) | ((fail_if_success have := A2); intro A2 c2) | intro _ _))
          | refine w3 ?_ ?_
          | fail_if_success skip)
      all_goals
        refine loopH_n (i + 1, (A2, c2), ls ++ [(x.1, (A1, c1))]) ?_ (fun w' h => ?_) ⟨show i + 1 ≤ _ by omega, by dsimp only; rw [take_snoc hx, List.map_append, List.map_append, hls, List.append_assoc]; rfl⟩ (show ps.length - (i + 1) < ps.length - i by omega)
        · (repeat (first | exact Sub.nil | refine Sub.cons rfl ?_))
        · have h3 := (h.ofPart (M' := [bP (x.1, (A1, c1)), bag (ls.map bP), .blk b (.cells (nrC (.slice A2 (ls.length + 1) c2)) 45 (0, 0)), .row 38 1 (.slice A2 (ls.length + 1) c2) (ls.length + 1) (ls.flatMap pE ++ [pV (x.1, (A1, c1))])]) (by (repeat (first | exact Part.nil | refine Part.p0 ?_ | refine Part.p1 ?_ | refine Part.p2 ?_ | refine Part.p3 ?_ | refine Part.p4 ?_ | refine Part.p5 ?_ | refine Part.p6 ?_)))).bagAdd
          dsimp only [yL]
          rw [List.length_append, pE_snoc, List.map_append]
          exact h3.ofPart (by (repeat (first | exact Part.nil | refine Part.p0 ?_ | refine Part.p1 ?_ | refine Part.p2 ?_ | refine Part.p3 ?_ | refine Part.p4 ?_ | refine Part.p5 ?_ | refine Part.p6 ?_)))
    · rw [List.take_of_length_le (by omega)] at hls
      repeat' (first
          | ((with_reducible refine is_load ?_); (first | ((refine' ⟨_, Yl_load_hp rfl ?q1 (fun w hp => hp.rd ha haR) ?q2, ?_⟩); (case q1 => exact one_of rfl); (case q2 => assumption)) | ((refine' ⟨_, Yl_load_hp rfl ?q1 (fun w hp => hsub w (hp.rowOf ?q2)) ?q3, ?_⟩); (case q1 => exact one_of rfl); (case q2 => (repeat (first | exact .head _ | apply List.Mem.tail))); (case q3 => assumption)) | ((refine' ⟨_, Yl_load_row rfl ?q1 ?q2 eP, ?_⟩); (case q1 => exact one_of rfl); (case q2 => (repeat (first | exact .head _ | apply List.Mem.tail))))))
          | ((with_reducible refine ie_store ?_); (first | ((refine' Ef_storeC (C' := nrC (.slice A2 (ls.length + 1) c2)) rfl rfl ?q1 ?q2 ?q3 ?q4 ?q5 ?_); (case q1 => rfl); (case q2 => exact siz_of rfl); (case q3 => (first | exact at0 | exact at1 | exact at2 | exact at3 | exact at4 | exact at5 | exact at6)); (case q4 => exact Nat.le_of_ble_eq_true rfl); (case q5 => rfl)) | ((refine' Ef_storeC (C' := nrC (.slice A2 (p + (l.length - (p + 1))) c2)) rfl rfl ?q1 ?q2 ?q3 ?q4 ?q5 ?_); (case q1 => rfl); (case q2 => exact siz_of rfl); (case q3 => (first | exact at0 | exact at1 | exact at2 | exact at3 | exact at4 | exact at5 | exact at6)); (case q4 => exact Nat.le_of_ble_eq_true rfl); (case q5 => rfl))))
          | ((with_reducible refine ie_callf ?_); (first | ((with_reducible refine g_call 28 ?_); (first | (refine Ef_callN rfl rfl ent_28 (fun w hp => copy_c x w (hp.rd (hin x (mem_of_some hx)) (hinR x (mem_of_some hx))) (h5 x (mem_of_some hx))) ?_; rintro ⟨A1, c1⟩) | (((refine' Ef_callN rfl rfl ent_28 (fun w hp => copy_c x0 w (hp.ins_bag (ps := l) ?q1 x0 hxm) h5) ?_); (case q1 => (repeat (first | exact .head _ | apply List.Mem.tail)))); rintro ⟨A1, c1⟩)))))
          | (first
          | ((((refine' Ef_appG_row (xs := ls.flatMap pE) (news := [pV (x.1, (A1, c1))]) rfl rfl rfl ?q1 ?q2 ?q3 (pE_one (x.1, (A1, c1))) ?q4 ?q5 ?_); (case q1 => exact app_of rfl); (case q2 => (first | exact at0 | exact at1 | exact at2 | exact at3 | exact at4 | exact at5 | exact at6)); (case q3 => (repeat (first | exact .head _ | apply List.Mem.tail))); (case q4 => omega); (case q5 => omega))); (first | ((fail_if_success have := A1); intro A1 c1) | ((fail_if_success have := A2); intro A2 c2) | intro _ _))
          | ((((refine' Ef_appG_row (xs := ls.flatMap pE) (news := [pV (x0.1, (A1, c1))]) rfl rfl rfl ?q1 ?q2 ?q3 (pE_one (x0.1, (A1, c1))) ?q4 ?q5 ?_); (case q1 => exact app_of rfl); (case q2 => (first | exact at0 | exact at1 | exact at2 | exact at3 | exact at4 | exact at5 | exact at6)); (case q3 => (repeat (first | exact .head _ | apply List.Mem.tail))); (case q4 => omega); (case q5 => omega))); (first | ((fail_if_success have := A1); intro A1 c1) | ((fail_if_success have := A2); intro A2 c2) | intro _ _))
          | ((((refine' Ef_app0G (news := (l.take p).flatMap pE) rfl rfl rfl ?q1 ?q2 (fun w hp => (hp.rowOf (xs := l.flatMap pE) ?q3).upto pE_len ?q4) (pEs_one _) ?q5 ?q6 ?_); (case q1 => exact app_of rfl); (case q2 => (first | exact at0 | exact at1 | exact at2 | exact at3 | exact at4 | exact at5 | exact at6)); (case q3 => (repeat (first | exact .head _ | apply List.Mem.tail))); (case q4 => omega); (case q5 => omega); (case q6 => omega))); (first | ((fail_if_success have := A1); intro A1 c1) | ((fail_if_success have := A2); intro A2 c2) | intro _ _))
          | ((((refine' Ef_appendG (xs := (l.take p).flatMap pE) (news := (l.drop (p + 1)).flatMap pE) rfl rfl rfl ?q1 ?q2 (fun w hp => (hp.rowOf (xs := l.flatMap pE) ?q3).from_ pE_len rfl ?q4 hcap) (pEs_one _) ?q5 ?q6 ?_); (case q1 => exact app_of rfl); (case q2 => (first | exact at0 | exact at1 | exact at2 | exact at3 | exact at4 | exact at5 | exact at6)); (case q3 => (repeat (first | exact .head _ | apply List.Mem.tail))); (case q4 => omega); (case q5 => omega); (case q6 => omega))); (first | ((fail_if_success have := A1); intro A1 c1) | ((fail_if_success have := A2); intro A2 c2) | intro _ _)))
          | ((with_reducible refine g_draw ?_); (first | (((refine' T.drawB (id := 6) (.y 0 (.y 1 (.y 2 (.y 3 (.y 5 (.y 6 (.y 7 (.y 8 (.b 4 (.run [(9, false), (10, false), (11, false), (12, false), (13, false), (14, false)]) 9 (.b 4 (.run [(10, false), (11, false), (12, false), (13, false), (14, false)]) 10 (.run [(4, false), (11, false), (12, false), (13, false), (14, false)]))))))))))) [] mixd ?q1 ?q2 ?_); (case q1 => kernel_rfl); (case q2 => (repeat (first | exact List.nil_sublist _ | refine List.Sublist.cons_cons _ ?_ | refine List.Sublist.cons _ ?_)))))))
          | refine w1 ?_
          | (refine w2 ?_ ?_ <;> intro hc)
          | (first | ((refine' ⟨_, Yl_sl_h rfl rfl ?q1 ?q2 ?q3, ?_⟩); (case q1 => exact und_of rfl); (case q2 => exact siz_of rfl); (case q3 => omega)) | ((refine' ⟨_, Yl_sl_l (l := p + 1) rfl rfl ?q1 ?q2 ?q3, ?_⟩); (case q1 => exact und_of rfl); (case q2 => exact siz_of rfl); (case q3 => omega)) | ((refine' ⟨_, Yl_sl_1 (l := p) rfl rfl rfl ?q1 ?q2 ?q3, ?_⟩); (case q1 => exact und_of rfl); (case q2 => exact siz_of rfl); (case q3 => omega)))
          | (refine w4 ?_; (intro _))
          | (refine w5 ?_; (first | ((fail_if_success have := A1); intro A1 c1) | ((fail_if_success have := A2); intro A2 c2) | intro _ _))
          | refine w3 ?_ ?_
          | fail_if_success skip)
      exact ret_n (yL b (A0, c0) ls) (res1 rfl rfl) (by (repeat (first | exact List.nil_sublist _ | refine List.Sublist.cons_cons _ ?_ | refine List.Sublist.cons _ ?_))) ⟨((A0, c0), ls), hls, rfl, rfl⟩
end
end
end Go.Proofs.Ytdbpnolpgkcjiaa
