/- The chapter's rows: what a call comes to. -/
import Derived.Test.YtimmabejfigleaaT7
namespace Go.Proofs.Ytimmabejfigleaa
open Go.RowKit
set_option maxRecDepth 20000

section
variable {P : Program} {n : Nat} {w0 : World} {R : List Nat} {L : List (Nat × Value)} {M : List Asrt} {ty t yt : TypeId} {x y : Operand}
theorem Yl_addW {i j : Int} (hx : evl L x = some (.int .i64 i)) (hy : evl L y = some (.int .i64 j)) : Yl P n w0 R (.binOp .add t x y yt) ty L M (.int .i64 (IntKind.wrap .i64 (i + j))) := Yl_bin_int hx hy fun w => by
  rw [run_binInt (by decide)]; simp [arithI, Op.intArith]
end

theorem pE_cells (l : List Pr) : ∀ v ∈ l.flatMap pE, v.cells.size = 1 := fun v hv => by
  obtain ⟨x, _, hx⟩ := List.mem_flatMap.1 hv
  have := pE_one x v hx
  cases v <;> first | rfl | cases this
namespace Ks
def tA : ByteArray := ⟨#[97]⟩
def tB : ByteArray := ⟨#[98]⟩
def tC : ByteArray := ⟨#[99]⟩
def t1 : ByteArray := ⟨#[49]⟩
def t2 : ByteArray := ⟨#[50]⟩
def t3 : ByteArray := ⟨#[51]⟩
def l1 : List Pr := [(tA, ⟨#[49, 50, 51]⟩), (tB, ⟨#[52, 53, 54, 55]⟩), (tC, ⟨#[]⟩)]
def l2 : List Pr := [(tA, ⟨#[49, 50, 51]⟩), (tA, ⟨#[49, 50, 51, 52, 53, 54, 55, 56]⟩)]
def l3 : List Pr := [(tA, ⟨#[49, 50, 51]⟩), (tA, ⟨#[49, 50, 51, 52, 53, 54, 55, 56, 57, 48]⟩)]
def l4 : List Pr := [(tB, t1), (tA, t2)]
def s4 : List Pr := [(tA, t2), (tB, t1)]
def s5 : List Pr := [(tA, t3), (tB, t1)]
end Ks

section
variable (A : Option Addr) (c : Nat) (w : World)
theorem aw1 (hr : Rd w A 6 1 (Ks.l1.flatMap pE)) : Sp Try.prog 34 [.slice A 6 c] w [] fun v N => ∃ z : Option Addr × Nat, v = .tuple #[.agg (sV 0 0 z 0), .int .i64 120] ∧ N = [rP [] z] := by
  have := mk_c A c Ks.l1 3 w hr rfl (by decide) (by decide +kernel)
  rwa [show Ks.putsR Ks.l1 = (0, 0, [], 120) by decide +kernel] at this
theorem aw2 (hr : Rd w A 4 1 (Ks.l2.flatMap pE)) : Sp Try.prog 34 [.slice A 4 c] w [] fun v N => ∃ z : Option Addr × Nat, v = .tuple #[.agg (sV 2 10 z 1), .int .i64 0] ∧ N = [rP [(Ks.tA, ⟨#[49, 50, 51, 52, 53, 54, 55, 56]⟩)] z] := by
  have := mk_c A c Ks.l2 2 w hr rfl (by decide) (by decide +kernel)
  rwa [show Ks.putsR Ks.l2 = (2, 10, [(Ks.tA, ⟨#[49, 50, 51, 52, 53, 54, 55, 56]⟩)], 0) by decide +kernel] at this
theorem aw3 (hr : Rd w A 4 1 (Ks.l3.flatMap pE)) : Sp Try.prog 34 [.slice A 4 c] w [] fun v N => ∃ z : Option Addr × Nat, v = .tuple #[.agg (sV 0 0 z 0), .int .i64 120] ∧ N = [rP [] z] := by
  have := mk_c A c Ks.l3 2 w hr rfl (by decide) (by decide +kernel)
  rwa [show Ks.putsR Ks.l3 = (0, 0, [], 120) by decide +kernel] at this
theorem aw4 (hr : Rd w A 4 1 (Ks.l4.flatMap pE)) : Sp Try.prog 34 [.slice A 4 c] w [] fun v N => ∃ z : Option Addr × Nat, v = .tuple #[.agg (sV 2 10 z 2), .int .i64 0] ∧ N = [rP Ks.s4 z] := by
  have := mk_c A c Ks.l4 2 w hr rfl (by decide) (by decide +kernel)
  rwa [show Ks.putsR Ks.l4 = (2, 10, Ks.s4, 0) by decide +kernel] at this
section
variable (hr : Rd w A 2 2 (Ks.s4.flatMap pE)) (hc : 2 ≤ c)
include hr hc
theorem aw5 : Sp Try.prog 23 [.agg (sV 2 10 (A, c) 2), .string Ks.tA, .string Ks.t1, .string Ks.t3] w [] fun v N => ∃ z : Option Addr × Nat, v = .tuple #[.agg (sV 0 0 z 0), .int .i64 111] ∧ N = [rP [] z] := by
  have := swap_c A 2 c Ks.s4 w hr rfl hc (by decide) 2 10 Ks.tA Ks.t1 Ks.t3
  rwa [show Ks.swapR 2 10 Ks.s4 Ks.tA Ks.t1 Ks.t3 = (0, 0, [], 111) by decide +kernel] at this
theorem aw6 : Sp Try.prog 23 [.agg (sV 2 10 (A, c) 2), .string Ks.tC, .string Ks.t1, .string Ks.t3] w [] fun v N => ∃ z : Option Addr × Nat, v = .tuple #[.agg (sV 0 0 z 0), .int .i64 110] ∧ N = [rP [] z] := by
  have := swap_c A 2 c Ks.s4 w hr rfl hc (by decide) 2 10 Ks.tC Ks.t1 Ks.t3
  rwa [show Ks.swapR 2 10 Ks.s4 Ks.tC Ks.t1 Ks.t3 = (0, 0, [], 110) by decide +kernel] at this
theorem aw7 : Sp Try.prog 23 [.agg (sV 2 10 (A, c) 2), .string Ks.tA, .string Ks.t2, .string Ks.t3] w [] fun v N => ∃ z : Option Addr × Nat, v = .tuple #[.agg (sV 2 10 z 2), .int .i64 0] ∧ N = [rP Ks.s5 z] := by
  have := swap_c A 2 c Ks.s4 w hr rfl hc (by decide) 2 10 Ks.tA Ks.t2 Ks.t3
  rwa [show Ks.swapR 2 10 Ks.s4 Ks.tA Ks.t2 Ks.t3 = (2, 10, Ks.s5, 0) by decide +kernel] at this
theorem aw9 : Sp Try.prog 13 [.agg (sV 2 10 (A, c) 2), .string ⟨#[]⟩, .int .i64 1] w [] fun v N => ∃ z : Option Addr × Nat, v = .slice z.1 1 z.2 ∧ N = [rK [Ks.tA] z] := by
  have := list_c A 2 c Ks.s4 w hr rfl hc (by decide) 2 10 ⟨#[]⟩ 1
  rwa [show Ks.listR 2 10 Ks.s4 ⟨#[]⟩ 1 = [Ks.tA] by decide +kernel] at this
theorem aw10 : Sp Try.prog 13 [.agg (sV 2 10 (A, c) 2), .string Ks.tB, .int .i64 9] w [] fun v N => ∃ z : Option Addr × Nat, v = .slice z.1 1 z.2 ∧ N = [rK [Ks.tB] z] := by
  have := list_c A 2 c Ks.s4 w hr rfl hc (by decide) 2 10 Ks.tB 9
  rwa [show Ks.listR 2 10 Ks.s4 Ks.tB 9 = [Ks.tB] by decide +kernel] at this
end
theorem aw8 (hr : Rd w A 2 2 (Ks.s5.flatMap pE)) : Sp Try.prog 14 [.agg (sV 2 10 (A, c) 2), .string Ks.tA] w [] fun v N => v = .tuple #[.string Ks.t3, .int .i64 0] ∧ N = [] := by
  have := get_c A 2 c Ks.s5 w hr rfl (by decide) 2 10 Ks.tA
  rwa [show Ks.getR 2 10 Ks.s5 Ks.tA = (Ks.t3, 0) by decide +kernel] at this
theorem aw11 (hr : Rd w A 2 2 (Ks.s4.flatMap pE)) : Sp Try.prog 12 [.agg (sV 2 10 (A, c) 2)] w [] fun v N => v = .tuple #[.int .i64 2, .int .i64 4] ∧ N = [] := by
  have := used_c A 2 c Ks.s4 w hr rfl (by decide) 2 10
  rwa [show Ks.may 2 10 Ks.s4 = true by decide +kernel, if_pos rfl, if_pos rfl, show Ks.cnt Ks.s4 = 4 by decide +kernel] at this
end

set_option maxHeartbeats 8000000 in
theorem awake_c (w : World) : Sp Try.prog 10 [] w [] fun v N => v = .bool true ∧ N = [] := by
  refine Sp.enter (n := 134) Try.func10 rfl rfl rfl (Hp.refl w) ?_
  repeat' (first
      | ((with_reducible refine is_load ?_); (first | ((refine' ⟨_, Yl_load_row rfl ?q1 ?q2 ?q3, ?_⟩); (case q1 => exact one_of rfl); (case q2 => (repeat (first | exact .head _ | apply List.Mem.tail))); (case q3 => rfl))))
      | ((with_reducible refine ie_callf ?_); (first
      | ((with_reducible refine g_call 34 ?_); (first | (((refine' Ef_callN rfl rfl ent_34 (fun w hp => aw1 _ _ w (hp.rowOf ?q1)) ?_); (case q1 => (repeat (first | exact .head _ | apply List.Mem.tail)))); (rintro ⟨_, _⟩)) | (((refine' Ef_callN rfl rfl ent_34 (fun w hp => aw2 _ _ w (hp.rowOf ?q1)) ?_); (case q1 => (repeat (first | exact .head _ | apply List.Mem.tail)))); (rintro ⟨_, _⟩)) | (((refine' Ef_callN rfl rfl ent_34 (fun w hp => aw3 _ _ w (hp.rowOf ?q1)) ?_); (case q1 => (repeat (first | exact .head _ | apply List.Mem.tail)))); (rintro ⟨_, _⟩)) | (((refine' Ef_callN rfl rfl ent_34 (fun w hp => aw4 _ _ w (hp.rowOf ?q1)) ?_); (case q1 => (repeat (first | exact .head _ | apply List.Mem.tail)))); (rintro ⟨_, _⟩))))
      | ((with_reducible refine g_call 23 ?_); (first | (((refine' Ef_callN rfl rfl ent_23 (fun w hp => aw5 _ _ w (hp.rowOf ?q1) (hp.capOf ?q2)) ?_); (case q1 => (repeat (first | exact .head _ | apply List.Mem.tail))); (case q2 => (repeat (first | exact .head _ | apply List.Mem.tail)))); (rintro ⟨_, _⟩)) | (((refine' Ef_callN rfl rfl ent_23 (fun w hp => aw6 _ _ w (hp.rowOf ?q1) (hp.capOf ?q2)) ?_); (case q1 => (repeat (first | exact .head _ | apply List.Mem.tail))); (case q2 => (repeat (first | exact .head _ | apply List.Mem.tail)))); (rintro ⟨_, _⟩)) | (((refine' Ef_callN rfl rfl ent_23 (fun w hp => aw7 _ _ w (hp.rowOf ?q1) (hp.capOf ?q2)) ?_); (case q1 => (repeat (first | exact .head _ | apply List.Mem.tail))); (case q2 => (repeat (first | exact .head _ | apply List.Mem.tail)))); (rintro ⟨_, _⟩))))
      | ((with_reducible refine g_call 14 ?_); (first | ((refine' Ef_callP rfl rfl ent_14 (fun w hp => aw8 _ _ w (hp.rowOf ?q1)) ?_); (case q1 => (repeat (first | exact .head _ | apply List.Mem.tail))))))
      | ((with_reducible refine g_call 13 ?_); (first | (((refine' Ef_callN rfl rfl ent_13 (fun w hp => aw9 _ _ w (hp.rowOf ?q1) (hp.capOf ?q2)) ?_); (case q1 => (repeat (first | exact .head _ | apply List.Mem.tail))); (case q2 => (repeat (first | exact .head _ | apply List.Mem.tail)))); (rintro ⟨_, _⟩)) | (((refine' Ef_callN rfl rfl ent_13 (fun w hp => aw10 _ _ w (hp.rowOf ?q1) (hp.capOf ?q2)) ?_); (case q1 => (repeat (first | exact .head _ | apply List.Mem.tail))); (case q2 => (repeat (first | exact .head _ | apply List.Mem.tail)))); (rintro ⟨_, _⟩))))
      | ((with_reducible refine g_call 12 ?_); (first | ((refine' Ef_callP rfl rfl ent_12 (fun w hp => aw11 _ _ w (hp.rowOf ?q1)) ?_); (case q1 => (repeat (first | exact .head _ | apply List.Mem.tail))))))))
      | (first | (((refine' Ef_bsl (vs := Ks.l1.flatMap pE) (xs := Ks.l1.flatMap pE) rfl ?q1 rfl rfl ?q2 ?q3 ?q4 rfl ?_); (case q1 => exact app_of rfl); (case q2 => exact pE_cells _); (case q3 => decide); (case q4 => decide)); (intro _)) | (((refine' Ef_bsl (vs := Ks.l2.flatMap pE) (xs := Ks.l2.flatMap pE) rfl ?q1 rfl rfl ?q2 ?q3 ?q4 rfl ?_); (case q1 => exact app_of rfl); (case q2 => exact pE_cells _); (case q3 => decide); (case q4 => decide)); (intro _)) | (((refine' Ef_bsl (vs := Ks.l3.flatMap pE) (xs := Ks.l3.flatMap pE) rfl ?q1 rfl rfl ?q2 ?q3 ?q4 rfl ?_); (case q1 => exact app_of rfl); (case q2 => exact pE_cells _); (case q3 => decide); (case q4 => decide)); (intro _)) | (((refine' Ef_bsl (vs := Ks.l4.flatMap pE) (xs := Ks.l4.flatMap pE) rfl ?q1 rfl rfl ?q2 ?q3 ?q4 rfl ?_); (case q1 => exact app_of rfl); (case q2 => exact pE_cells _); (case q3 => decide); (case q4 => decide)); (intro _)))
      | refine w1 ?_
      | (refine w2 ?_ ?_ <;> intro hc)
      | (refine w4 ?_; (intro _))
      | (refine w5 ?_; (intro _ _))
      | refine w3 ?_ ?_
      | fail_if_success skip)
  exact ret_n [] (res1 rfl rfl) (List.nil_sublist _) ⟨rfl, rfl⟩
end Go.Proofs.Ytimmabejfigleaa
