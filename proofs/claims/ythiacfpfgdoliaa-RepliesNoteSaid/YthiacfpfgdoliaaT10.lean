/- The chapter's rows: what a call comes to. -/
import Derived.Test.YthiacfpfgdoliaaT9
namespace Go.Proofs.Ythiacfpfgdoliaa
open Go.RowKit
set_option maxRecDepth 20000

namespace Rl
def r7 : Rp := ⟨0, ByteArray.empty, [], 7, fun _ => 0⟩
def x7 : La := ⟨1, 5, r7⟩
end Rl
theorem b_build30 (w : World) : (Instr.build 30 #[(3, .int .i64 7)]).run Try.prog w = .ok (.agg (rE Rl.r7 (none, 0)).toArray) w := by kernel_rfl

section
variable (A : Option Addr) (c : Nat) (h7 : Hd) (w : World) (hr : Rd w A 1 77 ([(Rl.x7, h7)].flatMap mE)) (hin : Ins w [(Rl.x7, h7)])
include hr hin
theorem ask7 (t i : Int) (q : (Rp × Hd) × Bool × Int) (hq : Rl.askM [(Rl.x7, h7)] t i = q) : Sp Try.prog 15 [.slice A 1 c, .int .i64 t, .int .i64 i] w [] fun v N => ∃ y : Option Addr × Nat, v = .tuple #[.agg (rE q.1.1 y).toArray, .bool q.2.1, .int .i64 q.2.2] ∧ N = [kA q.1.1 y] := by
  subst hq
  exact ask_c A 1 c [(Rl.x7, h7)] t i w hr rfl (by decide) hin fun x hx => by rw [List.mem_singleton.1 hx]; exact Nat.zero_le _
theorem note7 (t i : Int) (q : Int) (hq : Rl.note [Rl.x7] t i Rl.z = ([], q)) : Sp Try.prog 22 [.slice A 1 c, .int .i64 t, .int .i64 i, .agg (rE Rl.z (none, 0)).toArray] w [] fun v N => ∃ y : Hd × List Me, v = .tuple #[.slice y.1.1 y.2.length y.1.2, .int .i64 q] ∧ N = [rM y.2 y.1, bag (y.2.map mA)] :=
  (note_c A 1 c [(Rl.x7, h7)] t i Rl.z (none, 0) w hr rfl (by decide) hin (fun x hx => by rw [List.mem_singleton.1 hx]; exact Nat.zero_le _) Rd.nil (Nat.zero_le _)).mono fun v N ⟨y, _, h2, h3⟩ => ⟨y, by rw [h2, show (Rl.note ([(Rl.x7, h7)].map (·.1)) t i Rl.z).2 = q by rw [show [(Rl.x7, h7)].map (·.1) = [Rl.x7] from rfl, hq]], h3⟩
end

theorem first7 (w : World) : Sp Try.prog 22 [.slice none 0 0, .int .i64 1, .int .i64 5, .agg (rE Rl.r7 (none, 0)).toArray] w [] fun v N => ∃ y : (Option Addr × Nat) × Hd, v = .tuple #[.slice y.1.1 1 y.1.2, .int .i64 0] ∧ N = [rM [(Rl.x7, y.2)] y.1, bag ([(Rl.x7, y.2)].map mA)] :=
  (note_c none 0 0 [] 1 5 Rl.r7 (none, 0) w Rd.nil rfl (by decide) (fun x hx => by cases hx) (fun x hx => by cases hx) Rd.nil (Nat.zero_le _)).mono fun v N ⟨y, h1, h2, h3⟩ => by
    have e : Rl.note (([] : List Me).map (·.1)) 1 5 Rl.r7 = ([Rl.x7], 0) := rfl
    rw [e] at h1 h2
    obtain ⟨y1, y2⟩ := y
    match y2, h1 with
    | [(a, h)], h1 =>
      obtain rfl : a = Rl.x7 := List.head_eq_of_cons_eq h1
      exact ⟨(y1, h), h2, h3⟩

set_option maxHeartbeats 8000000 in
theorem awake_v (w : World) : Sp Try.prog 14 [] w [] fun v N => v = .bool true ∧ N = [] := by
  have n1 := first7
  have n2 := fun A c h7 w h1 h2 => note7 A c h7 w h1 h2 1 5 140 rfl
  have n3 := fun A c h7 w h1 h2 => note7 A c h7 w h1 h2 5 1 2 rfl
  have n4 := fun A c h7 w h1 h2 => note7 A c h7 w h1 h2 1 0 2 rfl
  have a1 := fun A c h7 w h1 h2 => ask7 A c h7 w h1 h2 1 5 ((Rl.r7, h7), true, 0) rfl
  have a2 := fun A c h7 w h1 h2 => ask7 A c h7 w h1 h2 1 4 ((Rl.z, (none, 0)), false, 140) rfl
  have a3 := fun A c h7 w h1 h2 => ask7 A c h7 w h1 h2 1 6 ((Rl.z, (none, 0)), false, 0) rfl
  have a4 := fun A c h7 w h1 h2 => ask7 A c h7 w h1 h2 2 1 ((Rl.z, (none, 0)), false, 0) rfl
  dsimp only at a1 a2 a3 a4
  have hn : Rl.r7.n = 7 := rfl
  refine Sp.enter (n := 114) Try.func14 rfl rfl rfl (Hp.refl w) ?_
  repeat' (first
      | ((with_reducible refine is_build ?_); (first | refine ⟨_, Yl_build rfl z_build30, ?_⟩ | refine ⟨_, Yl_build rfl b_build30, ?_⟩))
      | ((with_reducible refine ie_store ?_); (first | ((refine' Ef_storeA' rfl rfl ?q1 (rE_one _ _) ?q2 ?q3 ?_); (case q1 => exact siz_of rfl); (case q2 => (first | exact at0 | exact at1 | exact at2 | exact at3 | exact at4 | exact at5 | exact at6)); (case q3 => rfl))))
      | ((with_reducible refine ie_callf ?_); (first
      | ((with_reducible refine g_call 22 ?_); (first | (refine Ef_callN rfl rfl ent_22 (fun w _ => n1 w) ?_; rintro ⟨⟨A1, c1⟩, h7⟩) | (((refine' Ef_callN rfl rfl ent_22 (fun w hp => n2 A1 c1 h7 w (hp.rowOf ?q1) (hp.ins_bag ?q2)) ?_); (case q1 => (repeat (first | exact .head _ | apply List.Mem.tail))); (case q2 => (repeat (first | exact .head _ | apply List.Mem.tail)))); rintro ⟨A2, m2⟩) | (((refine' Ef_callN rfl rfl ent_22 (fun w hp => n3 A1 c1 h7 w (hp.rowOf ?q1) (hp.ins_bag ?q2)) ?_); (case q1 => (repeat (first | exact .head _ | apply List.Mem.tail))); (case q2 => (repeat (first | exact .head _ | apply List.Mem.tail)))); rintro ⟨A2, m2⟩) | (((refine' Ef_callN rfl rfl ent_22 (fun w hp => n4 A1 c1 h7 w (hp.rowOf ?q1) (hp.ins_bag ?q2)) ?_); (case q1 => (repeat (first | exact .head _ | apply List.Mem.tail))); (case q2 => (repeat (first | exact .head _ | apply List.Mem.tail)))); rintro ⟨A2, m2⟩)))
      | ((with_reducible refine g_call 15 ?_); (first
      | (((refine' Ef_callN rfl rfl ent_15 (fun w hp => a1 A1 c1 h7 w (hp.rowOf ?q1) (hp.ins_bag ?q2)) ?_); (case q1 => (repeat (first | exact .head _ | apply List.Mem.tail))); (case q2 => (repeat (first | exact .head _ | apply List.Mem.tail)))); rintro ⟨A2, c2⟩)
      | (((refine' Ef_callN rfl rfl ent_15 (fun w hp => a2 A1 c1 h7 w (hp.rowOf ?q1) (hp.ins_bag ?q2)) ?_); (case q1 => (repeat (first | exact .head _ | apply List.Mem.tail))); (case q2 => (repeat (first | exact .head _ | apply List.Mem.tail)))); rintro ⟨A2, c2⟩)
      | (((refine' Ef_callN rfl rfl ent_15 (fun w hp => a3 A1 c1 h7 w (hp.rowOf ?q1) (hp.ins_bag ?q2)) ?_); (case q1 => (repeat (first | exact .head _ | apply List.Mem.tail))); (case q2 => (repeat (first | exact .head _ | apply List.Mem.tail)))); rintro ⟨A2, c2⟩)
      | (((refine' Ef_callN rfl rfl ent_15 (fun w hp => a4 A1 c1 h7 w (hp.rowOf ?q1) (hp.ins_bag ?q2)) ?_); (case q1 => (repeat (first | exact .head _ | apply List.Mem.tail))); (case q2 => (repeat (first | exact .head _ | apply List.Mem.tail)))); rintro ⟨A2, c2⟩)))))
      | refine w1 ?_
      | (refine w2 ?_ ?_ <;> intro hc)
      | (refine w4 ?_; (intro _))
      | (refine w5 ?_; (first | ((fail_if_success have := A1); intro A1 c1) | ((fail_if_success have := A2); intro A2 c2) | intro _ _))
      | refine w3 ?_ ?_
      | fail_if_success skip)
  exact ret_n [] (res1 rfl rfl) (List.nil_sublist _) ⟨rfl, rfl⟩
end Go.Proofs.Ythiacfpfgdoliaa
