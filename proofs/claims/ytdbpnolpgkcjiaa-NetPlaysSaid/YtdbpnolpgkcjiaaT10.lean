/- Send of packets that lie anywhere; All, told openly: what a call of each comes to. -/
import Derived.Test.YtdbpnolpgkcjiaaT9
namespace Go.Proofs.Ytdbpnolpgkcjiaa
open Go.RowKit Go.Conc

section
variable (b c : Nat) (w : World) (R : List Nat) (l : List Pk) (hp : Hp w R [nO b c, chA c l] w)
include hp
set_option maxHeartbeats 2000000 in
theorem sendZ_c (A : Option Addr) (cap : Nat) : Sp Try.prog 10 [.pointer (some ⟨b, 0, none⟩), .slice A 0 cap] w R fun v N => v = .int .i64 0 ∧ N = [nO b c, chA c l] := by
  refine Sp.enter (n := 21) Try.func10 rfl rfl rfl hp ?_
  repeat' (first    | ((with_reducible refine ie_callf ?_); (first | ((with_reducible refine g_call 21 ?_); (first | ((refine' Ef_callP rfl rfl ent_21 (fun w hp => none1_v b c w (hp.blkOf ?q1)) ?_); (case q1 => (repeat (first | exact .head _ | apply List.Mem.tail))))))))    | refine w1 ?_ | (refine w2 ?_ ?_ <;> intro hc)  | (refine w4 ?_; (intro _)) | (refine w5 ?_; (intro _ _)) | refine w3 ?_ ?_ | fail_if_success skip)
  refine T.loopM (α := Unit) (fun _ => [(0, .pointer (some ⟨b, 0, none⟩)), (9, .slice A 0 cap), (10, .int .i64 ((0 : Nat) : Int)), (11, .int .i64 ((0 : Nat) : Int))]) (fun _ => [nO b c, chA c l]) (fun _ => True) (fun _ => 0) () ?_ ?_ trivial ?_
  · (repeat (first | exact Sub.nil | refine Sub.cons rfl ?_))
  · exact fun _ h => h
  · rintro ⟨⟩ -
    repeat' (first    | ((with_reducible refine ie_callf ?_); (first | ((with_reducible refine g_call 21 ?_); (first | ((refine' Ef_callP rfl rfl ent_21 (fun w hp => none1_v b c w (hp.blkOf ?q1)) ?_); (case q1 => (repeat (first | exact .head _ | apply List.Mem.tail))))))))    | refine w1 ?_ | (refine w2 ?_ ?_ <;> intro hc)  | (refine w4 ?_; (intro _)) | (refine w5 ?_; (intro _ _)) | refine w3 ?_ ?_ | fail_if_success skip)
    exact ret_n [nO b c, chA c l] (res1 rfl rfl) (by (repeat (first | exact List.nil_sublist _ | refine List.Sublist.cons_cons _ ?_ | refine List.Sublist.cons _ ?_))) ⟨rfl, rfl⟩
/-- There is room for all. -/
theorem send2_c (A : Option Addr) (cap : Nat) (ps : List Pk) (ha : Rd w A ps.length 1 (ps.flatMap pE)) (haR : 0 < ps.length → (adr A).block ∉ R) (hin : Ins w ps) (hinR : ∀ p ∈ ps, 0 < p.1.length → (adr p.2.1).block ∉ R) (h5 : ∀ p ∈ ps, p.1.length ≤ 140737488355328) (hroom : l.length + ps.length ≤ 4096) :
    Sp Try.prog 10 [.pointer (some ⟨b, 0, none⟩), .slice A ps.length cap] w R fun v N => ∃ ns : List Pk, ns.map (·.1) = ps.map (·.1) ∧ v = .int .i64 0 ∧ N = [bag (ns.map bP), nO b c, chA c (l ++ ns)] := by
  rcases Nat.eq_zero_or_pos ps.length with h0 | h0
  · obtain rfl : ps = [] := List.eq_nil_of_length_eq_zero h0
    refine Sp.mem (sendZ_c b c w R l hp A cap) fun v N ⟨h1, h2⟩ => ⟨[bag [], nO b c, chA c l], fun w' h => ?_, [], rfl, h1, by rw [List.append_nil]; rfl⟩
    subst h2
    exact h.bagNil
  · exact send_c b c w R l hp A cap ps ha (haR h0) hin hinR h5 hroom
end
theorem all2_c (b c : Nat) (w : World) (R : List Nat) (l : List Pk) (hp : Hp w R [nO b c, chA c l, bag (l.map bP)] w) (h5 : ∀ p ∈ l, p.1.length ≤ 140737488355328) (hll : l.length ≤ 4096) :
    Sp Try.prog 16 [.pointer (some ⟨b, 0, none⟩)] w R fun v N => ∃ y : Hd × List Pk, y.2.map (·.1) = l.map (·.1) ∧ v = .slice y.1.1 y.2.length y.1.2 ∧ N = [.row 38 1 (.slice y.1.1 y.2.length y.1.2) y.2.length (y.2.flatMap pE), bag (y.2.map bP), nO b c, chA c l, bag (l.map bP)] := all_c b c w R l hp h5 hll
end Go.Proofs.Ytdbpnolpgkcjiaa
