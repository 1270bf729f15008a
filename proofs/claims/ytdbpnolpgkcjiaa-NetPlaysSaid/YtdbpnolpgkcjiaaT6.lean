/- A net that is full: Send, Double: what a call of each comes to. -/
import Derived.Test.YtdbpnolpgkcjiaaT4
namespace Go.Proofs.Ytdbpnolpgkcjiaa
open Go.RowKit Go.Conc

section
variable (b c : Nat) (w : World) (R : List Nat) (l : List Pk) (hfull : 4096 ≤ l.length)
include hfull
set_option maxHeartbeats 2000000 in
theorem sendF_c (hp : Hp w R [nO b c, chA c l] w) (A : Option Addr) (cap : Nat) (x : Pk) (ha : Rd w A 1 1 [pV x]) (haR : (adr A).block ∉ R) (hin : In w x) (hinR : 0 < x.1.length → (adr x.2.1).block ∉ R) (h5 : x.1.length ≤ 140737488355328) :
    Sp Try.prog 10 [.pointer (some ⟨b, 0, none⟩), .slice A 1 cap] w R fun v N => v = .int .i64 4 ∧ N = [nO b c, chA c l] := by
  have e0 : ([pV x] : List Value)[0 * 1]? = some (pV x) := rfl
  refine Sp.enter (n := 21) Try.func10 rfl rfl rfl hp ?_
  repeat' (first | ((with_reducible refine is_load ?_); (first | ((refine' ⟨_, Yl_load_rd rfl ?q1 ha haR ?q2, ?_⟩); (case q1 => exact one_of rfl); (case q2 => assumption))))    | ((with_reducible refine ie_callf ?_); (first | ((with_reducible refine g_call 21 ?_); (first | ((refine' Ef_callP rfl rfl ent_21 (fun w hp => none1_v b c w (hp.blkOf ?q1)) ?_); (case q1 => (repeat (first | exact .head _ | apply List.Mem.tail)))))) | ((with_reducible refine g_call 23 ?_); (first | (refine Ef_callN rfl rfl ent_23 (fun w hp => clone_c x w (hp.rd hin hinR) h5) ?_; rintro ⟨A1, c1⟩))) | ((with_reducible refine g_call 22 ?_); (first | refine Ef_callT [false, true, true] rfl rfl ent_22 rfl rfl rfl (fun w hp => putF_c b c w _ l (x.1, (A1, c1)) hp hfull) ?_))))    | refine w1 ?_ | (refine w2 ?_ ?_ <;> intro hc)  | (refine w4 ?_; (intro _)) | (refine w5 ?_; (first | ((fail_if_success have := A1); intro A1 c1) | intro _ _)) | refine w3 ?_ ?_ | fail_if_success skip)
  refine T.loopM (α := Unit) (fun _ => [(0, .pointer (some ⟨b, 0, none⟩)), (9, .slice A 1 cap), (10, .int .i64 ((1 : Nat) : Int)), (11, .int .i64 ((0 : Nat) : Int))]) (fun _ => [nO b c, chA c l]) (fun _ => True) (fun _ => 0) () ?_ ?_ trivial ?_
  · (repeat (first | exact Sub.nil | refine Sub.cons rfl ?_))
  · exact fun _ h => h
  · rintro ⟨⟩ -
    repeat' (first | ((with_reducible refine is_load ?_); (first | ((refine' ⟨_, Yl_load_rd rfl ?q1 ha haR ?q2, ?_⟩); (case q1 => exact one_of rfl); (case q2 => assumption))))    | ((with_reducible refine ie_callf ?_); (first | ((with_reducible refine g_call 21 ?_); (first | ((refine' Ef_callP rfl rfl ent_21 (fun w hp => none1_v b c w (hp.blkOf ?q1)) ?_); (case q1 => (repeat (first | exact .head _ | apply List.Mem.tail)))))) | ((with_reducible refine g_call 23 ?_); (first | (refine Ef_callN rfl rfl ent_23 (fun w hp => clone_c x w (hp.rd hin hinR) h5) ?_; rintro ⟨A1, c1⟩))) | ((with_reducible refine g_call 22 ?_); (first | refine Ef_callT [false, true, true] rfl rfl ent_22 rfl rfl rfl (fun w hp => putF_c b c w _ l (x.1, (A1, c1)) hp hfull) ?_))))    | refine w1 ?_ | (refine w2 ?_ ?_ <;> intro hc)  | (refine w4 ?_; (intro _)) | (refine w5 ?_; (first | ((fail_if_success have := A1); intro A1 c1) | intro _ _)) | refine w3 ?_ ?_ | fail_if_success skip)
    exact ret_n [nO b c, chA c l] (res1 rfl rfl) (by (repeat (first | exact List.nil_sublist _ | refine List.Sublist.cons_cons _ ?_ | refine List.Sublist.cons _ ?_))) ⟨rfl, rfl⟩
set_option maxHeartbeats 2000000 in
theorem doubleF_c (hp : Hp w R [nO b c, chA c l, bag (l.map bP)] w) (h5 : ∀ p ∈ l, p.1.length ≤ 140737488355328) (k : Int) (hll : l.length ≤ 4096) (x0 : Pk) (h0 : l[plc k l.length]? = some x0) : Sp Try.prog 11 [.pointer (some ⟨b, 0, none⟩), .int .i64 k] w R fun v N => v = .int .i64 4 ∧ N = [nO b c, chA c l, bag (l.map bP)] := by
  have hxm := List.mem_of_getElem? h0
  have hround := fun t v1 w R (hp : Hp w R [.blk t (.cells #[v1] 38 (0, 0)), nO b c, chA c l] w) => Sp.part (Res' := fun v N => v = .int .i64 0 ∧ N = [.blk t (.cells #[pV x0] 38 (0, 0)), nO b c, chA c l]) (round_c b c t 25 true ent_25 (clo25_c t) k l v1 w R (hp.ofPart (by (repeat (first | exact Part.nil | refine Part.p0 ?_ | refine Part.p1 ?_ | refine Part.p2 ?_ | refine Part.p3 ?_ | refine Part.p4 ?_ | refine Part.p5 ?_ | refine Part.p6 ?_)))) hll x0 h0) (fun v N ⟨h1, h2⟩ => ⟨[.blk t (.cells #[pV x0] 38 (0, 0)), nO b c, chA c l], by subst h2; rw [kept_t]; (repeat (first | exact Part.nil | refine Part.p0 ?_ | refine Part.p1 ?_ | refine Part.p2 ?_ | refine Part.p3 ?_ | refine Part.p4 ?_ | refine Part.p5 ?_ | refine Part.p6 ?_)), h1, rfl⟩)
  have hsend := fun w R hp {A : Option Addr} {cap : Nat} h1 h2 h3 h4 => sendF_c b c w R l hfull hp A cap x0 h1 h2 h3 h4 (h5 x0 hxm)
  refine Sp.enter (n := 18) Try.func11 rfl rfl rfl hp ?_
  repeat' (first
      | ((with_reducible refine is_load ?_); (first | ((refine' ⟨_, Yl_load_rd rfl ?q1 ha haR ?q2, ?_⟩); (case q1 => exact one_of rfl); (case q2 => assumption))))
      | ((with_reducible refine ie_callf ?_); (first
      | ((with_reducible refine g_call 24 ?_); (first | refine Ef_callT [true, true, true] rfl rfl ent_24 rfl rfl rfl (fun w hp => hround b1 _ w _ hp) ?_))
      | ((with_reducible refine g_call 10 ?_); (first | ((refine' Ef_callS [false, false, true, true] rfl rfl ent_10 rfl rfl rfl (fun w hp => hsend w _ (hp.hand [false, false, true, true] rfl) (hp.rowOf ?q1) (hp.apartS [false, false, true, true] rfl rfl (A := .row 38 1 (.slice (some ⟨b2, 0, none⟩) 1 1) 1 [pV x0]) ?q2 (.head _)) (hp.ins_bag (ps := l) ?q3 x0 hxm) (fun h => hp.apartS [false, false, true, true] rfl rfl (A := bag (l.map bP)) ?q4 (bag_foot hxm (hp.ins_bag (ps := l) ?q5 x0 hxm) h))) ?_); (case q1 => (repeat (first | exact .head _ | apply List.Mem.tail))); (case q2 => (repeat (first | exact .head _ | apply List.Mem.tail))); (case q3 => (repeat (first | exact .head _ | apply List.Mem.tail))); (case q4 => (repeat (first | exact .head _ | apply List.Mem.tail))); (case q5 => (repeat (first | exact .head _ | apply List.Mem.tail))))))))
      | refine w1 ?_
      | (refine w2 ?_ ?_ <;> intro hc)
      | (refine w4 ?_; (first | ((fail_if_success have := b1); intro b1) | ((fail_if_success have := b2); intro b2) | intro _))
      | (refine w5 ?_; (intro _ _))
      | refine w3 ?_ ?_
      | fail_if_success skip)
  rintro _ _ ⟨rfl, rfl⟩
  repeat' (first
      | ((with_reducible refine is_load ?_); (first | ((refine' ⟨_, Yl_load_rd rfl ?q1 ha haR ?q2, ?_⟩); (case q1 => exact one_of rfl); (case q2 => assumption))))
      | ((with_reducible refine ie_callf ?_); (first
      | ((with_reducible refine g_call 24 ?_); (first | refine Ef_callT [true, true, true] rfl rfl ent_24 rfl rfl rfl (fun w hp => hround b1 _ w _ hp) ?_))
      | ((with_reducible refine g_call 10 ?_); (first | ((refine' Ef_callS [false, false, true, true] rfl rfl ent_10 rfl rfl rfl (fun w hp => hsend w _ (hp.hand [false, false, true, true] rfl) (hp.rowOf ?q1) (hp.apartS [false, false, true, true] rfl rfl (A := .row 38 1 (.slice (some ⟨b2, 0, none⟩) 1 1) 1 [pV x0]) ?q2 (.head _)) (hp.ins_bag (ps := l) ?q3 x0 hxm) (fun h => hp.apartS [false, false, true, true] rfl rfl (A := bag (l.map bP)) ?q4 (bag_foot hxm (hp.ins_bag (ps := l) ?q5 x0 hxm) h))) ?_); (case q1 => (repeat (first | exact .head _ | apply List.Mem.tail))); (case q2 => (repeat (first | exact .head _ | apply List.Mem.tail))); (case q3 => (repeat (first | exact .head _ | apply List.Mem.tail))); (case q4 => (repeat (first | exact .head _ | apply List.Mem.tail))); (case q5 => (repeat (first | exact .head _ | apply List.Mem.tail))))))))
      | refine w1 ?_
      | (refine w2 ?_ ?_ <;> intro hc)
      | (refine w4 ?_; (first | ((fail_if_success have := b1); intro b1) | ((fail_if_success have := b2); intro b2) | intro _))
      | (refine w5 ?_; (intro _ _))
      | refine w3 ?_ ?_
      | fail_if_success skip)
  exact ret_n [nO b c, chA c l, bag (l.map bP)] (res1 rfl rfl) (by (repeat (first | exact List.nil_sublist _ | refine List.Sublist.cons_cons _ ?_ | refine List.Sublist.cons _ ?_))) ⟨rfl, rfl⟩
end
end Go.Proofs.Ytdbpnolpgkcjiaa
