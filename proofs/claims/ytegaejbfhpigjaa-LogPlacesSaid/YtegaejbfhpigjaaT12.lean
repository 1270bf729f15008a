/- An act on a log: what a call comes to. -/
import Derived.Test.YtegaejbfhpigjaaT11
namespace Go.Proofs.Ytegaejbfhpigjaa
open Go.RowKit
set_option maxRecDepth 20000

section
variable {P : Program} {n : Nat} {w0 w : World} {R : List Nat} {L : List (Nat × Value)} {M : List Asrt} {ty : TypeId} {K : List (Nat × Value) → List Asrt → Prop}
theorem Hp.apartS (hp : Hp w0 R M w) (mk : List Bool) {S M' : List Asrt} (hS : sel mk M = S) (hM' : oth mk M = M') {A : Asrt} (hA : A ∈ M') {k : Nat} (hk : k ∈ A.foot) : k ∉ S.flatMap Asrt.foot := by
  subst hS hM'
  exact (hp.perm (sel_oth mk M)).notInZ hA hk
theorem Hp.outS (hp : Hp w0 R M w) (mk : List Bool) {S : List Asrt} (hS : sel mk M = S) {k : Nat} (hk : k < w0.heap.size) (hR : k ∉ R) : k ∉ S.flatMap Asrt.foot := by
  subst hS
  exact (hp.perm (sel_oth mk M)).notInR hR hk
/-- A callee that turns some of what is owned, and reads old memory. -/
theorem Ef_callW {f : FuncId} {args : Array Operand} {ats : Array TypeId} {vals : List Value} {d : Nat} {S M' : List Asrt} {Rs : List Nat} {β : Type} {V : β → Value} {N0 : β → List Asrt} {φ : β → Prop} (mk : List Bool) (hd : Nat.blt d n = true) (ha : evls L args.toList = some vals) (hen : Enters P f)
    (hS : sel mk M = S) (hM' : oth mk M = M') (hRs : S.flatMap Asrt.foot = Rs) (hc : ∀ w, Hp w0 R M w → Hp w Rs S w → Sp P f vals w Rs (fun v N => ∃ z : β, φ z ∧ v = V z ∧ N = N0 z)) (h : ∀ z, φ z → K ((d, V z) :: L) (N0 z ++ M')) : Ef P n w0 R (some d) (.call { callee := .value (.func f), args := args, argTypes := ats }) ty L M K :=
  Ef_callS mk hd ha hen hS hM' hRs (fun w hp => hc w hp (by subst hRs; exact hp.hand mk hS)) fun v N ⟨z, h0, h1, h2⟩ => by subst h1 h2; exact h z h0
end

namespace Lg
/-- What an act answers. -/
def ans (kind n : Int) (e : En) (l : List En) (sy : Int) : Int :=
  if 0 ≤ kind ∧ kind ≤ 3 then (add l (fit kind e l.length (stamp l))).2 else if kind = 4 then 0 else if kind = 5 then (cut l sy n).2 else 0
end Lg

section
variable (b : Nat) (z : Hd) (l : List Me) (sy : Int) (a : Ac) (w : World) (R : List Nat) (hp : Hp w R (xL b z l sy) w) (hl : l.length ≤ 200) (he : In w a.e) (heR : 0 < a.e.1.body.length → (adr a.e.2.1).block ∉ R) (h5 : a.e.1.body.length ≤ 6000)
include hp hl he heR h5
set_option maxHeartbeats 4000000 in
theorem do_c : Sp Try.prog 27 [.pointer (some ⟨b, 0, none⟩), .agg (aE a).toArray] w R fun v N => ∃ y : Hd × List Me, y.2.map (·.1) = (Lg.step a.kind a.n a.e.1 (l.map (·.1)) sy).1 ∧ v = .int .i64 (Lg.ans a.kind a.n a.e.1 (l.map (·.1)) sy) ∧ N = xL b y.1 y.2 (Lg.step a.kind a.n a.e.1 (l.map (·.1)) sy).2 := by
  obtain ⟨q, hst⟩ : ∃ q, Lg.stamp (l.map (·.1)) = q := ⟨_, rfl⟩
  unfold Lg.step Lg.ans
  rw [hst, List.length_map]
  by_cases hjn : 0 ≤ a.kind ∧ a.kind ≤ 3
  · rw [if_pos hjn, if_pos hjn]
    have heE : In w (Lg.fit a.kind a.e.1 l.length q, a.e.2) := by unfold In; rw [Lg.fit_body]; exact he
    have h5E : (Lg.fit a.kind a.e.1 l.length q).body.length ≤ 6000 := by rw [Lg.fit_body]; exact h5
    have hadd := fun w R hp h1 h2 => add_c b z l sy (Lg.fit a.kind a.e.1 l.length q, a.e.2) w R hp hl h1 h2 h5E
    obtain ⟨k1, k2⟩ := hjn
    have hjn : True := trivial
    refine Sp.enter (n := 30) Try.func27 rfl rfl rfl hp ?_
    repeat' (first
        | ((with_reducible refine is_load ?_); (first | ((refine' ⟨_, Yl_loadA_blk rfl ?q1 ?q2, ?_⟩); (case q1 => (repeat (first | exact .head _ | apply List.Mem.tail))); (case q2 => exact agg_of rfl))))
        | ((with_reducible refine ie_callf ?_); (first
        | ((with_reducible refine g_call 15 ?_); (first | ((refine' Ef_callP rfl rfl ent_15 (fun w hp => len_v b z.1 l.length z.2 sy w (hp.blkOf ?q1)) ?_); (case q1 => (repeat (first | exact .head _ | apply List.Mem.tail))))))
        | ((with_reducible refine g_call 17 ?_); (first | ((refine' Ef_callP rfl rfl ent_17 (fun w hp => stamp_v b z.1 l.length z.2 sy l w (hp.lrRd ?q1) rfl ?q2 _ hst (hp.blkOf ?q3)) ?_); (case q1 => (repeat (first | exact .head _ | apply List.Mem.tail))); (case q2 => omega); (case q3 => (repeat (first | exact .head _ | apply List.Mem.tail))))))
        | ((with_reducible refine g_call 33 ?_); (first | ((refine' Ef_callP rfl rfl ent_33 (fun w hp => fitted_c a l.length q w ?q1 ?q2) ?_); (case q1 => omega); (case q2 => omega))))
        | ((with_reducible refine g_call 28 ?_); (first | (((refine' Ef_callW [false, true, true, true] rfl rfl ent_28 rfl rfl rfl (fun w hp hp2 => hadd w _ hp2 (hp.rd heE (fun h => heR ?q1)) (fun h => hp.outS [false, true, true, true] rfl (heE.lt h) (heR ?q2))) ?_); (case q1 => rwa [Lg.fit_body] at h); (case q2 => rwa [Lg.fit_body] at h)); rintro ⟨⟨A1, c1⟩, ms⟩ hms)))
        | ((with_reducible refine g_call 29 ?_); (first | refine Ef_callT [false, true, true, true] rfl rfl ent_29 rfl rfl rfl (fun w hp => mark_c b z l sy w _ hp) ?_))
        | ((with_reducible refine g_call 30 ?_); (first | (refine Ef_callX [false, true, true, true] rfl rfl ent_30 rfl rfl rfl (fun w hp => hcut w _ hp) ?_; rintro ⟨⟨A1, c1⟩, ms⟩ hms)))))
        | (first | ((have := hjn); refine T.joinS (x := .seq (.region 2 _ _) _) (α := Unit) (fun _ => [(0, .pointer (some ⟨b, 0, none⟩)), (3, .pointer (some ⟨b1, 0, none⟩)), (4, .int .i64 0), (6, .int .i64 a.kind), (7, .bool true)]) (fun _ => .blk b1 (.cells (aE a).toArray 29 (0, 0)) :: xL b z l sy) (fun _ => True) ?_ ?_) | ((refine joinQ_n () trivial ?qs ?qp); (case qs => (repeat (first | exact Sub.nil | refine Sub.cons rfl ?_))); (case qp => (repeat (first | exact Part.nil | refine Part.p0 ?_ | refine Part.p1 ?_ | refine Part.p2 ?_ | refine Part.p3 ?_ | refine Part.p4 ?_ | refine Part.p5 ?_ | refine Part.p6 ?_)))))
        | ((with_reducible refine g_draw ?_); (first | (((refine' T.draw (id := 6) [(0, true), (1, true), (2, true), (4, true), (3, false), (5, false), (6, false), (7, false), (8, false)] [.blk b1 (.cells (aE a).toArray 29 (0, 0))] mixd ?q1 ?q2 ?_); (case q1 => kernel_rfl); (case q2 => (repeat (first | exact List.nil_sublist _ | refine List.Sublist.cons_cons _ ?_ | refine List.Sublist.cons _ ?_)))))))
        | refine w1 ?_
        | (refine w2 ?_ ?_ <;> intro hc)
        | (refine w4 ?_; (first | ((fail_if_success have := b1); intro b1) | intro _))
        | (refine w5 ?_; (first | ((fail_if_success have := A1); intro A1 c1) | intro _ _))
        | refine w3 ?_ ?_
        | fail_if_success skip)
    rintro ⟨⟩ -
    repeat' (first
        | ((with_reducible refine is_load ?_); (first | ((refine' ⟨_, Yl_loadA_blk rfl ?q1 ?q2, ?_⟩); (case q1 => (repeat (first | exact .head _ | apply List.Mem.tail))); (case q2 => exact agg_of rfl))))
        | ((with_reducible refine ie_callf ?_); (first
        | ((with_reducible refine g_call 15 ?_); (first | ((refine' Ef_callP rfl rfl ent_15 (fun w hp => len_v b z.1 l.length z.2 sy w (hp.blkOf ?q1)) ?_); (case q1 => (repeat (first | exact .head _ | apply List.Mem.tail))))))
        | ((with_reducible refine g_call 17 ?_); (first | ((refine' Ef_callP rfl rfl ent_17 (fun w hp => stamp_v b z.1 l.length z.2 sy l w (hp.lrRd ?q1) rfl ?q2 _ hst (hp.blkOf ?q3)) ?_); (case q1 => (repeat (first | exact .head _ | apply List.Mem.tail))); (case q2 => omega); (case q3 => (repeat (first | exact .head _ | apply List.Mem.tail))))))
        | ((with_reducible refine g_call 33 ?_); (first | ((refine' Ef_callP rfl rfl ent_33 (fun w hp => fitted_c a l.length q w ?q1 ?q2) ?_); (case q1 => omega); (case q2 => omega))))
        | ((with_reducible refine g_call 28 ?_); (first | (((refine' Ef_callW [false, true, true, true] rfl rfl ent_28 rfl rfl rfl (fun w hp hp2 => hadd w _ hp2 (hp.rd heE (fun h => heR ?q1)) (fun h => hp.outS [false, true, true, true] rfl (heE.lt h) (heR ?q2))) ?_); (case q1 => rwa [Lg.fit_body] at h); (case q2 => rwa [Lg.fit_body] at h)); rintro ⟨⟨A1, c1⟩, ms⟩ hms)))
        | ((with_reducible refine g_call 29 ?_); (first | refine Ef_callT [false, true, true, true] rfl rfl ent_29 rfl rfl rfl (fun w hp => mark_c b z l sy w _ hp) ?_))
        | ((with_reducible refine g_call 30 ?_); (first | (refine Ef_callX [false, true, true, true] rfl rfl ent_30 rfl rfl rfl (fun w hp => hcut w _ hp) ?_; rintro ⟨⟨A1, c1⟩, ms⟩ hms)))))
        | (first | ((have := hjn); refine T.joinS (x := .seq (.region 2 _ _) _) (α := Unit) (fun _ => [(0, .pointer (some ⟨b, 0, none⟩)), (3, .pointer (some ⟨b1, 0, none⟩)), (4, .int .i64 0), (6, .int .i64 a.kind), (7, .bool true)]) (fun _ => .blk b1 (.cells (aE a).toArray 29 (0, 0)) :: xL b z l sy) (fun _ => True) ?_ ?_) | ((refine joinQ_n () trivial ?qs ?qp); (case qs => (repeat (first | exact Sub.nil | refine Sub.cons rfl ?_))); (case qp => (repeat (first | exact Part.nil | refine Part.p0 ?_ | refine Part.p1 ?_ | refine Part.p2 ?_ | refine Part.p3 ?_ | refine Part.p4 ?_ | refine Part.p5 ?_ | refine Part.p6 ?_)))))
        | ((with_reducible refine g_draw ?_); (first | (((refine' T.draw (id := 6) [(0, true), (1, true), (2, true), (4, true), (3, false), (5, false), (6, false), (7, false), (8, false)] [.blk b1 (.cells (aE a).toArray 29 (0, 0))] mixd ?q1 ?q2 ?_); (case q1 => kernel_rfl); (case q2 => (repeat (first | exact List.nil_sublist _ | refine List.Sublist.cons_cons _ ?_ | refine List.Sublist.cons _ ?_)))))))
        | refine w1 ?_
        | (refine w2 ?_ ?_ <;> intro hc)
        | (refine w4 ?_; (first | ((fail_if_success have := b1); intro b1) | intro _))
        | (refine w5 ?_; (first | ((fail_if_success have := A1); intro A1 c1) | intro _ _))
        | refine w3 ?_ ?_
        | fail_if_success skip)
    exact ret_n (xL b (A1, c1) ms sy) (res1 rfl rfl) (by (repeat (first | exact List.nil_sublist _ | refine List.Sublist.cons_cons _ ?_ | refine List.Sublist.cons _ ?_))) ⟨((A1, c1), ms), hms, rfl, rfl⟩
  · rw [if_neg hjn, if_neg hjn]
    have hk2 : a.kind = 4 ∨ a.kind = 5 ∨ a.kind < 0 ∨ 5 < a.kind := by omega
    clear hjn
    have hcut := fun w R hp => cut_c b z l sy w R hp a.n
    rcases hk2 with hk2 | hk2 | hk2
    · rw [if_pos hk2, if_pos hk2]
      refine Sp.enter (n := 30) Try.func27 rfl rfl rfl hp ?_
      repeat' (first
          | ((with_reducible refine is_load ?_); (first | ((refine' ⟨_, Yl_loadA_blk rfl ?q1 ?q2, ?_⟩); (case q1 => (repeat (first | exact .head _ | apply List.Mem.tail))); (case q2 => exact agg_of rfl))))
          | ((with_reducible refine ie_callf ?_); (first
          | ((with_reducible refine g_call 15 ?_); (first | ((refine' Ef_callP rfl rfl ent_15 (fun w hp => len_v b z.1 l.length z.2 sy w (hp.blkOf ?q1)) ?_); (case q1 => (repeat (first | exact .head _ | apply List.Mem.tail))))))
          | ((with_reducible refine g_call 17 ?_); (first | ((refine' Ef_callP rfl rfl ent_17 (fun w hp => stamp_v b z.1 l.length z.2 sy l w (hp.lrRd ?q1) rfl ?q2 _ hst (hp.blkOf ?q3)) ?_); (case q1 => (repeat (first | exact .head _ | apply List.Mem.tail))); (case q2 => omega); (case q3 => (repeat (first | exact .head _ | apply List.Mem.tail))))))
          | ((with_reducible refine g_call 33 ?_); (first | ((refine' Ef_callP rfl rfl ent_33 (fun w hp => fitted_c a l.length q w ?q1 ?q2) ?_); (case q1 => omega); (case q2 => omega))))
          | ((with_reducible refine g_call 28 ?_); (first | (((refine' Ef_callW [false, true, true, true] rfl rfl ent_28 rfl rfl rfl (fun w hp hp2 => hadd w _ hp2 (hp.rd heE (fun h => heR ?q1)) (fun h => hp.outS [false, true, true, true] rfl (heE.lt h) (heR ?q2))) ?_); (case q1 => rwa [Lg.fit_body] at h); (case q2 => rwa [Lg.fit_body] at h)); rintro ⟨⟨A1, c1⟩, ms⟩ hms)))
          | ((with_reducible refine g_call 29 ?_); (first | refine Ef_callT [false, true, true, true] rfl rfl ent_29 rfl rfl rfl (fun w hp => mark_c b z l sy w _ hp) ?_))
          | ((with_reducible refine g_call 30 ?_); (first | (refine Ef_callX [false, true, true, true] rfl rfl ent_30 rfl rfl rfl (fun w hp => hcut w _ hp) ?_; rintro ⟨⟨A1, c1⟩, ms⟩ hms)))))
          | (first | ((have := hjn); refine T.joinS (x := .seq (.region 2 _ _) _) (α := Unit) (fun _ => [(0, .pointer (some ⟨b, 0, none⟩)), (3, .pointer (some ⟨b1, 0, none⟩)), (4, .int .i64 0), (6, .int .i64 a.kind), (7, .bool true)]) (fun _ => .blk b1 (.cells (aE a).toArray 29 (0, 0)) :: xL b z l sy) (fun _ => True) ?_ ?_) | ((refine joinQ_n () trivial ?qs ?qp); (case qs => (repeat (first | exact Sub.nil | refine Sub.cons rfl ?_))); (case qp => (repeat (first | exact Part.nil | refine Part.p0 ?_ | refine Part.p1 ?_ | refine Part.p2 ?_ | refine Part.p3 ?_ | refine Part.p4 ?_ | refine Part.p5 ?_ | refine Part.p6 ?_)))))
          | ((with_reducible refine g_draw ?_); (first | (((refine' T.draw (id := 6) [(0, true), (1, true), (2, true), (4, true), (3, false), (5, false), (6, false), (7, false), (8, false)] [.blk b1 (.cells (aE a).toArray 29 (0, 0))] mixd ?q1 ?q2 ?_); (case q1 => kernel_rfl); (case q2 => (repeat (first | exact List.nil_sublist _ | refine List.Sublist.cons_cons _ ?_ | refine List.Sublist.cons _ ?_)))))))
          | refine w1 ?_
          | (refine w2 ?_ ?_ <;> intro hc)
          | (refine w4 ?_; (first | ((fail_if_success have := b1); intro b1) | intro _))
          | (refine w5 ?_; (first | ((fail_if_success have := A1); intro A1 c1) | intro _ _))
          | refine w3 ?_ ?_
          | fail_if_success skip)
      exact ret_n (xL b z l l.length) (res1 rfl rfl) (by (repeat (first | exact List.nil_sublist _ | refine List.Sublist.cons_cons _ ?_ | refine List.Sublist.cons _ ?_))) ⟨(z, l), rfl, rfl, rfl⟩
    · rw [if_neg (show ¬ a.kind = 4 by omega), if_neg (show ¬ a.kind = 4 by omega), if_pos hk2, if_pos hk2]
      refine Sp.enter (n := 30) Try.func27 rfl rfl rfl hp ?_
      repeat' (first
          | ((with_reducible refine is_load ?_); (first | ((refine' ⟨_, Yl_loadA_blk rfl ?q1 ?q2, ?_⟩); (case q1 => (repeat (first | exact .head _ | apply List.Mem.tail))); (case q2 => exact agg_of rfl))))
          | ((with_reducible refine ie_callf ?_); (first
          | ((with_reducible refine g_call 15 ?_); (first | ((refine' Ef_callP rfl rfl ent_15 (fun w hp => len_v b z.1 l.length z.2 sy w (hp.blkOf ?q1)) ?_); (case q1 => (repeat (first | exact .head _ | apply List.Mem.tail))))))
          | ((with_reducible refine g_call 17 ?_); (first | ((refine' Ef_callP rfl rfl ent_17 (fun w hp => stamp_v b z.1 l.length z.2 sy l w (hp.lrRd ?q1) rfl ?q2 _ hst (hp.blkOf ?q3)) ?_); (case q1 => (repeat (first | exact .head _ | apply List.Mem.tail))); (case q2 => omega); (case q3 => (repeat (first | exact .head _ | apply List.Mem.tail))))))
          | ((with_reducible refine g_call 33 ?_); (first | ((refine' Ef_callP rfl rfl ent_33 (fun w hp => fitted_c a l.length q w ?q1 ?q2) ?_); (case q1 => omega); (case q2 => omega))))
          | ((with_reducible refine g_call 28 ?_); (first | (((refine' Ef_callW [false, true, true, true] rfl rfl ent_28 rfl rfl rfl (fun w hp hp2 => hadd w _ hp2 (hp.rd heE (fun h => heR ?q1)) (fun h => hp.outS [false, true, true, true] rfl (heE.lt h) (heR ?q2))) ?_); (case q1 => rwa [Lg.fit_body] at h); (case q2 => rwa [Lg.fit_body] at h)); rintro ⟨⟨A1, c1⟩, ms⟩ hms)))
          | ((with_reducible refine g_call 29 ?_); (first | refine Ef_callT [false, true, true, true] rfl rfl ent_29 rfl rfl rfl (fun w hp => mark_c b z l sy w _ hp) ?_))
          | ((with_reducible refine g_call 30 ?_); (first | (refine Ef_callX [false, true, true, true] rfl rfl ent_30 rfl rfl rfl (fun w hp => hcut w _ hp) ?_; rintro ⟨⟨A1, c1⟩, ms⟩ hms)))))
          | (first | ((have := hjn); refine T.joinS (x := .seq (.region 2 _ _) _) (α := Unit) (fun _ => [(0, .pointer (some ⟨b, 0, none⟩)), (3, .pointer (some ⟨b1, 0, none⟩)), (4, .int .i64 0), (6, .int .i64 a.kind), (7, .bool true)]) (fun _ => .blk b1 (.cells (aE a).toArray 29 (0, 0)) :: xL b z l sy) (fun _ => True) ?_ ?_) | ((refine joinQ_n () trivial ?qs ?qp); (case qs => (repeat (first | exact Sub.nil | refine Sub.cons rfl ?_))); (case qp => (repeat (first | exact Part.nil | refine Part.p0 ?_ | refine Part.p1 ?_ | refine Part.p2 ?_ | refine Part.p3 ?_ | refine Part.p4 ?_ | refine Part.p5 ?_ | refine Part.p6 ?_)))))
          | ((with_reducible refine g_draw ?_); (first | (((refine' T.draw (id := 6) [(0, true), (1, true), (2, true), (4, true), (3, false), (5, false), (6, false), (7, false), (8, false)] [.blk b1 (.cells (aE a).toArray 29 (0, 0))] mixd ?q1 ?q2 ?_); (case q1 => kernel_rfl); (case q2 => (repeat (first | exact List.nil_sublist _ | refine List.Sublist.cons_cons _ ?_ | refine List.Sublist.cons _ ?_)))))))
          | refine w1 ?_
          | (refine w2 ?_ ?_ <;> intro hc)
          | (refine w4 ?_; (first | ((fail_if_success have := b1); intro b1) | intro _))
          | (refine w5 ?_; (first | ((fail_if_success have := A1); intro A1 c1) | intro _ _))
          | refine w3 ?_ ?_
          | fail_if_success skip)
      exact ret_n (xL b (A1, c1) ms _) (res1 rfl rfl) (by (repeat (first | exact List.nil_sublist _ | refine List.Sublist.cons_cons _ ?_ | refine List.Sublist.cons _ ?_))) ⟨((A1, c1), ms), hms, rfl, rfl⟩
    · rw [if_neg (show ¬ a.kind = 4 by omega), if_neg (show ¬ a.kind = 4 by omega), if_neg (show ¬ a.kind = 5 by omega), if_neg (show ¬ a.kind = 5 by omega)]
      refine Sp.enter (n := 30) Try.func27 rfl rfl rfl hp ?_
      repeat' (first
          | ((with_reducible refine is_load ?_); (first | ((refine' ⟨_, Yl_loadA_blk rfl ?q1 ?q2, ?_⟩); (case q1 => (repeat (first | exact .head _ | apply List.Mem.tail))); (case q2 => exact agg_of rfl))))
          | ((with_reducible refine ie_callf ?_); (first
          | ((with_reducible refine g_call 15 ?_); (first | ((refine' Ef_callP rfl rfl ent_15 (fun w hp => len_v b z.1 l.length z.2 sy w (hp.blkOf ?q1)) ?_); (case q1 => (repeat (first | exact .head _ | apply List.Mem.tail))))))
          | ((with_reducible refine g_call 17 ?_); (first | ((refine' Ef_callP rfl rfl ent_17 (fun w hp => stamp_v b z.1 l.length z.2 sy l w (hp.lrRd ?q1) rfl ?q2 _ hst (hp.blkOf ?q3)) ?_); (case q1 => (repeat (first | exact .head _ | apply List.Mem.tail))); (case q2 => omega); (case q3 => (repeat (first | exact .head _ | apply List.Mem.tail))))))
          | ((with_reducible refine g_call 33 ?_); (first | ((refine' Ef_callP rfl rfl ent_33 (fun w hp => fitted_c a l.length q w ?q1 ?q2) ?_); (case q1 => omega); (case q2 => omega))))
          | ((with_reducible refine g_call 28 ?_); (first | (((refine' Ef_callW [false, true, true, true] rfl rfl ent_28 rfl rfl rfl (fun w hp hp2 => hadd w _ hp2 (hp.rd heE (fun h => heR ?q1)) (fun h => hp.outS [false, true, true, true] rfl (heE.lt h) (heR ?q2))) ?_); (case q1 => rwa [Lg.fit_body] at h); (case q2 => rwa [Lg.fit_body] at h)); rintro ⟨⟨A1, c1⟩, ms⟩ hms)))
          | ((with_reducible refine g_call 29 ?_); (first | refine Ef_callT [false, true, true, true] rfl rfl ent_29 rfl rfl rfl (fun w hp => mark_c b z l sy w _ hp) ?_))
          | ((with_reducible refine g_call 30 ?_); (first | (refine Ef_callX [false, true, true, true] rfl rfl ent_30 rfl rfl rfl (fun w hp => hcut w _ hp) ?_; rintro ⟨⟨A1, c1⟩, ms⟩ hms)))))
          | (first | ((have := hjn); refine T.joinS (x := .seq (.region 2 _ _) _) (α := Unit) (fun _ => [(0, .pointer (some ⟨b, 0, none⟩)), (3, .pointer (some ⟨b1, 0, none⟩)), (4, .int .i64 0), (6, .int .i64 a.kind), (7, .bool true)]) (fun _ => .blk b1 (.cells (aE a).toArray 29 (0, 0)) :: xL b z l sy) (fun _ => True) ?_ ?_) | ((refine joinQ_n () trivial ?qs ?qp); (case qs => (repeat (first | exact Sub.nil | refine Sub.cons rfl ?_))); (case qp => (repeat (first | exact Part.nil | refine Part.p0 ?_ | refine Part.p1 ?_ | refine Part.p2 ?_ | refine Part.p3 ?_ | refine Part.p4 ?_ | refine Part.p5 ?_ | refine Part.p6 ?_)))))
          | ((with_reducible refine g_draw ?_); (first | (((refine' T.draw (id := 6) [(0, true), (1, true), (2, true), (4, true), (3, false), (5, false), (6, false), (7, false), (8, false)] [.blk b1 (.cells (aE a).toArray 29 (0, 0))] mixd ?q1 ?q2 ?_); (case q1 => kernel_rfl); (case q2 => (repeat (first | exact List.nil_sublist _ | refine List.Sublist.cons_cons _ ?_ | refine List.Sublist.cons _ ?_)))))))
          | refine w1 ?_
          | (refine w2 ?_ ?_ <;> intro hc)
          | (refine w4 ?_; (first | ((fail_if_success have := b1); intro b1) | intro _))
          | (refine w5 ?_; (first | ((fail_if_success have := A1); intro A1 c1) | intro _ _))
          | refine w3 ?_ ?_
          | fail_if_success skip)
      exact ret_n (xL b z l sy) (res1 rfl rfl) (by (repeat (first | exact List.nil_sublist _ | refine List.Sublist.cons_cons _ ?_ | refine List.Sublist.cons _ ?_))) ⟨(z, l), rfl, rfl, rfl⟩
end
end Go.Proofs.Ytegaejbfhpigjaa
