/- The chapter's examples: what a call comes to. -/
import Derived.Test.YtegaejbfhpigjaaT14
namespace Go.Proofs.Ytegaejbfhpigjaa
open Go.RowKit
set_option maxRecDepth 20000

section
variable {b : Nat} {z : Hd} {l : List Me} {sy : Int} {q : List En} (hq : l.map (·.1) = q)
include hq
theorem addq {e : En} {q' : List En} {r : Int} (ha : Lg.add q e = (q', r)) (hl : l.length ≤ 200) (h0 : e.body = []) (w : World) (R : List Nat) (hp : Hp w R (xL b z l sy) w) : Sp Try.prog 28 [.pointer (some ⟨b, 0, none⟩), .agg (mE (e, (none, 0))).toArray] w R fun v N => ∃ y : Hd × List Me, y.2.map (·.1) = q' ∧ v = .int .i64 r ∧ N = xL b y.1 y.2 sy := by
  have := add_c b z l sy (e, (none, 0)) w R hp hl (by unfold In; rw [h0]; exact Rd.nil) (fun h => by rw [h0] at h; cases h) (by rw [h0]; exact Nat.zero_le _)
  rw [hq] at this
  dsimp only at this
  rw [ha] at this
  exact this
theorem cutq {n : Int} {q' : List En} {s' r : Int} (hc : Lg.cut q sy n = ((q', s'), r)) (w : World) (R : List Nat) (hp : Hp w R (xL b z l sy) w) : Sp Try.prog 30 [.pointer (some ⟨b, 0, none⟩), .int .i64 n] w R fun v N => ∃ y : Hd × List Me, y.2.map (·.1) = q' ∧ v = .int .i64 r ∧ N = xL b y.1 y.2 s' := by
  have := cut_c b z l sy w R hp n
  rw [hq, hc] at this
  exact this
theorem fromq {i n : Int} {q' : List En} (hf : Lg.frm q i n = q') (hl : q.length ≤ 200) (hb : ∀ x ∈ q, x.body.length ≤ 6000) (w : World) (hr : Rd w z.1 l.length 5 (l.flatMap mE)) (hin : Ins w l) (hb0 : w.heap[b]? = some (.cells (lgC true (.slice z.1 l.length z.2) sy) 50 (0, 0))) (hcap : l.length ≤ z.2) :
    Sp Try.prog 19 [.pointer (some ⟨b, 0, none⟩), .int .i64 i, .int .i64 n] w [] fun v N => ∃ y : Hd × List Me, y.2.map (·.1) = q' ∧ v = .slice y.1.1 y.2.length y.1.2 ∧ N = [rM y.2 y.1, bag (y.2.map bA)] := by
  have := from_q b z.1 l.length z.2 sy l q hq hl w hr rfl hin hb i n hb0 hcap
  rw [hf] at this
  exact this
theorem hasq {c i bh : Int} {r : Bool} (hh : Lg.has2 q c i bh = r) (hl : l.length ≤ 200) (w : World) (hr : Rd w z.1 l.length 5 (l.flatMap mE)) (hb0 : w.heap[b]? = some (.cells (lgC true (.slice z.1 l.length z.2) sy) 50 (0, 0))) (hcap : l.length ≤ z.2) :
    Sp Try.prog 24 [.pointer (some ⟨b, 0, none⟩), .int .i64 c, .int .i64 i, .int .i64 bh] w [] fun v N => v = .bool r ∧ N = [] := by
  have := has_c b z.1 l.length z.2 sy l w hb0 hr rfl hcap hl c i bh
  rw [hq, hh] at this
  exact this
end

abbrev x1 : En := ⟨1, 5, 1, 1, []⟩
abbrev x2 : En := ⟨2, 5, 1, 2, []⟩
set_option maxHeartbeats 8000000 in
theorem awake_c (w : World) : Sp Try.prog 26 [] w [] fun v N => v = .bool true ∧ N = [] := by
  have a1 : Lg.add [] x1 = ([x1], 0) := by decide +kernel
  have a2 : Lg.add [x1] x1 = ([x1], 230) := by decide +kernel
  have a3 : Lg.add [x1] ⟨2, 4, 1, 2, []⟩ = ([x1], 2) := by decide +kernel
  have a4 : Lg.add [x1] x2 = ([x1, x2], 0) := by decide +kernel
  have f1 : Lg.frm [x1, x2] 2 9 = [x2] := by decide +kernel
  have f2 : ∀ x ∈ [x1, x2], x.body.length ≤ 6000 := by simp
  have s1 : Lg.has2 [x1, x2] 1 2 1 = true := by decide +kernel
  have s2 : Lg.has2 [x1, x2] 1 2 2 = false := by decide +kernel
  have k1 : ∀ l4 : List Me, l4.length = 2 → Lg.cut [x1, x2] l4.length 3 = (([x1, x2], 2), 2) := fun l4 h => by rw [h]; decide +kernel
  have k2 : Lg.cut [x1, x2] 2 1 = (([x1], 1), 0) := by decide +kernel
  refine Sp.enter (n := 102) Try.func26 rfl rfl rfl (Hp.refl w) ?_
  repeat' (first
      | ((with_reducible refine is_load ?_); (first | ((refine' ⟨_, Yl_load_row rfl ?q1 ?q2 o1, ?_⟩); (case q1 => exact one_of rfl); (case q2 => (repeat (first | exact .head _ | apply List.Mem.tail))))))
      | ((with_reducible refine is_idx ?_); (first | ((refine' ⟨_, Yl_index_hp (j := 0) rfl rfl ?q1 ?q2 ?q3 (fun w hp => hp.rowOf ?q4), ?_⟩); (case q1 => exact und_of rfl); (case q2 => exact siz_of rfl); (case q3 => omega); (case q4 => (repeat (first | exact .head _ | apply List.Mem.tail))))))
      | ((with_reducible refine ie_callf ?_); (first
      | ((with_reducible refine g_call 13 ?_); (first | (refine Ef_callN rfl rfl ent_13 (fun w _ => new_c w) ?_; rintro b)))
      | ((with_reducible refine g_call 44 ?_); (first | refine Ef_callP rfl rfl ent_44 (fun w _ => entry_c _ _ w) ?_))
      | ((with_reducible refine g_call 28 ?_); (first | (((refine' Ef_callX1 [true, true, true] rfl rfl ent_28 rfl rfl rfl (fun w _ hp => addq (b := b) (z := (none, 0)) (l := []) (sy := 0) (q := []) rfl a1 ?q1 rfl w _ hp) ?_); (case q1 => decide)); intro z1 l1 h1; have n1 : l1.length = 1 := len_map h1) | (((refine' Ef_callX1 [true, true, true] rfl rfl ent_28 rfl rfl rfl (fun w _ hp => addq h1 a2 ?q1 rfl w _ hp) ?_); (case q1 => omega)); intro z2 l2 h2; have n2 : l2.length = 1 := len_map h2) | (((refine' Ef_callX1 [true, true, true] rfl rfl ent_28 rfl rfl rfl (fun w _ hp => addq h2 a3 ?q1 rfl w _ hp) ?_); (case q1 => omega)); intro z3 l3 h3; have n3 : l3.length = 1 := len_map h3) | (((refine' Ef_callX1 [true, true, true] rfl rfl ent_28 rfl rfl rfl (fun w _ hp => addq h3 a4 ?q1 rfl w _ hp) ?_); (case q1 => omega)); intro z4 l4 h4; have n4 : l4.length = 2 := len_map h4)))
      | ((with_reducible refine g_call 15 ?_); (first | ((refine' Ef_callP rfl rfl ent_15 (fun w hp => len_v b z4.1 l4.length z4.2 0 w (hp.blkOf ?q1)) ?_); (case q1 => (repeat (first | exact .head _ | apply List.Mem.tail)))) | ((refine' Ef_callP rfl rfl ent_15 (fun w hp => len_v b z6.1 l6.length z6.2 1 w (hp.blkOf ?q1)) ?_); (case q1 => (repeat (first | exact .head _ | apply List.Mem.tail))))))
      | ((with_reducible refine g_call 16 ?_); (first | ((refine' Ef_callP rfl rfl ent_16 (fun w hp => synced_v b z4.1 l4.length z4.2 0 w (hp.blkOf ?q1)) ?_); (case q1 => (repeat (first | exact .head _ | apply List.Mem.tail)))) | ((refine' Ef_callP rfl rfl ent_16 (fun w hp => synced_v b z4.1 l4.length z4.2 l4.length w (hp.blkOf ?q1)) ?_); (case q1 => (repeat (first | exact .head _ | apply List.Mem.tail)))) | ((refine' Ef_callP rfl rfl ent_16 (fun w hp => synced_v b z6.1 l6.length z6.2 1 w (hp.blkOf ?q1)) ?_); (case q1 => (repeat (first | exact .head _ | apply List.Mem.tail))))))
      | ((with_reducible refine g_call 29 ?_); (first | refine Ef_callT [true, true, true] rfl rfl ent_29 rfl rfl rfl (fun w hp => mark_c b z4 l4 0 w _ hp) ?_))
      | ((with_reducible refine g_call 19 ?_); (first | (((refine' Ef_callF rfl rfl ent_19 (fun w hp => fromq h4 f1 ?q1 f2 w (hp.lrRd ?q2) (hp.ins_bag ?q3) (hp.blkOf ?q4) (hp.lrCap ?q5)) ?_); (case q1 => decide); (case q2 => (repeat (first | exact .head _ | apply List.Mem.tail))); (case q3 => (repeat (first | exact .head _ | apply List.Mem.tail))); (case q4 => (repeat (first | exact .head _ | apply List.Mem.tail))); (case q5 => (repeat (first | exact .head _ | apply List.Mem.tail)))); intro A5 c5 ms hms; have n5 : ms.length = 1 := len_map hms; obtain ⟨h9, h9e⟩ := oneAt hms; have o1 : (ms.flatMap mE)[0 * 5 + 0]? = some (.int .i64 2) := enc_at mE_len h9e (j := 0) (by decide))))
      | ((with_reducible refine g_call 17 ?_); (first | ((refine' Ef_callP rfl rfl ent_17 (fun w hp => stamp_v b z4.1 l4.length z4.2 l4.length l4 w (hp.lrRd ?q1) rfl ?q2 5 ?q3 (hp.blkOf ?q4)) ?_); (case q1 => (repeat (first | exact .head _ | apply List.Mem.tail))); (case q2 => omega); (case q3 => rw [h4]; decide +kernel); (case q4 => (repeat (first | exact .head _ | apply List.Mem.tail))))))
      | ((with_reducible refine g_call 24 ?_); (first | ((refine' Ef_callP rfl rfl ent_24 (fun w hp => hasq h4 s1 ?q1 w (hp.lrRd ?q2) (hp.blkOf ?q3) (hp.lrCap ?q4)) ?_); (case q1 => omega); (case q2 => (repeat (first | exact .head _ | apply List.Mem.tail))); (case q3 => (repeat (first | exact .head _ | apply List.Mem.tail))); (case q4 => (repeat (first | exact .head _ | apply List.Mem.tail)))) | ((refine' Ef_callP rfl rfl ent_24 (fun w hp => hasq h4 s2 ?q1 w (hp.lrRd ?q2) (hp.blkOf ?q3) (hp.lrCap ?q4)) ?_); (case q1 => omega); (case q2 => (repeat (first | exact .head _ | apply List.Mem.tail))); (case q3 => (repeat (first | exact .head _ | apply List.Mem.tail))); (case q4 => (repeat (first | exact .head _ | apply List.Mem.tail))))))
      | ((with_reducible refine g_call 30 ?_); (first | (refine Ef_callX1 [false, false, true, true, true] rfl rfl ent_30 rfl rfl rfl (fun w _ hp => cutq h4 (k1 l4 n4) w _ hp) ?_; intro z5 l5 h5; have m5 : l5.length = 2 := len_map h5) | (refine Ef_callX1 [true, true, true] rfl rfl ent_30 rfl rfl rfl (fun w _ hp => cutq h5 k2 w _ hp) ?_; intro z6 l6 h6; have n6 : l6.length = 1 := len_map h6)))))
      | refine w1 ?_
      | (refine w2 ?_ ?_ <;> intro hc)
      | (refine w4 ?_; (intro _))
      | (refine w5 ?_; (first | ((fail_if_success have := A1); intro A1 c1) | ((fail_if_success have := A2); intro A2 c2) | ((fail_if_success have := A3); intro A3 c3) | ((fail_if_success have := A4); intro A4 c4) | ((fail_if_success have := A5); intro A5 c5) | intro _ _))
      | refine w3 ?_ ?_
      | fail_if_success skip)
  exact ret_n [] (res1 rfl rfl) (List.nil_sublist _) ⟨rfl, rfl⟩
end Go.Proofs.Ytegaejbfhpigjaa
