/- An act on a net and on the document's: Take, Drop, Double, what is no act, on nets of any size: what a call of one comes to. -/
import Derived.Test.YtdbpnolpgkcjiaaT16
namespace Go.Proofs.Ytdbpnolpgkcjiaa
open Go.RowKit Go.Conc

/-- What an act leaves of both nets. -/
def OneG (b c b' : Nat) (v : Value) (N : List Asrt) : Prop := ∃ y : List Pk × Hd × List Pk, (y.1.map (·.1) = y.2.2.map (·.1) ∧ y.1.length ≤ 4096 ∧ ∀ p ∈ y.1, p.1.length ≤ 140737488355328) ∧ v = .bool true ∧ N = xL b c y.1 ++ yL b' y.2.1 y.2.2
section
variable (b c b' : Nat) (z : Hd) (lx ly : List Pk) (a : Ac) (w : World) (R : List Nat) (hp : Hp w R (xL b c lx ++ yL b' z ly) w) (hxy : lx.map (·.1) = ly.map (·.1)) (hl : lx.length ≤ 4096) (hlb : ∀ p ∈ lx, p.1.length ≤ 140737488355328)
include hp hxy hl hlb
set_option maxHeartbeats 4000000 in
theorem oneG_take (hk : a.kind = 3 ∨ a.kind = 4) : Sp Try.prog 17 [.pointer (some ⟨b, 0, none⟩), .pointer (some ⟨b', 0, none⟩), .agg (aE a).toArray] w R (OneG b c b') := by
  have hll := maps_len hxy
  rcases Nat.eq_zero_or_pos lx.length with hz | hz
  · obtain rfl : lx = [] := List.eq_nil_of_length_eq_zero hz
    obtain rfl : ly = [] := List.eq_nil_of_length_eq_zero hll.symm
    refine Sp.part (Res := fun v N => v = .bool true ∧ N = yL b' z [] ++ xL b c []) ?_ (fun v N ⟨h1, h2⟩ => ⟨xL b c [] ++ yL b' z [], by subst h2; (repeat (first | exact Part.nil | refine Part.p0 ?_ | refine Part.p1 ?_ | refine Part.p2 ?_ | refine Part.p3 ?_ | refine Part.p4 ?_ | refine Part.p5 ?_ | refine Part.p6 ?_)), ([], z, []), ⟨rfl, Nat.zero_le _, hlb⟩, h1, rfl⟩)
    rcases hk with hk | hk
    all_goals
      refine Sp.enter (n := 128) Try.func17 rfl rfl rfl hp ?_
      repeat' (first
          | ((with_reducible refine ie_callf ?_); (first
          | ((with_reducible refine g_call 14 ?_); (first | ((refine' Ef_callT [false, true, true, true, false, false, false] rfl rfl ent_14 rfl rfl rfl (fun w hp => take_c b c w _ lx hp a.n ?q1 x0 h0) ?_); (case q1 => omega)) | refine Ef_callT [false, true, true, true, false, false, false] rfl rfl ent_14 rfl rfl rfl (fun w hp => takeE_c b c w _ a.n hp) ?_))
          | ((with_reducible refine g_call 15 ?_); (first | ((refine' Ef_callT [false, true, true, true, false, false, false] rfl rfl ent_15 rfl rfl rfl (fun w hp => drop_c b c w _ lx hp a.n ?q1 x0 h0) ?_); (case q1 => omega)) | refine Ef_callT [false, true, true, true, false, false, false] rfl rfl ent_15 rfl rfl rfl (fun w hp => dropE_c b c w _ a.n hp) ?_))
          | ((with_reducible refine g_call 11 ?_); (first | (((refine' Ef_callX (φ := fun ns : List Pk => ns.map (·.1) = [x0.1]) [false, true, true, true, false, false, false] rfl rfl ent_11 rfl rfl rfl (fun w hp => double_c b c w _ lx hp hlb a.n ?q1 x0 h0) ?_); (case q1 => omega)); rintro ns hns) | ((refine' Ef_callT [false, true, true, true, false, false, false] rfl rfl ent_11 rfl rfl rfl (fun w hp => doubleF_c b c w _ lx ?q1 hp hlb a.n ?q2 x0 h0) ?_); (case q1 => omega); (case q2 => omega)) | refine Ef_callT [false, true, true, true, false, false, false] rfl rfl ent_11 rfl rfl rfl (fun w hp => doubleE_c b c w _ a.n hp) ?_))
          | ((with_reducible refine g_call 30 ?_); (first | (((refine' Ef_callX (φ := fun _ : Hd => True) [false, false, false, false, false, true, true, true] rfl rfl ent_30 rfl rfl rfl (fun w hp => rtakeG_c b' z ly w _ hp ?q1 a.n y0 h1) ?_); (case q1 => omega)); rintro z2 -) | (((refine' Ef_callX (φ := fun _ : Hd => True) [false, false, false, false, true, true, true] rfl rfl ent_30 rfl rfl rfl (fun w hp => rtakeG_c b' z ly w _ hp ?q1 a.n y0 h1) ?_); (case q1 => omega)); rintro z2 -) | refine Ef_callT [false, false, false, false, true, true, true] rfl rfl ent_30 rfl rfl rfl (fun w hp => rtakeE_c b' z [] w _ hp rfl a.n) ?_))
          | ((with_reducible refine g_call 32 ?_); (first | (((refine' Ef_callX (φ := fun y : Hd × List Pk => y.2.map (·.1) = ly.map (·.1) ++ [y0.1]) [false, false, false, false, true, true, true] rfl rfl ent_32 rfl rfl rfl (fun w hp => rdouble_c b' z ly w _ hp a.n ?q1 y0 h1 h5y) ?_); (case q1 => omega)); rintro ⟨z2, ms⟩ hms) | ((refine' Ef_callT [false, false, false, false, true, true, true] rfl rfl ent_32 rfl rfl rfl (fun w hp => rdoubleF_c b' z ly w _ hp ?q1 a.n ?q2) ?_); (case q1 => omega); (case q2 => omega)) | refine Ef_callT [false, false, false, false, true, true, true] rfl rfl ent_32 rfl rfl rfl (fun w hp => rdoubleE_c b' z [] w _ hp rfl a.n) ?_))
          | ((with_reducible refine g_call 31 ?_); (first | ((refine' Ef_callP rfl rfl ent_31 (fun w hp => bsame_v x0.2.1 x0.2.2 x0.1 y0.2.1 y0.2.2 y0.1 w (hp.in_row (p := x0) ?q1) (hp.in_row (p := y0) ?q2) true (decide_eq_true hxy0) ?q3) ?_); (case q1 => (repeat (first | exact .head _ | apply List.Mem.tail))); (case q2 => (repeat (first | exact .head _ | apply List.Mem.tail))); (case q3 => omega)) | ((refine' Ef_callP rfl rfl ent_31 (fun w hp => bsame_v none 0 [] none 0 [] w Rd.nil Rd.nil true (decide_eq_true rfl) ?q1) ?_); (case q1 => simp))))))
          | refine w1 ?_
          | (refine w2 ?_ ?_ <;> intro hc)
          | (refine w4 ?_; (intro _))
          | (refine w5 ?_; (intro _ _))
          | refine w3 ?_ ?_
          | fail_if_success skip)
      exact ret_n (yL b' z [] ++ xL b c []) (res1 rfl rfl) (by (repeat (first | exact List.nil_sublist _ | refine List.Sublist.cons_cons _ ?_ | refine List.Sublist.cons _ ?_))) ⟨rfl, rfl⟩
  · obtain ⟨x0, h0⟩ := some_of_lt (l := lx) (i := plc a.n lx.length) (plc_lt hz)
    obtain ⟨y0, h1, hxy0⟩ := maps_at hxy h0
    have hlt := (List.getElem?_eq_some_iff.1 h0).1
    have h5x := hlb x0 (mem_of_some h0)
    have hme := map_erase hxy (plc a.n lx.length)
    have hel : (lx.eraseIdx (plc a.n lx.length)).length = lx.length - 1 := List.length_eraseIdx_of_lt hlt
    rw [hll] at h1
    refine Sp.part (Res := fun v N => ∃ z2, v = .bool true ∧ N = yL b' z2 (ly.eraseIdx (plc a.n ly.length)) ++ xL b c (lx.eraseIdx (plc a.n lx.length))) ?_ (fun v N ⟨z2, h1, h2⟩ => ⟨xL b c (lx.eraseIdx (plc a.n lx.length)) ++ yL b' z2 (ly.eraseIdx (plc a.n ly.length)), by subst h2; (repeat (first | exact Part.nil | refine Part.p0 ?_ | refine Part.p1 ?_ | refine Part.p2 ?_ | refine Part.p3 ?_ | refine Part.p4 ?_ | refine Part.p5 ?_ | refine Part.p6 ?_)), (lx.eraseIdx (plc a.n lx.length), z2, ly.eraseIdx (plc a.n ly.length)), ⟨by rw [← hll]; exact hme, by dsimp only; omega, fun q hq => hlb q (List.mem_of_mem_eraseIdx hq)⟩, h1, rfl⟩)
    rcases hk with hk | hk
    all_goals
      refine Sp.enter (n := 128) Try.func17 rfl rfl rfl hp ?_
      repeat' (first
          | ((with_reducible refine ie_callf ?_); (first
          | ((with_reducible refine g_call 14 ?_); (first | ((refine' Ef_callT [false, true, true, true, false, false, false] rfl rfl ent_14 rfl rfl rfl (fun w hp => take_c b c w _ lx hp a.n ?q1 x0 h0) ?_); (case q1 => omega)) | refine Ef_callT [false, true, true, true, false, false, false] rfl rfl ent_14 rfl rfl rfl (fun w hp => takeE_c b c w _ a.n hp) ?_))
          | ((with_reducible refine g_call 15 ?_); (first | ((refine' Ef_callT [false, true, true, true, false, false, false] rfl rfl ent_15 rfl rfl rfl (fun w hp => drop_c b c w _ lx hp a.n ?q1 x0 h0) ?_); (case q1 => omega)) | refine Ef_callT [false, true, true, true, false, false, false] rfl rfl ent_15 rfl rfl rfl (fun w hp => dropE_c b c w _ a.n hp) ?_))
          | ((with_reducible refine g_call 11 ?_); (first | (((refine' Ef_callX (φ := fun ns : List Pk => ns.map (·.1) = [x0.1]) [false, true, true, true, false, false, false] rfl rfl ent_11 rfl rfl rfl (fun w hp => double_c b c w _ lx hp hlb a.n ?q1 x0 h0) ?_); (case q1 => omega)); rintro ns hns) | ((refine' Ef_callT [false, true, true, true, false, false, false] rfl rfl ent_11 rfl rfl rfl (fun w hp => doubleF_c b c w _ lx ?q1 hp hlb a.n ?q2 x0 h0) ?_); (case q1 => omega); (case q2 => omega)) | refine Ef_callT [false, true, true, true, false, false, false] rfl rfl ent_11 rfl rfl rfl (fun w hp => doubleE_c b c w _ a.n hp) ?_))
          | ((with_reducible refine g_call 30 ?_); (first | (((refine' Ef_callX (φ := fun _ : Hd => True) [false, false, false, false, false, true, true, true] rfl rfl ent_30 rfl rfl rfl (fun w hp => rtakeG_c b' z ly w _ hp ?q1 a.n y0 h1) ?_); (case q1 => omega)); rintro z2 -) | (((refine' Ef_callX (φ := fun _ : Hd => True) [false, false, false, false, true, true, true] rfl rfl ent_30 rfl rfl rfl (fun w hp => rtakeG_c b' z ly w _ hp ?q1 a.n y0 h1) ?_); (case q1 => omega)); rintro z2 -) | refine Ef_callT [false, false, false, false, true, true, true] rfl rfl ent_30 rfl rfl rfl (fun w hp => rtakeE_c b' z [] w _ hp rfl a.n) ?_))
          | ((with_reducible refine g_call 32 ?_); (first | (((refine' Ef_callX (φ := fun y : Hd × List Pk => y.2.map (·.1) = ly.map (·.1) ++ [y0.1]) [false, false, false, false, true, true, true] rfl rfl ent_32 rfl rfl rfl (fun w hp => rdouble_c b' z ly w _ hp a.n ?q1 y0 h1 h5y) ?_); (case q1 => omega)); rintro ⟨z2, ms⟩ hms) | ((refine' Ef_callT [false, false, false, false, true, true, true] rfl rfl ent_32 rfl rfl rfl (fun w hp => rdoubleF_c b' z ly w _ hp ?q1 a.n ?q2) ?_); (case q1 => omega); (case q2 => omega)) | refine Ef_callT [false, false, false, false, true, true, true] rfl rfl ent_32 rfl rfl rfl (fun w hp => rdoubleE_c b' z [] w _ hp rfl a.n) ?_))
          | ((with_reducible refine g_call 31 ?_); (first | ((refine' Ef_callP rfl rfl ent_31 (fun w hp => bsame_v x0.2.1 x0.2.2 x0.1 y0.2.1 y0.2.2 y0.1 w (hp.in_row (p := x0) ?q1) (hp.in_row (p := y0) ?q2) true (decide_eq_true hxy0) ?q3) ?_); (case q1 => (repeat (first | exact .head _ | apply List.Mem.tail))); (case q2 => (repeat (first | exact .head _ | apply List.Mem.tail))); (case q3 => omega)) | ((refine' Ef_callP rfl rfl ent_31 (fun w hp => bsame_v none 0 [] none 0 [] w Rd.nil Rd.nil true (decide_eq_true rfl) ?q1) ?_); (case q1 => simp))))))
          | refine w1 ?_
          | (refine w2 ?_ ?_ <;> intro hc)
          | (refine w4 ?_; (intro _))
          | (refine w5 ?_; (intro _ _))
          | refine w3 ?_ ?_
          | fail_if_success skip)
      exact ret_n (yL b' z2 (ly.eraseIdx (plc a.n ly.length)) ++ xL b c (lx.eraseIdx (plc a.n lx.length))) (res1 rfl rfl) (by (repeat (first | exact List.nil_sublist _ | refine List.Sublist.cons_cons _ ?_ | refine List.Sublist.cons _ ?_))) ⟨z2, rfl, rfl⟩
set_option maxHeartbeats 4000000 in
theorem oneG_drop (hk : a.kind = 5) : Sp Try.prog 17 [.pointer (some ⟨b, 0, none⟩), .pointer (some ⟨b', 0, none⟩), .agg (aE a).toArray] w R (OneG b c b') := by
  have hll := maps_len hxy
  rcases Nat.eq_zero_or_pos lx.length with hz | hz
  · obtain rfl : lx = [] := List.eq_nil_of_length_eq_zero hz
    obtain rfl : ly = [] := List.eq_nil_of_length_eq_zero hll.symm
    refine Sp.part (Res := fun v N => v = .bool true ∧ N = yL b' z [] ++ xL b c []) ?_ (fun v N ⟨h1, h2⟩ => ⟨xL b c [] ++ yL b' z [], by subst h2; (repeat (first | exact Part.nil | refine Part.p0 ?_ | refine Part.p1 ?_ | refine Part.p2 ?_ | refine Part.p3 ?_ | refine Part.p4 ?_ | refine Part.p5 ?_ | refine Part.p6 ?_)), ([], z, []), ⟨rfl, Nat.zero_le _, hlb⟩, h1, rfl⟩)
    refine Sp.enter (n := 128) Try.func17 rfl rfl rfl hp ?_
    repeat' (first
        | ((with_reducible refine ie_callf ?_); (first
        | ((with_reducible refine g_call 14 ?_); (first | ((refine' Ef_callT [false, true, true, true, false, false, false] rfl rfl ent_14 rfl rfl rfl (fun w hp => take_c b c w _ lx hp a.n ?q1 x0 h0) ?_); (case q1 => omega)) | refine Ef_callT [false, true, true, true, false, false, false] rfl rfl ent_14 rfl rfl rfl (fun w hp => takeE_c b c w _ a.n hp) ?_))
        | ((with_reducible refine g_call 15 ?_); (first | ((refine' Ef_callT [false, true, true, true, false, false, false] rfl rfl ent_15 rfl rfl rfl (fun w hp => drop_c b c w _ lx hp a.n ?q1 x0 h0) ?_); (case q1 => omega)) | refine Ef_callT [false, true, true, true, false, false, false] rfl rfl ent_15 rfl rfl rfl (fun w hp => dropE_c b c w _ a.n hp) ?_))
        | ((with_reducible refine g_call 11 ?_); (first | (((refine' Ef_callX (φ := fun ns : List Pk => ns.map (·.1) = [x0.1]) [false, true, true, true, false, false, false] rfl rfl ent_11 rfl rfl rfl (fun w hp => double_c b c w _ lx hp hlb a.n ?q1 x0 h0) ?_); (case q1 => omega)); rintro ns hns) | ((refine' Ef_callT [false, true, true, true, false, false, false] rfl rfl ent_11 rfl rfl rfl (fun w hp => doubleF_c b c w _ lx ?q1 hp hlb a.n ?q2 x0 h0) ?_); (case q1 => omega); (case q2 => omega)) | refine Ef_callT [false, true, true, true, false, false, false] rfl rfl ent_11 rfl rfl rfl (fun w hp => doubleE_c b c w _ a.n hp) ?_))
        | ((with_reducible refine g_call 30 ?_); (first | (((refine' Ef_callX (φ := fun _ : Hd => True) [false, false, false, false, false, true, true, true] rfl rfl ent_30 rfl rfl rfl (fun w hp => rtakeG_c b' z ly w _ hp ?q1 a.n y0 h1) ?_); (case q1 => omega)); rintro z2 -) | (((refine' Ef_callX (φ := fun _ : Hd => True) [false, false, false, false, true, true, true] rfl rfl ent_30 rfl rfl rfl (fun w hp => rtakeG_c b' z ly w _ hp ?q1 a.n y0 h1) ?_); (case q1 => omega)); rintro z2 -) | refine Ef_callT [false, false, false, false, true, true, true] rfl rfl ent_30 rfl rfl rfl (fun w hp => rtakeE_c b' z [] w _ hp rfl a.n) ?_))
        | ((with_reducible refine g_call 32 ?_); (first | (((refine' Ef_callX (φ := fun y : Hd × List Pk => y.2.map (·.1) = ly.map (·.1) ++ [y0.1]) [false, false, false, false, true, true, true] rfl rfl ent_32 rfl rfl rfl (fun w hp => rdouble_c b' z ly w _ hp a.n ?q1 y0 h1 h5y) ?_); (case q1 => omega)); rintro ⟨z2, ms⟩ hms) | ((refine' Ef_callT [false, false, false, false, true, true, true] rfl rfl ent_32 rfl rfl rfl (fun w hp => rdoubleF_c b' z ly w _ hp ?q1 a.n ?q2) ?_); (case q1 => omega); (case q2 => omega)) | refine Ef_callT [false, false, false, false, true, true, true] rfl rfl ent_32 rfl rfl rfl (fun w hp => rdoubleE_c b' z [] w _ hp rfl a.n) ?_))
        | ((with_reducible refine g_call 31 ?_); (first | ((refine' Ef_callP rfl rfl ent_31 (fun w hp => bsame_v x0.2.1 x0.2.2 x0.1 y0.2.1 y0.2.2 y0.1 w (hp.in_row (p := x0) ?q1) (hp.in_row (p := y0) ?q2) true (decide_eq_true hxy0) ?q3) ?_); (case q1 => (repeat (first | exact .head _ | apply List.Mem.tail))); (case q2 => (repeat (first | exact .head _ | apply List.Mem.tail))); (case q3 => omega)) | ((refine' Ef_callP rfl rfl ent_31 (fun w hp => bsame_v none 0 [] none 0 [] w Rd.nil Rd.nil true (decide_eq_true rfl) ?q1) ?_); (case q1 => simp))))))
        | refine w1 ?_
        | (refine w2 ?_ ?_ <;> intro hc)
        | (refine w4 ?_; (intro _))
        | (refine w5 ?_; (intro _ _))
        | refine w3 ?_ ?_
        | fail_if_success skip)
    exact ret_n (yL b' z [] ++ xL b c []) (res1 rfl rfl) (by (repeat (first | exact List.nil_sublist _ | refine List.Sublist.cons_cons _ ?_ | refine List.Sublist.cons _ ?_))) ⟨rfl, rfl⟩
  · obtain ⟨x0, h0⟩ := some_of_lt (l := lx) (i := plc a.n lx.length) (plc_lt hz)
    obtain ⟨y0, h1, hxy0⟩ := maps_at hxy h0
    have hlt := (List.getElem?_eq_some_iff.1 h0).1
    have hme := map_erase hxy (plc a.n lx.length)
    have hel : (lx.eraseIdx (plc a.n lx.length)).length = lx.length - 1 := List.length_eraseIdx_of_lt hlt
    rw [hll] at h1
    refine Sp.part (Res := fun v N => ∃ z2, v = .bool true ∧ N = yL b' z2 (ly.eraseIdx (plc a.n ly.length)) ++ xL b c (lx.eraseIdx (plc a.n lx.length))) ?_ (fun v N ⟨z2, h1, h2⟩ => ⟨xL b c (lx.eraseIdx (plc a.n lx.length)) ++ yL b' z2 (ly.eraseIdx (plc a.n ly.length)), by subst h2; (repeat (first | exact Part.nil | refine Part.p0 ?_ | refine Part.p1 ?_ | refine Part.p2 ?_ | refine Part.p3 ?_ | refine Part.p4 ?_ | refine Part.p5 ?_ | refine Part.p6 ?_)), (lx.eraseIdx (plc a.n lx.length), z2, ly.eraseIdx (plc a.n ly.length)), ⟨by rw [← hll]; exact hme, by dsimp only; omega, fun q hq => hlb q (List.mem_of_mem_eraseIdx hq)⟩, h1, rfl⟩)
    refine Sp.enter (n := 128) Try.func17 rfl rfl rfl hp ?_
    repeat' (first
        | ((with_reducible refine ie_callf ?_); (first
        | ((with_reducible refine g_call 14 ?_); (first | ((refine' Ef_callT [false, true, true, true, false, false, false] rfl rfl ent_14 rfl rfl rfl (fun w hp => take_c b c w _ lx hp a.n ?q1 x0 h0) ?_); (case q1 => omega)) | refine Ef_callT [false, true, true, true, false, false, false] rfl rfl ent_14 rfl rfl rfl (fun w hp => takeE_c b c w _ a.n hp) ?_))
        | ((with_reducible refine g_call 15 ?_); (first | ((refine' Ef_callT [false, true, true, true, false, false, false] rfl rfl ent_15 rfl rfl rfl (fun w hp => drop_c b c w _ lx hp a.n ?q1 x0 h0) ?_); (case q1 => omega)) | refine Ef_callT [false, true, true, true, false, false, false] rfl rfl ent_15 rfl rfl rfl (fun w hp => dropE_c b c w _ a.n hp) ?_))
        | ((with_reducible refine g_call 11 ?_); (first | (((refine' Ef_callX (φ := fun ns : List Pk => ns.map (·.1) = [x0.1]) [false, true, true, true, false, false, false] rfl rfl ent_11 rfl rfl rfl (fun w hp => double_c b c w _ lx hp hlb a.n ?q1 x0 h0) ?_); (case q1 => omega)); rintro ns hns) | ((refine' Ef_callT [false, true, true, true, false, false, false] rfl rfl ent_11 rfl rfl rfl (fun w hp => doubleF_c b c w _ lx ?q1 hp hlb a.n ?q2 x0 h0) ?_); (case q1 => omega); (case q2 => omega)) | refine Ef_callT [false, true, true, true, false, false, false] rfl rfl ent_11 rfl rfl rfl (fun w hp => doubleE_c b c w _ a.n hp) ?_))
        | ((with_reducible refine g_call 30 ?_); (first | (((refine' Ef_callX (φ := fun _ : Hd => True) [false, false, false, false, false, true, true, true] rfl rfl ent_30 rfl rfl rfl (fun w hp => rtakeG_c b' z ly w _ hp ?q1 a.n y0 h1) ?_); (case q1 => omega)); rintro z2 -) | (((refine' Ef_callX (φ := fun _ : Hd => True) [false, false, false, false, true, true, true] rfl rfl ent_30 rfl rfl rfl (fun w hp => rtakeG_c b' z ly w _ hp ?q1 a.n y0 h1) ?_); (case q1 => omega)); rintro z2 -) | refine Ef_callT [false, false, false, false, true, true, true] rfl rfl ent_30 rfl rfl rfl (fun w hp => rtakeE_c b' z [] w _ hp rfl a.n) ?_))
        | ((with_reducible refine g_call 32 ?_); (first | (((refine' Ef_callX (φ := fun y : Hd × List Pk => y.2.map (·.1) = ly.map (·.1) ++ [y0.1]) [false, false, false, false, true, true, true] rfl rfl ent_32 rfl rfl rfl (fun w hp => rdouble_c b' z ly w _ hp a.n ?q1 y0 h1 h5y) ?_); (case q1 => omega)); rintro ⟨z2, ms⟩ hms) | ((refine' Ef_callT [false, false, false, false, true, true, true] rfl rfl ent_32 rfl rfl rfl (fun w hp => rdoubleF_c b' z ly w _ hp ?q1 a.n ?q2) ?_); (case q1 => omega); (case q2 => omega)) | refine Ef_callT [false, false, false, false, true, true, true] rfl rfl ent_32 rfl rfl rfl (fun w hp => rdoubleE_c b' z [] w _ hp rfl a.n) ?_))
        | ((with_reducible refine g_call 31 ?_); (first | ((refine' Ef_callP rfl rfl ent_31 (fun w hp => bsame_v x0.2.1 x0.2.2 x0.1 y0.2.1 y0.2.2 y0.1 w (hp.in_row (p := x0) ?q1) (hp.in_row (p := y0) ?q2) true (decide_eq_true hxy0) ?q3) ?_); (case q1 => (repeat (first | exact .head _ | apply List.Mem.tail))); (case q2 => (repeat (first | exact .head _ | apply List.Mem.tail))); (case q3 => omega)) | ((refine' Ef_callP rfl rfl ent_31 (fun w hp => bsame_v none 0 [] none 0 [] w Rd.nil Rd.nil true (decide_eq_true rfl) ?q1) ?_); (case q1 => simp))))))
        | refine w1 ?_
        | (refine w2 ?_ ?_ <;> intro hc)
        | (refine w4 ?_; (intro _))
        | (refine w5 ?_; (intro _ _))
        | refine w3 ?_ ?_
        | fail_if_success skip)
    exact ret_n (yL b' z2 (ly.eraseIdx (plc a.n ly.length)) ++ xL b c (lx.eraseIdx (plc a.n lx.length))) (res1 rfl rfl) (by (repeat (first | exact List.nil_sublist _ | refine List.Sublist.cons_cons _ ?_ | refine List.Sublist.cons _ ?_))) ⟨z2, rfl, rfl⟩
set_option maxHeartbeats 4000000 in
theorem oneG_double (hk : a.kind = 6) : Sp Try.prog 17 [.pointer (some ⟨b, 0, none⟩), .pointer (some ⟨b', 0, none⟩), .agg (aE a).toArray] w R (OneG b c b') := by
  have hll := maps_len hxy
  rcases Nat.eq_zero_or_pos lx.length with hz | hz
  · obtain rfl : lx = [] := List.eq_nil_of_length_eq_zero hz
    obtain rfl : ly = [] := List.eq_nil_of_length_eq_zero hll.symm
    refine Sp.part (Res := fun v N => v = .bool true ∧ N = yL b' z [] ++ xL b c []) ?_ (fun v N ⟨h1, h2⟩ => ⟨xL b c [] ++ yL b' z [], by subst h2; (repeat (first | exact Part.nil | refine Part.p0 ?_ | refine Part.p1 ?_ | refine Part.p2 ?_ | refine Part.p3 ?_ | refine Part.p4 ?_ | refine Part.p5 ?_ | refine Part.p6 ?_)), ([], z, []), ⟨rfl, Nat.zero_le _, hlb⟩, h1, rfl⟩)
    refine Sp.enter (n := 128) Try.func17 rfl rfl rfl hp ?_
    repeat' (first
        | ((with_reducible refine ie_callf ?_); (first
        | ((with_reducible refine g_call 14 ?_); (first | ((refine' Ef_callT [false, true, true, true, false, false, false] rfl rfl ent_14 rfl rfl rfl (fun w hp => take_c b c w _ lx hp a.n ?q1 x0 h0) ?_); (case q1 => omega)) | refine Ef_callT [false, true, true, true, false, false, false] rfl rfl ent_14 rfl rfl rfl (fun w hp => takeE_c b c w _ a.n hp) ?_))
        | ((with_reducible refine g_call 15 ?_); (first | ((refine' Ef_callT [false, true, true, true, false, false, false] rfl rfl ent_15 rfl rfl rfl (fun w hp => drop_c b c w _ lx hp a.n ?q1 x0 h0) ?_); (case q1 => omega)) | refine Ef_callT [false, true, true, true, false, false, false] rfl rfl ent_15 rfl rfl rfl (fun w hp => dropE_c b c w _ a.n hp) ?_))
        | ((with_reducible refine g_call 11 ?_); (first | (((refine' Ef_callX (φ := fun ns : List Pk => ns.map (·.1) = [x0.1]) [false, true, true, true, false, false, false] rfl rfl ent_11 rfl rfl rfl (fun w hp => double_c b c w _ lx hp hlb a.n ?q1 x0 h0) ?_); (case q1 => omega)); rintro ns hns) | ((refine' Ef_callT [false, true, true, true, false, false, false] rfl rfl ent_11 rfl rfl rfl (fun w hp => doubleF_c b c w _ lx ?q1 hp hlb a.n ?q2 x0 h0) ?_); (case q1 => omega); (case q2 => omega)) | refine Ef_callT [false, true, true, true, false, false, false] rfl rfl ent_11 rfl rfl rfl (fun w hp => doubleE_c b c w _ a.n hp) ?_))
        | ((with_reducible refine g_call 30 ?_); (first | (((refine' Ef_callX (φ := fun _ : Hd => True) [false, false, false, false, false, true, true, true] rfl rfl ent_30 rfl rfl rfl (fun w hp => rtakeG_c b' z ly w _ hp ?q1 a.n y0 h1) ?_); (case q1 => omega)); rintro z2 -) | (((refine' Ef_callX (φ := fun _ : Hd => True) [false, false, false, false, true, true, true] rfl rfl ent_30 rfl rfl rfl (fun w hp => rtakeG_c b' z ly w _ hp ?q1 a.n y0 h1) ?_); (case q1 => omega)); rintro z2 -) | refine Ef_callT [false, false, false, false, true, true, true] rfl rfl ent_30 rfl rfl rfl (fun w hp => rtakeE_c b' z [] w _ hp rfl a.n) ?_))
        | ((with_reducible refine g_call 32 ?_); (first | (((refine' Ef_callX (φ := fun y : Hd × List Pk => y.2.map (·.1) = ly.map (·.1) ++ [y0.1]) [false, false, false, false, true, true, true] rfl rfl ent_32 rfl rfl rfl (fun w hp => rdouble_c b' z ly w _ hp a.n ?q1 y0 h1 h5y) ?_); (case q1 => omega)); rintro ⟨z2, ms⟩ hms) | ((refine' Ef_callT [false, false, false, false, true, true, true] rfl rfl ent_32 rfl rfl rfl (fun w hp => rdoubleF_c b' z ly w _ hp ?q1 a.n ?q2) ?_); (case q1 => omega); (case q2 => omega)) | refine Ef_callT [false, false, false, false, true, true, true] rfl rfl ent_32 rfl rfl rfl (fun w hp => rdoubleE_c b' z [] w _ hp rfl a.n) ?_))
        | ((with_reducible refine g_call 31 ?_); (first | ((refine' Ef_callP rfl rfl ent_31 (fun w hp => bsame_v x0.2.1 x0.2.2 x0.1 y0.2.1 y0.2.2 y0.1 w (hp.in_row (p := x0) ?q1) (hp.in_row (p := y0) ?q2) true (decide_eq_true hxy0) ?q3) ?_); (case q1 => (repeat (first | exact .head _ | apply List.Mem.tail))); (case q2 => (repeat (first | exact .head _ | apply List.Mem.tail))); (case q3 => omega)) | ((refine' Ef_callP rfl rfl ent_31 (fun w hp => bsame_v none 0 [] none 0 [] w Rd.nil Rd.nil true (decide_eq_true rfl) ?q1) ?_); (case q1 => simp))))))
        | refine w1 ?_
        | (refine w2 ?_ ?_ <;> intro hc)
        | (refine w4 ?_; (intro _))
        | (refine w5 ?_; (intro _ _))
        | refine w3 ?_ ?_
        | fail_if_success skip)
    exact ret_n (yL b' z [] ++ xL b c []) (res1 rfl rfl) (by (repeat (first | exact List.nil_sublist _ | refine List.Sublist.cons_cons _ ?_ | refine List.Sublist.cons _ ?_))) ⟨rfl, rfl⟩
  · obtain ⟨x0, h0⟩ := some_of_lt (l := lx) (i := plc a.n lx.length) (plc_lt hz)
    obtain ⟨y0, h1, hxy0⟩ := maps_at hxy h0
    have h5x := hlb x0 (mem_of_some h0)
    have h5y : y0.1.length ≤ 140737488355328 := hxy0 ▸ h5x
    rw [hll] at h1
    by_cases hfl : 4096 ≤ lx.length
    · refine Sp.part (Res := fun v N => v = .bool true ∧ N = yL b' z ly ++ xL b c lx) ?_ (fun v N ⟨h1, h2⟩ => ⟨xL b c lx ++ yL b' z ly, by subst h2; (repeat (first | exact Part.nil | refine Part.p0 ?_ | refine Part.p1 ?_ | refine Part.p2 ?_ | refine Part.p3 ?_ | refine Part.p4 ?_ | refine Part.p5 ?_ | refine Part.p6 ?_)), (lx, z, ly), ⟨hxy, hl, hlb⟩, h1, rfl⟩)
      refine Sp.enter (n := 128) Try.func17 rfl rfl rfl hp ?_
      repeat' (first
          | ((with_reducible refine ie_callf ?_); (first
          | ((with_reducible refine g_call 14 ?_); (first | ((refine' Ef_callT [false, true, true, true, false, false, false] rfl rfl ent_14 rfl rfl rfl (fun w hp => take_c b c w _ lx hp a.n ?q1 x0 h0) ?_); (case q1 => omega)) | refine Ef_callT [false, true, true, true, false, false, false] rfl rfl ent_14 rfl rfl rfl (fun w hp => takeE_c b c w _ a.n hp) ?_))
          | ((with_reducible refine g_call 15 ?_); (first | ((refine' Ef_callT [false, true, true, true, false, false, false] rfl rfl ent_15 rfl rfl rfl (fun w hp => drop_c b c w _ lx hp a.n ?q1 x0 h0) ?_); (case q1 => omega)) | refine Ef_callT [false, true, true, true, false, false, false] rfl rfl ent_15 rfl rfl rfl (fun w hp => dropE_c b c w _ a.n hp) ?_))
          | ((with_reducible refine g_call 11 ?_); (first | (((refine' Ef_callX (φ := fun ns : List Pk => ns.map (·.1) = [x0.1]) [false, true, true, true, false, false, false] rfl rfl ent_11 rfl rfl rfl (fun w hp => double_c b c w _ lx hp hlb a.n ?q1 x0 h0) ?_); (case q1 => omega)); rintro ns hns) | ((refine' Ef_callT [false, true, true, true, false, false, false] rfl rfl ent_11 rfl rfl rfl (fun w hp => doubleF_c b c w _ lx ?q1 hp hlb a.n ?q2 x0 h0) ?_); (case q1 => omega); (case q2 => omega)) | refine Ef_callT [false, true, true, true, false, false, false] rfl rfl ent_11 rfl rfl rfl (fun w hp => doubleE_c b c w _ a.n hp) ?_))
          | ((with_reducible refine g_call 30 ?_); (first | (((refine' Ef_callX (φ := fun _ : Hd => True) [false, false, false, false, false, true, true, true] rfl rfl ent_30 rfl rfl rfl (fun w hp => rtakeG_c b' z ly w _ hp ?q1 a.n y0 h1) ?_); (case q1 => omega)); rintro z2 -) | (((refine' Ef_callX (φ := fun _ : Hd => True) [false, false, false, false, true, true, true] rfl rfl ent_30 rfl rfl rfl (fun w hp => rtakeG_c b' z ly w _ hp ?q1 a.n y0 h1) ?_); (case q1 => omega)); rintro z2 -) | refine Ef_callT [false, false, false, false, true, true, true] rfl rfl ent_30 rfl rfl rfl (fun w hp => rtakeE_c b' z [] w _ hp rfl a.n) ?_))
          | ((with_reducible refine g_call 32 ?_); (first | (((refine' Ef_callX (φ := fun y : Hd × List Pk => y.2.map (·.1) = ly.map (·.1) ++ [y0.1]) [false, false, false, false, true, true, true] rfl rfl ent_32 rfl rfl rfl (fun w hp => rdouble_c b' z ly w _ hp a.n ?q1 y0 h1 h5y) ?_); (case q1 => omega)); rintro ⟨z2, ms⟩ hms) | ((refine' Ef_callT [false, false, false, false, true, true, true] rfl rfl ent_32 rfl rfl rfl (fun w hp => rdoubleF_c b' z ly w _ hp ?q1 a.n ?q2) ?_); (case q1 => omega); (case q2 => omega)) | refine Ef_callT [false, false, false, false, true, true, true] rfl rfl ent_32 rfl rfl rfl (fun w hp => rdoubleE_c b' z [] w _ hp rfl a.n) ?_))
          | ((with_reducible refine g_call 31 ?_); (first | ((refine' Ef_callP rfl rfl ent_31 (fun w hp => bsame_v x0.2.1 x0.2.2 x0.1 y0.2.1 y0.2.2 y0.1 w (hp.in_row (p := x0) ?q1) (hp.in_row (p := y0) ?q2) true (decide_eq_true hxy0) ?q3) ?_); (case q1 => (repeat (first | exact .head _ | apply List.Mem.tail))); (case q2 => (repeat (first | exact .head _ | apply List.Mem.tail))); (case q3 => omega)) | ((refine' Ef_callP rfl rfl ent_31 (fun w hp => bsame_v none 0 [] none 0 [] w Rd.nil Rd.nil true (decide_eq_true rfl) ?q1) ?_); (case q1 => simp))))))
          | refine w1 ?_
          | (refine w2 ?_ ?_ <;> intro hc)
          | (refine w4 ?_; (intro _))
          | (refine w5 ?_; (intro _ _))
          | refine w3 ?_ ?_
          | fail_if_success skip)
      exact ret_n (yL b' z ly ++ xL b c lx) (res1 rfl rfl) (by (repeat (first | exact List.nil_sublist _ | refine List.Sublist.cons_cons _ ?_ | refine List.Sublist.cons _ ?_))) ⟨rfl, rfl⟩
    refine Sp.part (Res := fun v N => ∃ ns z2 ms, (ns.map (·.1) = [x0.1] ∧ ms.map (·.1) = ly.map (·.1) ++ [y0.1]) ∧ v = .bool true ∧ N = yL b' z2 ms ++ xL b c (lx ++ ns)) ?_ (fun v N ⟨ns, z2, ms, ⟨hns, hms⟩, h1, h2⟩ => ⟨xL b c (lx ++ ns) ++ yL b' z2 ms, by subst h2; (repeat (first | exact Part.nil | refine Part.p0 ?_ | refine Part.p1 ?_ | refine Part.p2 ?_ | refine Part.p3 ?_ | refine Part.p4 ?_ | refine Part.p5 ?_ | refine Part.p6 ?_)), (lx ++ ns, z2, ms), ⟨?_, ?_, ?_⟩, h1, rfl⟩)
    · refine Sp.enter (n := 128) Try.func17 rfl rfl rfl hp ?_
      repeat' (first
          | ((with_reducible refine ie_callf ?_); (first
          | ((with_reducible refine g_call 14 ?_); (first | ((refine' Ef_callT [false, true, true, true, false, false, false] rfl rfl ent_14 rfl rfl rfl (fun w hp => take_c b c w _ lx hp a.n ?q1 x0 h0) ?_); (case q1 => omega)) | refine Ef_callT [false, true, true, true, false, false, false] rfl rfl ent_14 rfl rfl rfl (fun w hp => takeE_c b c w _ a.n hp) ?_))
          | ((with_reducible refine g_call 15 ?_); (first | ((refine' Ef_callT [false, true, true, true, false, false, false] rfl rfl ent_15 rfl rfl rfl (fun w hp => drop_c b c w _ lx hp a.n ?q1 x0 h0) ?_); (case q1 => omega)) | refine Ef_callT [false, true, true, true, false, false, false] rfl rfl ent_15 rfl rfl rfl (fun w hp => dropE_c b c w _ a.n hp) ?_))
          | ((with_reducible refine g_call 11 ?_); (first | (((refine' Ef_callX (φ := fun ns : List Pk => ns.map (·.1) = [x0.1]) [false, true, true, true, false, false, false] rfl rfl ent_11 rfl rfl rfl (fun w hp => double_c b c w _ lx hp hlb a.n ?q1 x0 h0) ?_); (case q1 => omega)); rintro ns hns) | ((refine' Ef_callT [false, true, true, true, false, false, false] rfl rfl ent_11 rfl rfl rfl (fun w hp => doubleF_c b c w _ lx ?q1 hp hlb a.n ?q2 x0 h0) ?_); (case q1 => omega); (case q2 => omega)) | refine Ef_callT [false, true, true, true, false, false, false] rfl rfl ent_11 rfl rfl rfl (fun w hp => doubleE_c b c w _ a.n hp) ?_))
          | ((with_reducible refine g_call 30 ?_); (first | (((refine' Ef_callX (φ := fun _ : Hd => True) [false, false, false, false, false, true, true, true] rfl rfl ent_30 rfl rfl rfl (fun w hp => rtakeG_c b' z ly w _ hp ?q1 a.n y0 h1) ?_); (case q1 => omega)); rintro z2 -) | (((refine' Ef_callX (φ := fun _ : Hd => True) [false, false, false, false, true, true, true] rfl rfl ent_30 rfl rfl rfl (fun w hp => rtakeG_c b' z ly w _ hp ?q1 a.n y0 h1) ?_); (case q1 => omega)); rintro z2 -) | refine Ef_callT [false, false, false, false, true, true, true] rfl rfl ent_30 rfl rfl rfl (fun w hp => rtakeE_c b' z [] w _ hp rfl a.n) ?_))
          | ((with_reducible refine g_call 32 ?_); (first | (((refine' Ef_callX (φ := fun y : Hd × List Pk => y.2.map (·.1) = ly.map (·.1) ++ [y0.1]) [false, false, false, false, true, true, true] rfl rfl ent_32 rfl rfl rfl (fun w hp => rdouble_c b' z ly w _ hp a.n ?q1 y0 h1 h5y) ?_); (case q1 => omega)); rintro ⟨z2, ms⟩ hms) | ((refine' Ef_callT [false, false, false, false, true, true, true] rfl rfl ent_32 rfl rfl rfl (fun w hp => rdoubleF_c b' z ly w _ hp ?q1 a.n ?q2) ?_); (case q1 => omega); (case q2 => omega)) | refine Ef_callT [false, false, false, false, true, true, true] rfl rfl ent_32 rfl rfl rfl (fun w hp => rdoubleE_c b' z [] w _ hp rfl a.n) ?_))
          | ((with_reducible refine g_call 31 ?_); (first | ((refine' Ef_callP rfl rfl ent_31 (fun w hp => bsame_v x0.2.1 x0.2.2 x0.1 y0.2.1 y0.2.2 y0.1 w (hp.in_row (p := x0) ?q1) (hp.in_row (p := y0) ?q2) true (decide_eq_true hxy0) ?q3) ?_); (case q1 => (repeat (first | exact .head _ | apply List.Mem.tail))); (case q2 => (repeat (first | exact .head _ | apply List.Mem.tail))); (case q3 => omega)) | ((refine' Ef_callP rfl rfl ent_31 (fun w hp => bsame_v none 0 [] none 0 [] w Rd.nil Rd.nil true (decide_eq_true rfl) ?q1) ?_); (case q1 => simp))))))
          | refine w1 ?_
          | (refine w2 ?_ ?_ <;> intro hc)
          | (refine w4 ?_; (intro _))
          | (refine w5 ?_; (intro _ _))
          | refine w3 ?_ ?_
          | fail_if_success skip)
      exact ret_n (yL b' z2 ms ++ xL b c (lx ++ ns)) (res1 rfl rfl) (by (repeat (first | exact List.nil_sublist _ | refine List.Sublist.cons_cons _ ?_ | refine List.Sublist.cons _ ?_))) ⟨ns, z2, ms, ⟨hns, hms⟩, rfl, rfl⟩
    · dsimp only
      rw [List.map_append, hns, hms, hxy, hxy0]
    · have hn1 : ns.length = 1 := by have := congrArg List.length hns; simpa using this
      dsimp only
      rw [List.length_append]; omega
    · intro p hp
      rcases List.mem_append.1 hp with hp | hp
      · exact hlb p hp
      · have h3 : p.1 ∈ [x0.1] := hns ▸ List.mem_map.2 ⟨p, hp, rfl⟩
        rw [List.mem_singleton.1 h3]; exact h5x
set_option maxHeartbeats 4000000 in
theorem oneG_else (k0 : ¬ a.kind = 0) (k1 : ¬ a.kind = 1) (k2 : ¬ a.kind = 2) (k3 : ¬ a.kind = 3) (k4 : ¬ a.kind = 4) (k5 : ¬ a.kind = 5) (k6 : ¬ a.kind = 6) : Sp Try.prog 17 [.pointer (some ⟨b, 0, none⟩), .pointer (some ⟨b', 0, none⟩), .agg (aE a).toArray] w R (OneG b c b') := by
  refine Sp.enter (n := 128) Try.func17 rfl rfl rfl hp ?_
  repeat' (first
      | ((with_reducible refine ie_callf ?_); (first
      | ((with_reducible refine g_call 14 ?_); (first | ((refine' Ef_callT [false, true, true, true, false, false, false] rfl rfl ent_14 rfl rfl rfl (fun w hp => take_c b c w _ lx hp a.n ?q1 x0 h0) ?_); (case q1 => omega)) | refine Ef_callT [false, true, true, true, false, false, false] rfl rfl ent_14 rfl rfl rfl (fun w hp => takeE_c b c w _ a.n hp) ?_))
      | ((with_reducible refine g_call 15 ?_); (first | ((refine' Ef_callT [false, true, true, true, false, false, false] rfl rfl ent_15 rfl rfl rfl (fun w hp => drop_c b c w _ lx hp a.n ?q1 x0 h0) ?_); (case q1 => omega)) | refine Ef_callT [false, true, true, true, false, false, false] rfl rfl ent_15 rfl rfl rfl (fun w hp => dropE_c b c w _ a.n hp) ?_))
      | ((with_reducible refine g_call 11 ?_); (first | (((refine' Ef_callX (φ := fun ns : List Pk => ns.map (·.1) = [x0.1]) [false, true, true, true, false, false, false] rfl rfl ent_11 rfl rfl rfl (fun w hp => double_c b c w _ lx hp hlb a.n ?q1 x0 h0) ?_); (case q1 => omega)); rintro ns hns) | ((refine' Ef_callT [false, true, true, true, false, false, false] rfl rfl ent_11 rfl rfl rfl (fun w hp => doubleF_c b c w _ lx ?q1 hp hlb a.n ?q2 x0 h0) ?_); (case q1 => omega); (case q2 => omega)) | refine Ef_callT [false, true, true, true, false, false, false] rfl rfl ent_11 rfl rfl rfl (fun w hp => doubleE_c b c w _ a.n hp) ?_))
      | ((with_reducible refine g_call 30 ?_); (first | (((refine' Ef_callX (φ := fun _ : Hd => True) [false, false, false, false, false, true, true, true] rfl rfl ent_30 rfl rfl rfl (fun w hp => rtakeG_c b' z ly w _ hp ?q1 a.n y0 h1) ?_); (case q1 => omega)); rintro z2 -) | (((refine' Ef_callX (φ := fun _ : Hd => True) [false, false, false, false, true, true, true] rfl rfl ent_30 rfl rfl rfl (fun w hp => rtakeG_c b' z ly w _ hp ?q1 a.n y0 h1) ?_); (case q1 => omega)); rintro z2 -) | refine Ef_callT [false, false, false, false, true, true, true] rfl rfl ent_30 rfl rfl rfl (fun w hp => rtakeE_c b' z [] w _ hp rfl a.n) ?_))
      | ((with_reducible refine g_call 32 ?_); (first | (((refine' Ef_callX (φ := fun y : Hd × List Pk => y.2.map (·.1) = ly.map (·.1) ++ [y0.1]) [false, false, false, false, true, true, true] rfl rfl ent_32 rfl rfl rfl (fun w hp => rdouble_c b' z ly w _ hp a.n ?q1 y0 h1 h5y) ?_); (case q1 => omega)); rintro ⟨z2, ms⟩ hms) | ((refine' Ef_callT [false, false, false, false, true, true, true] rfl rfl ent_32 rfl rfl rfl (fun w hp => rdoubleF_c b' z ly w _ hp ?q1 a.n ?q2) ?_); (case q1 => omega); (case q2 => omega)) | refine Ef_callT [false, false, false, false, true, true, true] rfl rfl ent_32 rfl rfl rfl (fun w hp => rdoubleE_c b' z [] w _ hp rfl a.n) ?_))
      | ((with_reducible refine g_call 31 ?_); (first | ((refine' Ef_callP rfl rfl ent_31 (fun w hp => bsame_v x0.2.1 x0.2.2 x0.1 y0.2.1 y0.2.2 y0.1 w (hp.in_row (p := x0) ?q1) (hp.in_row (p := y0) ?q2) true (decide_eq_true hxy0) ?q3) ?_); (case q1 => (repeat (first | exact .head _ | apply List.Mem.tail))); (case q2 => (repeat (first | exact .head _ | apply List.Mem.tail))); (case q3 => omega)) | ((refine' Ef_callP rfl rfl ent_31 (fun w hp => bsame_v none 0 [] none 0 [] w Rd.nil Rd.nil true (decide_eq_true rfl) ?q1) ?_); (case q1 => simp))))))
      | refine w1 ?_
      | (refine w2 ?_ ?_ <;> intro hc)
      | (refine w4 ?_; (intro _))
      | (refine w5 ?_; (intro _ _))
      | refine w3 ?_ ?_
      | fail_if_success skip)
  exact ret_n (xL b c lx ++ yL b' z ly) (res1 rfl rfl) (by (repeat (first | exact List.nil_sublist _ | refine List.Sublist.cons_cons _ ?_ | refine List.Sublist.cons _ ?_))) ⟨(lx, z, ly), ⟨hxy, by dsimp only; omega, hlb⟩, rfl, rfl⟩
end
end Go.Proofs.Ytdbpnolpgkcjiaa
