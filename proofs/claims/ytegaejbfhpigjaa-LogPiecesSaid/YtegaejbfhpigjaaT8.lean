/- A log's row (owned, or cut); Add: what a call comes to. -/
import Derived.Test.YtegaejbfhpigjaaT7
namespace Go.Proofs.Ytegaejbfhpigjaa
open Go.RowKit
set_option maxRecDepth 20000

/-! ### The row of a log -/

def lrP (l : List Me) (z : Hd) (w : World) : Prop :=
  w.ownsRow 0 27 5 (.slice z.1 l.length z.2) l.length (l.flatMap mE) ∨ (z.2 = l.length ∧ z.1 = some (adr z.1) ∧ (adr z.1).block < w.heap.size ∧ Rd w z.1 l.length 5 (l.flatMap mE))
theorem lrP_loc (l : List Me) (z : Hd) (w w' : World) (hk : ∀ k ∈ (Value.ownBlock (.slice z.1 l.length z.2)).toList, w'.heap[k]? = w.heap[k]?) (h : lrP l z w) : lrP l z w' := by
  rcases h with h | ⟨h1, h2, h3, h4⟩
  · exact .inl (ownsRow_of_block h fun g hg => hk g (by simp [hg]))
  · have hb : w'.heap[(adr z.1).block]? = w.heap[(adr z.1).block]? := hk _ (by rw [h2]; simp [Value.ownBlock, adr])
    have hlt : (adr z.1).block < w'.heap.size := by
      rw [Array.getElem?_eq_getElem h3] at hb
      exact (Array.getElem?_eq_some_iff.1 hb).1
    refine .inr ⟨h1, h2, hlt, h4.len, h4.some_, fun _ => hlt, fun j u hu => ?_⟩
    rw [World.cell?_of_block (w := w) (by rw [block_add]; exact hb)]
    exact h4.cell j u hu
/-- A row of entries that a log holds: owned, or cut to its length. -/
def lr (l : List Me) (z : Hd) : Asrt := .gen (Value.ownBlock (.slice z.1 l.length z.2)).toList (lrP l z) (lrP_loc l z)

theorem lrP.rd {l : List Me} {z : Hd} {w : World} (h : lrP l z w) : Rd w z.1 l.length 5 (l.flatMap mE) := by
  rcases h with h | h
  · exact Rd.of_row h
  · exact h.2.2.2
theorem lrP.cap {l : List Me} {z : Hd} {w : World} (h : lrP l z w) : l.length ≤ z.2 := by
  rcases h with h | h
  · rcases h.2 with ⟨_, h⟩ | ⟨g, cap', cur, hv, _, _, hle, _⟩
    · omega
    · injection hv with h1 h2 h3; omega
  · omega
theorem lr_nodup (l : List Me) (z : Hd) : (lr l z).foot.Nodup := by
  show (Value.ownBlock (.slice z.1 l.length z.2)).toList.Nodup
  cases z.1 <;> simp [Value.ownBlock]
theorem own_foot (A : Option Addr) (m c m' c' : Nat) : Value.ownBlock (.slice A m c) = Value.ownBlock (.slice A m' c') := by cases A <;> rfl

section
variable {P : Program} {n : Nat} {w0 w : World} {R : List Nat} {L : List (Nat × Value)} {M : List Asrt} {l : List Me} {z : Hd} {i : Nat}
theorem Hp.lrOf (hp : Hp w0 R M w) (hm : lr l z ∈ M) : lrP l z w := (hp.own _ hm).1
theorem Hp.lrRd (hp : Hp w0 R M w) (hm : lr l z ∈ M) : Rd w z.1 l.length 5 (l.flatMap mE) := (hp.lrOf hm).rd
theorem Hp.lrCap (hp : Hp w0 R M w) (hm : lr l z ∈ M) : l.length ≤ z.2 := (hp.lrOf hm).cap
theorem Hp.rowLr (hp : Hp w0 R M w) {A : Option Addr} {c : Nat} (hi : M[i]? = some (.row 27 5 (.slice A l.length c) l.length (l.flatMap mE))) : Hp w0 R (M.set i (lr l (A, c))) w := by
  have ho : w.ownsRow 0 27 5 (.slice A l.length c) l.length (l.flatMap mE) := hp.own _ (List.mem_of_getElem? hi)
  refine hp.step hi (grownBy_refl w none) (fun k hk => by cases hk) (A' := lr l (A, c)) ⟨.inl ho, fun k hk => ?_⟩ (fun k hk => .inl hk) (lr_nodup _ _)
  exact Asrt.foot_lt (A := .row 27 5 (.slice A l.length c) l.length (l.flatMap mE)) ho k hk
theorem Hp.lrRow (hp : Hp w0 R M w) (hi : M[i]? = some (lr l z)) (ho : w.ownsRow 0 27 5 (.slice z.1 l.length z.2) l.length (l.flatMap mE)) : Hp w0 R (M.set i (.row 27 5 (.slice z.1 l.length z.2) l.length (l.flatMap mE))) w :=
  hp.step hi (grownBy_refl w none) (fun k hk => by cases hk) (A' := .row 27 5 (.slice z.1 l.length z.2) l.length (l.flatMap mE)) ho (fun k hk => .inl hk) (by unfold Asrt.foot; cases z.1 <;> simp [Value.ownBlock])
theorem Hp.lrCut (hp : Hp w0 R M w) {k : Nat} (hi : M[i]? = some (lr l z)) (hk : k ≤ l.length) : Hp w0 R (M.set i (lr (l.take k) (z.1, k))) w := by
  have ho := hp.own _ (List.mem_of_getElem? hi)
  have hlk : (l.take k).length = k := by rw [List.length_take]; omega
  have hrd := (lrP.rd ho.1).upto mE_len hk
  have hf : (lr (l.take k) (z.1, k)).foot = (lr l z).foot := by
    show (Value.ownBlock (.slice z.1 _ _)).toList = (Value.ownBlock (.slice z.1 _ _)).toList
    rw [own_foot]
  have hP : lrP (l.take k) (z.1, k) w := by
    rcases ho.1 with h | ⟨h1, h2, h3, h4⟩
    · rcases row_addr h with ⟨e1, e2, e3⟩ | ⟨g, e1⟩
      · obtain rfl : k = 0 := by omega
        refine .inl ⟨by simp, .inl ⟨?_, by simp⟩⟩
        simp [e1]
      · refine .inr ⟨hlk.symm, by simp [e1, adr], ?_, by rw [hlk]; exact hrd⟩
        have := ho.2 (adr z.1).block (by simp [lr, e1, Value.ownBlock, adr])
        exact this
    · exact .inr ⟨hlk.symm, h2, h3, by rw [hlk]; exact hrd⟩
  refine hp.step hi (grownBy_refl w none) (fun k hk => by cases hk) (A' := lr (l.take k) (z.1, k)) ⟨hP, fun j hj => ?_⟩ (fun j hj => .inl ?_) (lr_nodup _ _)
  · exact ho.2 j (show j ∈ (lr l z).foot from hf ▸ (show j ∈ (lr (l.take k) (z.1, k)).foot from hj))
  · exact hf ▸ hj
/-- A new thing in an old one's place. -/
theorem Hp.inPlace {A B : Asrt} (hp : Hp w0 R (B :: M) w) (hi : M[i]? = some A) : Hp w0 R (M.set i B) w := by
  obtain ⟨l1, l2, rfl, hl⟩ := split_at hi
  rw [set_at hl]
  refine (hp.perm (M' := l1 ++ B :: A :: l2) ?_).weaken (List.Sublist.append (List.Sublist.refl _) (List.Sublist.cons_cons _ (List.Sublist.cons _ (List.Sublist.refl _))))
  exact (List.perm_middle (l₁ := l1) (l₂ := A :: l2) (a := B)).symm

/-- An append where there is no room: a new row. (Of a slice of no elements, too.) -/
theorem Ef_appNS {d e k by_ m c m2 c2 : Nat} {A A2 : Option Addr} {xs news : List Value} {x y : Operand} {t ty : TypeId} {K : List (Nat × Value) → List Asrt → Prop} (hd : Nat.blt d n = true) (hx : evl L x = some (.slice A m c)) (hy : evl L y = some (.slice A2 m2 c2)) (ht : appT P t = some (e, k, by_))
    (hA : A = some (adr A)) (hr : ∀ w, Hp w0 R M w → Rd w A m k xs) (hr2 : ∀ w, Hp w0 R M w → Rd w A2 m2 k news) (h2 : 0 < m2) (hnr : c < m + m2) (hb : (m + m2) * by_ ≤ 140737488355328) (h63 : m + m2 ≤ 9223372036854775807)
    (h : ∀ b c', m + m2 ≤ c' → K ((d, .slice (some ⟨b, 0, none⟩) (m + m2) c') :: L) (.row e k (.slice (some ⟨b, 0, none⟩) (m + m2) c') (m + m2) (xs ++ news) :: M)) :
    Ef P n w0 R (some d) (.call { callee := .builtin .append, args := #[x, y], argTypes := #[t, t] }) ty L M K :=
  Ef_of hd fun a w hk hp => by
    have hrw := hr w hp
    have hrw2 := hr2 w hp
    obtain ⟨hu, inf, zz, hi, hz, rfl, rfl, hzc, hk0⟩ := appT_spec ht
    have hA2 := hrw2.some_ h2
    rw [hA] at hx
    rw [hA2] at hy
    have hcm : grownCap w (m + m2) c e ≤ maxLen := grownCap_le_maxLen w (m + m2) c e (by unfold maxLen; omega)
    have hge := grownCap_ge w (m + m2) c e
    have hxl : xs.length = m * inf.size := hrw.len
    have hnl : news.length = m2 * inf.size := hrw2.len
    have hrun := run_append_grow (P := P) w t ty e inf zz hu hi hz (adr A) m c xs hxl (fun j u hu => hrw.cell j u hu) (adr A2) m2 c2 news hnl (fun j u hu => hrw2.cell j u hu) (by omega) (by omega) (growslice_fits (by omega) hb)
    have hp' : Hp w0 R (.blk w.heap.size (.cells (xs.toArray ++ news.toArray ++ Builtin.zeroCells zz.cells (grownCap w (m + m2) c e - (m + m2))) e (0, 0)) :: M) (w.drew.alloc (.cells (xs.toArray ++ news.toArray ++ Builtin.zeroCells zz.cells (grownCap w (m + m2) c e - (m + m2))) e)) := hp.drew.alloc _
    have hrow : Hp w0 R (.row e inf.size (.slice (some ⟨w.heap.size, 0, none⟩) (m + m2) (grownCap w (m + m2) c e)) (m + m2) (xs ++ news) :: M) (w.drew.alloc (.cells (xs.toArray ++ news.toArray ++ Builtin.zeroCells zz.cells (grownCap w (m + m2) c e - (m + m2))) e)) := by
      refine hp'.step (i := 0) rfl (grownBy_refl _ none) (fun k hk => by cases hk) (A' := .row e inf.size (.slice (some ⟨w.heap.size, 0, none⟩) (m + m2) (grownCap w (m + m2) c e)) (m + m2) (xs ++ news)) ⟨?_, .inr ⟨w.heap.size, _, _, rfl, Nat.zero_le _, heap_alloc_new w.drew _, hge, hcm, ?_, ?_⟩⟩ (fun k hk => .inl hk) (by simp [Asrt.foot, Value.ownBlock])
      · rw [List.length_append, hxl, hnl, Nat.add_mul]
      · simp only [Array.size_append, List.size_toArray, size_zeroCells, hzc, hxl, hnl, ← Nat.add_mul]
        congr 1; omega
      · simp only [Array.toList_append]
        rw [show (m + m2) * inf.size = (xs ++ news).length by rw [List.length_append, hxl, hnl, Nat.add_mul]]
        exact List.take_left
    refine ⟨_, _, _, ?_, hrow, h _ _ hge⟩
    simp [execOp, hk.ev hx, hk.ev hy, resolve, invoke, builtin, hrun]

theorem Ef_appLr {d by_ c2 : Nat} {x y : Operand} {A2 : Option Addr} {t ty : TypeId} {e : Me} {A : Option Addr} {c : Nat} {K : List (Nat × Value) → List Asrt → Prop} (hd : Nat.blt d n = true) (hx : evl L x = some (.slice A l.length c)) (hy : evl L y = some (.slice A2 1 c2)) (ht : appT P t = some (27, 5, by_))
    (hM : M[i]? = some (lr l (A, c))) (hr2 : ∀ w, Hp w0 R M w → Rd w A2 1 5 (mE e)) (hl : l.length ≤ 300) (hb : (l.length + 1) * by_ ≤ 140737488355328)
    (h : ∀ A c, K ((d, .slice A (l.length + 1) c) :: L) (M.set i (lr (l ++ [e]) (A, c)))) :
    Ef P n w0 R (some d) (.call { callee := .builtin .append, args := #[x, y], argTypes := #[t, t] }) ty L M K := .mk fun a w next Q hk hp hn => by
  have hm := List.mem_of_getElem? hM
  have hi : i < M.length := (List.getElem?_eq_some_iff.1 hM).1
  have hfin : ∀ (M' : List Asrt) (A' : Option Addr) (c' : Nat) a' w', M'[i]? = some (.row 27 5 (.slice A' (l.length + 1) c') (l.length + 1) (l.flatMap mE ++ mE e)) → M'.set i (lr (l ++ [e]) (A', c')) = M.set i (lr (l ++ [e]) (A', c')) → Kn n ((d, .slice A' (l.length + 1) c') :: L) a' → Hp w0 R M' w' → next a' w' := fun M' A' c' a' w' h1 h2 hk' hp' => by
    have h3 := Hp.rowLr (l := l ++ [e]) (A := A') (c := c') (i := i) hp' (by rw [List.length_append, mE_snoc]; exact h1)
    rw [h2] at h3
    exact hn _ _ _ _ hk' h3 (h A' c')
  rcases (hp.lrOf hm) with ho | ⟨h1, h2, h3, h4⟩
  · have hp1 := hp.lrRow hM ho
    have hM1 : (M.set i (Asrt.row 27 5 (.slice A l.length c) l.length (l.flatMap mE)))[i]? = some (.row 27 5 (.slice A l.length c) l.length (l.flatMap mE)) := by simp [hi]
    refine (Ef_appendG (K := fun L' M' => ∃ A' c', L' = (d, .slice A' (l.length + 1) c') :: L ∧ M' = M.set i (.row 27 5 (.slice A' (l.length + 1) c') (l.length + 1) (l.flatMap mE ++ mE e))) hd hx hy ht hM1 (fun w' hw' => hr2 w' ?_) (mE_one e) hb (by omega) fun A' c' => ⟨A', c', rfl, by rw [List.set_set]⟩).run a w next Q hk hp1 ?_
    · have := Hp.rowLr (i := i) hw' hM1
      rw [List.set_set, set_self hM] at this
      exact this
    · rintro a' w' L' M' hk' hp' ⟨A', c', rfl, rfl⟩
      exact hfin _ A' c' a' w' (by simp [hi]) (by rw [List.set_set]) hk' hp'
  · dsimp only at h1 h2
    subst h1
    refine (Ef_appNS (K := fun L' M' => ∃ b' c', L' = (d, .slice (some ⟨b', 0, none⟩) (l.length + 1) c') :: L ∧ M' = .row 27 5 (.slice (some ⟨b', 0, none⟩) (l.length + 1) c') (l.length + 1) (l.flatMap mE ++ mE e) :: M) hd hx hy ht h2 (fun w' hw' => hw'.lrRd hm) hr2 Nat.one_pos (by omega) hb (by omega) fun b' c' _ => ⟨b', c', rfl, rfl⟩).run a w next Q hk hp ?_
    rintro a' w' L' M' hk' hp' ⟨b', c', rfl, rfl⟩
    exact hfin _ _ c' a' w' (by simp [hi]) (by rw [List.set_set]) hk' (hp'.inPlace hM)
end

/-- A log: its cells, its row, its bodies. -/
abbrev xL (b : Nat) (z : Hd) (l : List Me) (sy : Int) : List Asrt := [.blk b (.cells (lgC true (.slice z.1 l.length z.2) sy) 50 (0, 0)), lr l z, bag (l.map bA)]

/-! ### A drawn region in a round, with two effects in either order -/
theorem TR.drawB {P : Program} {n : Nat} {w0 : World} {R : List Nat} {r : Nat} {L : List (Nat × Value)} {M : List Asrt} {Q : Exit → List (Nat × Value) → List Asrt → Prop} {id : Nat} {ops : Array Oper} (s : Sch) (Mc : List Asrt) (hd : ops.toList.all (fun o => plainOp o.op) = true) (hm : P.follows .mixedOrders = true) (hB : drawOKB ops s = true) (hMc : Mc.Sublist M)
    (h : TB P n w0 R ops Mc (Q .normal) s L M) : TR P n w0 R r (.region id ops true) Q L M := by
  refine .mk fun a w hk hp => ?_
  simp only [drawOKB, Bool.and_eq_true] at hB
  have hdr : Hp w0 R M w.drew := hp.drew
  refine wpIn_mono (Q := regQ n w0 R (Q .normal)) (wpIn_region_draw fun t => ?_) regQ_post
  have hA := wpAny_of_held _ _ _ _ (wpB_sound (P := P) (S := Hp w0 R Mc) (Q := regQ n w0 R (Q .normal)) hB.1 (fun _ _ _ _ _ h => h) s _ _ a w.drew hB.2 (hdr.weaken hMc) (h.run a w.drew hk hdr (hdr.weaken hMc)))
  simp only [Region.schedule, hm, Bool.true_or, if_true]
  exact wpOpsIn_round r 0 noOut hd _ a _ (wpAny_sound ops.size t _ a _ hA)

section
variable (b : Nat) (z : Hd) (l : List Me) (sy : Int) (e : Me) (w : World) (R : List Nat) (hp : Hp w R (xL b z l sy) w) (hl : l.length ≤ 200) (he : In w e) (heR : 0 < e.1.body.length → (adr e.2.1).block ∉ R) (h5 : e.1.body.length ≤ 6000)
include hp hl he heR h5
set_option maxHeartbeats 4000000 in
theorem add_c : Sp Try.prog 28 [.pointer (some ⟨b, 0, none⟩), .agg (mE e).toArray] w R fun v N => ∃ y : Hd × List Me, y.2.map (·.1) = (Lg.add (l.map (·.1)) e.1).1 ∧ v = .int .i64 (Lg.add (l.map (·.1)) e.1).2 ∧ N = xL b y.1 y.2 sy := by
  obtain ⟨q, hst⟩ : ∃ q, Lg.stamp (l.map (·.1)) = q := ⟨_, rfl⟩
  unfold Lg.add
  rw [hst, List.length_map]
  by_cases g1 : e.1.pos = (l.length : Int) + 1
  · by_cases g2 : e.1.stamp < q
    · rw [if_neg (by omega), if_pos g2]
      refine Sp.enterM (n := 39) Try.func28 rfl rfl rfl hp fun a hk => ?_
      refine TW.run (M := xL b z l sy) ?_ a w hk hp
      refine TW.seq ?_
      repeat' (first
          | ((with_reducible refine ie_store ?_); (first | ((refine' Ef_storeA' rfl rfl ?q1 (mE_one _) ?q2 ?q3 ?_); (case q1 => exact siz_of rfl); (case q2 => (first | exact at0 | exact at1 | exact at2 | exact at3 | exact at4 | exact at5 | exact at6)); (case q3 => rfl)) | ((refine' Ef_storeC (C' := lgC true (.slice A2 (ms.length + 1) c2) sy) rfl rfl ?q1 ?q2 ?q3 ?q4 ?q5 ?_); (case q1 => rfl); (case q2 => exact siz_of rfl); (case q3 => (first | exact at0 | exact at1 | exact at2 | exact at3 | exact at4 | exact at5 | exact at6)); (case q4 => exact Nat.le_of_ble_eq_true rfl); (case q5 => rfl))))
          | ((with_reducible refine ie_callf ?_); (first | ((with_reducible refine g_call 37 ?_); (first | ((refine' Ef_callP rfl rfl ent_37 (fun w hp => none1_v w b true (.slice z.1 l.length z.2) sy (hp.blkOf ?q1)) ?_); (case q1 => (repeat (first | exact .head _ | apply List.Mem.tail)))))) | ((with_reducible refine g_call 17 ?_); (first | ((refine' Ef_callP rfl rfl ent_17 (fun w hp => stamp_v b z.1 l.length z.2 sy l w (hp.lrRd ?q1) rfl ?q2 _ hst (hp.blkOf ?q3)) ?_); (case q1 => (repeat (first | exact .head _ | apply List.Mem.tail))); (case q2 => omega); (case q3 => (repeat (first | exact .head _ | apply List.Mem.tail)))))) | ((with_reducible refine g_call 39 ?_); (first | (refine Ef_callN rfl rfl ent_39 (fun w hp => copies_c _ rfl w) ?_; intro b5)))))
          | (first | ((((refine' Ef_appLr rfl rfl rfl ?q1 ?q2 (fun w hp => hp.rowOf ?q3) ?q4 ?q5 ?_); (case q1 => exact app_of rfl); (case q2 => (first | exact at0 | exact at1 | exact at2 | exact at3 | exact at4 | exact at5 | exact at6)); (case q3 => (repeat (first | exact .head _ | apply List.Mem.tail))); (case q4 => omega); (case q5 => omega))); intro A2 c2))
          | ((with_reducible refine g_draw ?_); (first | (((with_reducible refine' T.drawM (id := 3) [(0, true), (1, true), (2, false), (3, false), (4, false), (5, false), (6, false), (7, false), (8, false), (9, false)] mixd ?q1 ?_); (case q1 => kernel_rfl))) | (((with_reducible refine' T.drawM (id := 5) [(0, true), (1, true), (2, false), (3, false), (4, false), (5, false)] mixd ?q1 ?_); (case q1 => kernel_rfl))) | (((with_reducible refine' T.drawM (id := 9) [(0, true), (1, true), (2, true), (3, true), (4, true), (5, false), (6, false), (7, false), (8, false), (9, false), (10, false)] mixd ?q1 ?_); (case q1 => kernel_rfl)))))
          | refine w1 ?_
          | (refine w2 ?_ ?_ <;> intro hc)
          | (refine w4 ?_; (first | ((fail_if_success have := b1); intro b1) | ((fail_if_success have := b2); intro b2) | ((fail_if_success have := b3); intro b3) | ((fail_if_success have := b4); intro b4) | ((fail_if_success have := b5); intro b5) | ((fail_if_success have := b6); intro b6) | intro _))
          | (refine w5 ?_; (first | ((fail_if_success have := A1); intro A1 c1) | ((fail_if_success have := A2); intro A2 c2) | intro _ _))
          | refine w3 ?_ ?_
          | fail_if_success skip)
      refine mixQ_n ?_
      refine TW.seq ?_
      repeat' (first
          | ((with_reducible refine ie_store ?_); (first | ((refine' Ef_storeA' rfl rfl ?q1 (mE_one _) ?q2 ?q3 ?_); (case q1 => exact siz_of rfl); (case q2 => (first | exact at0 | exact at1 | exact at2 | exact at3 | exact at4 | exact at5 | exact at6)); (case q3 => rfl)) | ((refine' Ef_storeC (C' := lgC true (.slice A2 (ms.length + 1) c2) sy) rfl rfl ?q1 ?q2 ?q3 ?q4 ?q5 ?_); (case q1 => rfl); (case q2 => exact siz_of rfl); (case q3 => (first | exact at0 | exact at1 | exact at2 | exact at3 | exact at4 | exact at5 | exact at6)); (case q4 => exact Nat.le_of_ble_eq_true rfl); (case q5 => rfl))))
          | ((with_reducible refine ie_callf ?_); (first | ((with_reducible refine g_call 37 ?_); (first | ((refine' Ef_callP rfl rfl ent_37 (fun w hp => none1_v w b true (.slice z.1 l.length z.2) sy (hp.blkOf ?q1)) ?_); (case q1 => (repeat (first | exact .head _ | apply List.Mem.tail)))))) | ((with_reducible refine g_call 17 ?_); (first | ((refine' Ef_callP rfl rfl ent_17 (fun w hp => stamp_v b z.1 l.length z.2 sy l w (hp.lrRd ?q1) rfl ?q2 _ hst (hp.blkOf ?q3)) ?_); (case q1 => (repeat (first | exact .head _ | apply List.Mem.tail))); (case q2 => omega); (case q3 => (repeat (first | exact .head _ | apply List.Mem.tail)))))) | ((with_reducible refine g_call 39 ?_); (first | (refine Ef_callN rfl rfl ent_39 (fun w hp => copies_c _ rfl w) ?_; intro b5)))))
          | (first | ((((refine' Ef_appLr rfl rfl rfl ?q1 ?q2 (fun w hp => hp.rowOf ?q3) ?q4 ?q5 ?_); (case q1 => exact app_of rfl); (case q2 => (first | exact at0 | exact at1 | exact at2 | exact at3 | exact at4 | exact at5 | exact at6)); (case q3 => (repeat (first | exact .head _ | apply List.Mem.tail))); (case q4 => omega); (case q5 => omega))); intro A2 c2))
          | ((with_reducible refine g_draw ?_); (first | (((with_reducible refine' T.drawM (id := 3) [(0, true), (1, true), (2, false), (3, false), (4, false), (5, false), (6, false), (7, false), (8, false), (9, false)] mixd ?q1 ?_); (case q1 => kernel_rfl))) | (((with_reducible refine' T.drawM (id := 5) [(0, true), (1, true), (2, false), (3, false), (4, false), (5, false)] mixd ?q1 ?_); (case q1 => kernel_rfl))) | (((with_reducible refine' T.drawM (id := 9) [(0, true), (1, true), (2, true), (3, true), (4, true), (5, false), (6, false), (7, false), (8, false), (9, false), (10, false)] mixd ?q1 ?_); (case q1 => kernel_rfl)))))
          | refine w1 ?_
          | (refine w2 ?_ ?_ <;> intro hc)
          | (refine w4 ?_; (first | ((fail_if_success have := b1); intro b1) | ((fail_if_success have := b2); intro b2) | ((fail_if_success have := b3); intro b3) | ((fail_if_success have := b4); intro b4) | ((fail_if_success have := b5); intro b5) | ((fail_if_success have := b6); intro b6) | intro _))
          | (refine w5 ?_; (first | ((fail_if_success have := A1); intro A1 c1) | ((fail_if_success have := A2); intro A2 c2) | intro _ _))
          | refine w3 ?_ ?_
          | fail_if_success skip)
      exact retM (xL b z l sy) (fun a w => res1 rfl rfl a w) (by (repeat (first | exact List.nil_sublist _ | refine List.Sublist.cons_cons _ ?_ | refine List.Sublist.cons _ ?_))) ⟨(z, l), rfl, rfl, rfl⟩
    · rw [if_neg (by omega), if_neg g2]
      refine Sp.enterM (n := 39) Try.func28 rfl rfl rfl hp fun a hk => ?_
      refine TW.run (M := xL b z l sy) ?_ a w hk hp
      refine TW.seq ?_
      repeat' (first
          | ((with_reducible refine ie_store ?_); (first | ((refine' Ef_storeA' rfl rfl ?q1 (mE_one _) ?q2 ?q3 ?_); (case q1 => exact siz_of rfl); (case q2 => (first | exact at0 | exact at1 | exact at2 | exact at3 | exact at4 | exact at5 | exact at6)); (case q3 => rfl)) | ((refine' Ef_storeC (C' := lgC true (.slice A2 (ms.length + 1) c2) sy) rfl rfl ?q1 ?q2 ?q3 ?q4 ?q5 ?_); (case q1 => rfl); (case q2 => exact siz_of rfl); (case q3 => (first | exact at0 | exact at1 | exact at2 | exact at3 | exact at4 | exact at5 | exact at6)); (case q4 => exact Nat.le_of_ble_eq_true rfl); (case q5 => rfl))))
          | ((with_reducible refine ie_callf ?_); (first | ((with_reducible refine g_call 37 ?_); (first | ((refine' Ef_callP rfl rfl ent_37 (fun w hp => none1_v w b true (.slice z.1 l.length z.2) sy (hp.blkOf ?q1)) ?_); (case q1 => (repeat (first | exact .head _ | apply List.Mem.tail)))))) | ((with_reducible refine g_call 17 ?_); (first | ((refine' Ef_callP rfl rfl ent_17 (fun w hp => stamp_v b z.1 l.length z.2 sy l w (hp.lrRd ?q1) rfl ?q2 _ hst (hp.blkOf ?q3)) ?_); (case q1 => (repeat (first | exact .head _ | apply List.Mem.tail))); (case q2 => omega); (case q3 => (repeat (first | exact .head _ | apply List.Mem.tail)))))) | ((with_reducible refine g_call 39 ?_); (first | (refine Ef_callN rfl rfl ent_39 (fun w hp => copies_c _ rfl w) ?_; intro b5)))))
          | (first | ((((refine' Ef_appLr rfl rfl rfl ?q1 ?q2 (fun w hp => hp.rowOf ?q3) ?q4 ?q5 ?_); (case q1 => exact app_of rfl); (case q2 => (first | exact at0 | exact at1 | exact at2 | exact at3 | exact at4 | exact at5 | exact at6)); (case q3 => (repeat (first | exact .head _ | apply List.Mem.tail))); (case q4 => omega); (case q5 => omega))); intro A2 c2))
          | ((with_reducible refine g_draw ?_); (first | (((with_reducible refine' T.drawM (id := 3) [(0, true), (1, true), (2, false), (3, false), (4, false), (5, false), (6, false), (7, false), (8, false), (9, false)] mixd ?q1 ?_); (case q1 => kernel_rfl))) | (((with_reducible refine' T.drawM (id := 5) [(0, true), (1, true), (2, false), (3, false), (4, false), (5, false)] mixd ?q1 ?_); (case q1 => kernel_rfl))) | (((with_reducible refine' T.drawM (id := 9) [(0, true), (1, true), (2, true), (3, true), (4, true), (5, false), (6, false), (7, false), (8, false), (9, false), (10, false)] mixd ?q1 ?_); (case q1 => kernel_rfl)))))
          | refine w1 ?_
          | (refine w2 ?_ ?_ <;> intro hc)
          | (refine w4 ?_; (first | ((fail_if_success have := b1); intro b1) | ((fail_if_success have := b2); intro b2) | ((fail_if_success have := b3); intro b3) | ((fail_if_success have := b4); intro b4) | ((fail_if_success have := b5); intro b5) | ((fail_if_success have := b6); intro b6) | intro _))
          | (refine w5 ?_; (first | ((fail_if_success have := A1); intro A1 c1) | ((fail_if_success have := A2); intro A2 c2) | intro _ _))
          | refine w3 ?_ ?_
          | fail_if_success skip)
      refine mixQ_n ?_
      refine TW.seq ?_
      repeat' (first
          | ((with_reducible refine ie_store ?_); (first | ((refine' Ef_storeA' rfl rfl ?q1 (mE_one _) ?q2 ?q3 ?_); (case q1 => exact siz_of rfl); (case q2 => (first | exact at0 | exact at1 | exact at2 | exact at3 | exact at4 | exact at5 | exact at6)); (case q3 => rfl)) | ((refine' Ef_storeC (C' := lgC true (.slice A2 (ms.length + 1) c2) sy) rfl rfl ?q1 ?q2 ?q3 ?q4 ?q5 ?_); (case q1 => rfl); (case q2 => exact siz_of rfl); (case q3 => (first | exact at0 | exact at1 | exact at2 | exact at3 | exact at4 | exact at5 | exact at6)); (case q4 => exact Nat.le_of_ble_eq_true rfl); (case q5 => rfl))))
          | ((with_reducible refine ie_callf ?_); (first | ((with_reducible refine g_call 37 ?_); (first | ((refine' Ef_callP rfl rfl ent_37 (fun w hp => none1_v w b true (.slice z.1 l.length z.2) sy (hp.blkOf ?q1)) ?_); (case q1 => (repeat (first | exact .head _ | apply List.Mem.tail)))))) | ((with_reducible refine g_call 17 ?_); (first | ((refine' Ef_callP rfl rfl ent_17 (fun w hp => stamp_v b z.1 l.length z.2 sy l w (hp.lrRd ?q1) rfl ?q2 _ hst (hp.blkOf ?q3)) ?_); (case q1 => (repeat (first | exact .head _ | apply List.Mem.tail))); (case q2 => omega); (case q3 => (repeat (first | exact .head _ | apply List.Mem.tail)))))) | ((with_reducible refine g_call 39 ?_); (first | (refine Ef_callN rfl rfl ent_39 (fun w hp => copies_c _ rfl w) ?_; intro b5)))))
          | (first | ((((refine' Ef_appLr rfl rfl rfl ?q1 ?q2 (fun w hp => hp.rowOf ?q3) ?q4 ?q5 ?_); (case q1 => exact app_of rfl); (case q2 => (first | exact at0 | exact at1 | exact at2 | exact at3 | exact at4 | exact at5 | exact at6)); (case q3 => (repeat (first | exact .head _ | apply List.Mem.tail))); (case q4 => omega); (case q5 => omega))); intro A2 c2))
          | ((with_reducible refine g_draw ?_); (first | (((with_reducible refine' T.drawM (id := 3) [(0, true), (1, true), (2, false), (3, false), (4, false), (5, false), (6, false), (7, false), (8, false), (9, false)] mixd ?q1 ?_); (case q1 => kernel_rfl))) | (((with_reducible refine' T.drawM (id := 5) [(0, true), (1, true), (2, false), (3, false), (4, false), (5, false)] mixd ?q1 ?_); (case q1 => kernel_rfl))) | (((with_reducible refine' T.drawM (id := 9) [(0, true), (1, true), (2, true), (3, true), (4, true), (5, false), (6, false), (7, false), (8, false), (9, false), (10, false)] mixd ?q1 ?_); (case q1 => kernel_rfl)))))
          | refine w1 ?_
          | (refine w2 ?_ ?_ <;> intro hc)
          | (refine w4 ?_; (first | ((fail_if_success have := b1); intro b1) | ((fail_if_success have := b2); intro b2) | ((fail_if_success have := b3); intro b3) | ((fail_if_success have := b4); intro b4) | ((fail_if_success have := b5); intro b5) | ((fail_if_success have := b6); intro b6) | intro _))
          | (refine w5 ?_; (first | ((fail_if_success have := A1); intro A1 c1) | ((fail_if_success have := A2); intro A2 c2) | intro _ _))
          | refine w3 ?_ ?_
          | fail_if_success skip)
      refine mixQ_n ?_
      refine TW.seqW ?_
      refine TW.seq ?_
      repeat' (first
          | ((with_reducible refine ie_store ?_); (first | ((refine' Ef_storeA' rfl rfl ?q1 (mE_one _) ?q2 ?q3 ?_); (case q1 => exact siz_of rfl); (case q2 => (first | exact at0 | exact at1 | exact at2 | exact at3 | exact at4 | exact at5 | exact at6)); (case q3 => rfl)) | ((refine' Ef_storeC (C' := lgC true (.slice A2 (ms.length + 1) c2) sy) rfl rfl ?q1 ?q2 ?q3 ?q4 ?q5 ?_); (case q1 => rfl); (case q2 => exact siz_of rfl); (case q3 => (first | exact at0 | exact at1 | exact at2 | exact at3 | exact at4 | exact at5 | exact at6)); (case q4 => exact Nat.le_of_ble_eq_true rfl); (case q5 => rfl))))
          | ((with_reducible refine ie_callf ?_); (first | ((with_reducible refine g_call 37 ?_); (first | ((refine' Ef_callP rfl rfl ent_37 (fun w hp => none1_v w b true (.slice z.1 l.length z.2) sy (hp.blkOf ?q1)) ?_); (case q1 => (repeat (first | exact .head _ | apply List.Mem.tail)))))) | ((with_reducible refine g_call 17 ?_); (first | ((refine' Ef_callP rfl rfl ent_17 (fun w hp => stamp_v b z.1 l.length z.2 sy l w (hp.lrRd ?q1) rfl ?q2 _ hst (hp.blkOf ?q3)) ?_); (case q1 => (repeat (first | exact .head _ | apply List.Mem.tail))); (case q2 => omega); (case q3 => (repeat (first | exact .head _ | apply List.Mem.tail)))))) | ((with_reducible refine g_call 39 ?_); (first | (refine Ef_callN rfl rfl ent_39 (fun w hp => copies_c _ rfl w) ?_; intro b5)))))
          | (first | ((((refine' Ef_appLr rfl rfl rfl ?q1 ?q2 (fun w hp => hp.rowOf ?q3) ?q4 ?q5 ?_); (case q1 => exact app_of rfl); (case q2 => (first | exact at0 | exact at1 | exact at2 | exact at3 | exact at4 | exact at5 | exact at6)); (case q3 => (repeat (first | exact .head _ | apply List.Mem.tail))); (case q4 => omega); (case q5 => omega))); intro A2 c2))
          | ((with_reducible refine g_draw ?_); (first | (((with_reducible refine' T.drawM (id := 3) [(0, true), (1, true), (2, false), (3, false), (4, false), (5, false), (6, false), (7, false), (8, false), (9, false)] mixd ?q1 ?_); (case q1 => kernel_rfl))) | (((with_reducible refine' T.drawM (id := 5) [(0, true), (1, true), (2, false), (3, false), (4, false), (5, false)] mixd ?q1 ?_); (case q1 => kernel_rfl))) | (((with_reducible refine' T.drawM (id := 9) [(0, true), (1, true), (2, true), (3, true), (4, true), (5, false), (6, false), (7, false), (8, false), (9, false), (10, false)] mixd ?q1 ?_); (case q1 => kernel_rfl)))))
          | refine w1 ?_
          | (refine w2 ?_ ?_ <;> intro hc)
          | (refine w4 ?_; (first | ((fail_if_success have := b1); intro b1) | ((fail_if_success have := b2); intro b2) | ((fail_if_success have := b3); intro b3) | ((fail_if_success have := b4); intro b4) | ((fail_if_success have := b5); intro b5) | ((fail_if_success have := b6); intro b6) | intro _))
          | (refine w5 ?_; (first | ((fail_if_success have := A1); intro A1 c1) | ((fail_if_success have := A2); intro A2 c2) | intro _ _))
          | refine w3 ?_ ?_
          | fail_if_success skip)
      refine mixQ_n ?_
      refine TW.block ?_
      refine .mk fun a wq hk hp => range_wp 300 (σ := Hd × List Me) (β := Me) (p := 28) (gf := 47) (fun x => [bA x]) (fun x => .agg (mE x).toArray) (·.2) (fun s => [.blk b1 (.cells #[.pointer (some ⟨b, 0, none⟩)] 32 (0, 0)), .blk b (.cells (lgC true (.slice s.1.1 s.2.length s.1.2) sy) 50 (0, 0)), lr s.2 s.1, bag (s.2.map bA)])
        [.row 27 5 (.slice (some ⟨b3, 0, none⟩) 1 1) 1 (mE e), .blk b5 (.cells #[.slice (some ⟨b3, 0, none⟩) 1 1] 24 (0, 0))] (z, l)
        (fun s => ∃ ys, s.2 = l ++ ys ∧ ys.map (·.1) = [e].map (·.1)) hk (hp.ofPart (by (repeat (first | exact Part.nil | refine Part.p0 ?_ | refine Part.p1 ?_ | refine Part.p2 ?_ | refine Part.p3 ?_ | refine Part.p4 ?_ | refine Part.p5 ?_ | refine Part.p6 ?_)))) rfl ent_47 rfl ?iter ?round ?post
      case iter =>
        rintro ly G' wr ⟨N, hN⟩ hY hp2
        have hbm : Asrt.blk b5 (.cells #[.slice (some ⟨b3, 0, none⟩) 1 1] 24 (0, 0)) ∈ ([.row 27 5 (.slice (some ⟨b3, 0, none⟩) 1 1) 1 (mE e), .blk b5 (.cells #[.slice (some ⟨b3, 0, none⟩) 1 1] 24 (0, 0))] : List Asrt) := .tail _ (.head _)
        have hrm : Asrt.row 27 5 (.slice (some ⟨b3, 0, none⟩) 1 1) 1 (mE e) ∈ ([.row 27 5 (.slice (some ⟨b3, 0, none⟩) 1 1) 1 (mE e), .blk b5 (.cells #[.slice (some ⟨b3, 0, none⟩) 1 1] 24 (0, 0))] : List Asrt) := .head _
        exact iter_c ly b5 (some ⟨b3, 0, none⟩) 1 1 [e] (·.2) G' (z, l) wr (hp2.blkOf (List.mem_append_right _ hbm)) (hp2.notInZ hbm (.head _)) (hp2.rowOf (List.mem_append_right _ hrm)) (fun _ => hp2.notInZ hrm (.head _)) rfl (by decide)
          (fun x hx => by rw [List.mem_singleton.1 hx]; exact hp2.rd he heR) (fun x hx h => by rw [List.mem_singleton.1 hx] at h ⊢; exact hp2.notInR (heR h) (he.lt h)) (fun x hx => by rw [List.mem_singleton.1 hx]; exact h5) (hp2.weaken (List.sublist_append_left _ _)).self 300 (by show l.length + 1 ≤ 300; omega) hY
      case round =>
        rintro ly D W ⟨⟨A1, c1⟩, ms⟩ x rc rc' hlen
        dsimp only at hlen
        dsimp only
        have oX := fun z => mE_one (x.1, z)
        refine TR.region rfl ?_
        refine TL_e ?_
        refine ie_alloc ?_
        refine Ef_alloc rfl (by exact zer_of rfl) fun b6 => ?_
        repeat' (first
            | ((with_reducible refine ie_store ?_); (first | ((refine' Ef_storeA' rfl rfl ?q1 (mE_one _) ?q2 ?q3 ?_); (case q1 => exact siz_of rfl); (case q2 => (first | exact at0 | exact at1 | exact at2 | exact at3 | exact at4 | exact at5 | exact at6)); (case q3 => rfl)) | ((refine' Ef_storeC (C' := lgC true (.slice A2 (ms.length + 1) c2) sy) rfl rfl ?q1 ?q2 ?q3 ?q4 ?q5 ?_); (case q1 => rfl); (case q2 => exact siz_of rfl); (case q3 => (first | exact at0 | exact at1 | exact at2 | exact at3 | exact at4 | exact at5 | exact at6)); (case q4 => exact Nat.le_of_ble_eq_true rfl); (case q5 => rfl))))
            | ((with_reducible refine ie_callf ?_); (first | ((with_reducible refine g_call 37 ?_); (first | ((refine' Ef_callP rfl rfl ent_37 (fun w hp => none1_v w b true (.slice z.1 l.length z.2) sy (hp.blkOf ?q1)) ?_); (case q1 => (repeat (first | exact .head _ | apply List.Mem.tail)))))) | ((with_reducible refine g_call 17 ?_); (first | ((refine' Ef_callP rfl rfl ent_17 (fun w hp => stamp_v b z.1 l.length z.2 sy l w (hp.lrRd ?q1) rfl ?q2 _ hst (hp.blkOf ?q3)) ?_); (case q1 => (repeat (first | exact .head _ | apply List.Mem.tail))); (case q2 => omega); (case q3 => (repeat (first | exact .head _ | apply List.Mem.tail)))))) | ((with_reducible refine g_call 39 ?_); (first | (refine Ef_callN rfl rfl ent_39 (fun w hp => copies_c _ rfl w) ?_; intro b5)))))
            | (first | ((((refine' Ef_appLr rfl rfl rfl ?q1 ?q2 (fun w hp => hp.rowOf ?q3) ?q4 ?q5 ?_); (case q1 => exact app_of rfl); (case q2 => (first | exact at0 | exact at1 | exact at2 | exact at3 | exact at4 | exact at5 | exact at6)); (case q3 => (repeat (first | exact .head _ | apply List.Mem.tail))); (case q4 => omega); (case q5 => omega))); intro A2 c2))
            | ((with_reducible refine g_draw ?_); (first | (((with_reducible refine' T.drawM (id := 3) [(0, true), (1, true), (2, false), (3, false), (4, false), (5, false), (6, false), (7, false), (8, false), (9, false)] mixd ?q1 ?_); (case q1 => kernel_rfl))) | (((with_reducible refine' T.drawM (id := 5) [(0, true), (1, true), (2, false), (3, false), (4, false), (5, false)] mixd ?q1 ?_); (case q1 => kernel_rfl))) | (((with_reducible refine' T.drawM (id := 9) [(0, true), (1, true), (2, true), (3, true), (4, true), (5, false), (6, false), (7, false), (8, false), (9, false), (10, false)] mixd ?q1 ?_); (case q1 => kernel_rfl)))))
            | refine w1 ?_
            | (refine w2 ?_ ?_ <;> intro hc)
            | (refine w4 ?_; (first | ((fail_if_success have := b1); intro b1) | ((fail_if_success have := b2); intro b2) | ((fail_if_success have := b3); intro b3) | ((fail_if_success have := b4); intro b4) | ((fail_if_success have := b5); intro b5) | ((fail_if_success have := b6); intro b6) | intro _))
            | (refine w5 ?_; (first | ((fail_if_success have := A1); intro A1 c1) | ((fail_if_success have := A2); intro A2 c2) | intro _ _))
            | refine w3 ?_ ?_
            | fail_if_success skip)
        refine ⟨rfl, [.blk b6 (.cells (mE x).toArray 27 (0, 0)), bA x, .blk b1 (.cells #[.pointer (some ⟨b, 0, none⟩)] 32 (0, 0)), .blk b (.cells (lgC true (.slice A1 ms.length c1) sy) 50 (0, 0)), lr ms (A1, c1), bag (ms.map bA)], rfl, ?_⟩
        refine TR.block ?_
        refine TR.drawB (.y 0 (.y 1 (.y 2 (.y 3 (.y 5 (.b 4 (.run [(6, false), (7, false), (8, false), (9, false), (10, false)]) 6 (.run [(4, false), (7, false), (8, false), (9, false), (10, false)]))))))) [.blk b6 (.cells (mE x).toArray 27 (0, 0)), .blk b1 (.cells #[.pointer (some ⟨b, 0, none⟩)] 32 (0, 0))] rfl mixd (by kernel_rfl) (by (repeat (first | exact List.nil_sublist _ | refine List.Sublist.cons_cons _ ?_ | refine List.Sublist.cons _ ?_))) ?_
        repeat' (first
            | ((with_reducible refine ie_store ?_); (first | ((refine' Ef_storeA' rfl rfl ?q1 (mE_one _) ?q2 ?q3 ?_); (case q1 => exact siz_of rfl); (case q2 => (first | exact at0 | exact at1 | exact at2 | exact at3 | exact at4 | exact at5 | exact at6)); (case q3 => rfl)) | ((refine' Ef_storeC (C' := lgC true (.slice A2 (ms.length + 1) c2) sy) rfl rfl ?q1 ?q2 ?q3 ?q4 ?q5 ?_); (case q1 => rfl); (case q2 => exact siz_of rfl); (case q3 => (first | exact at0 | exact at1 | exact at2 | exact at3 | exact at4 | exact at5 | exact at6)); (case q4 => exact Nat.le_of_ble_eq_true rfl); (case q5 => rfl))))
            | ((with_reducible refine ie_callf ?_); (first | ((with_reducible refine g_call 37 ?_); (first | ((refine' Ef_callP rfl rfl ent_37 (fun w hp => none1_v w b true (.slice z.1 l.length z.2) sy (hp.blkOf ?q1)) ?_); (case q1 => (repeat (first | exact .head _ | apply List.Mem.tail)))))) | ((with_reducible refine g_call 17 ?_); (first | ((refine' Ef_callP rfl rfl ent_17 (fun w hp => stamp_v b z.1 l.length z.2 sy l w (hp.lrRd ?q1) rfl ?q2 _ hst (hp.blkOf ?q3)) ?_); (case q1 => (repeat (first | exact .head _ | apply List.Mem.tail))); (case q2 => omega); (case q3 => (repeat (first | exact .head _ | apply List.Mem.tail)))))) | ((with_reducible refine g_call 39 ?_); (first | (refine Ef_callN rfl rfl ent_39 (fun w hp => copies_c _ rfl w) ?_; intro b5)))))
            | (first | ((((refine' Ef_appLr rfl rfl rfl ?q1 ?q2 (fun w hp => hp.rowOf ?q3) ?q4 ?q5 ?_); (case q1 => exact app_of rfl); (case q2 => (first | exact at0 | exact at1 | exact at2 | exact at3 | exact at4 | exact at5 | exact at6)); (case q3 => (repeat (first | exact .head _ | apply List.Mem.tail))); (case q4 => omega); (case q5 => omega))); intro A2 c2))
            | ((with_reducible refine g_draw ?_); (first | (((with_reducible refine' T.drawM (id := 3) [(0, true), (1, true), (2, false), (3, false), (4, false), (5, false), (6, false), (7, false), (8, false), (9, false)] mixd ?q1 ?_); (case q1 => kernel_rfl))) | (((with_reducible refine' T.drawM (id := 5) [(0, true), (1, true), (2, false), (3, false), (4, false), (5, false)] mixd ?q1 ?_); (case q1 => kernel_rfl))) | (((with_reducible refine' T.drawM (id := 9) [(0, true), (1, true), (2, true), (3, true), (4, true), (5, false), (6, false), (7, false), (8, false), (9, false), (10, false)] mixd ?q1 ?_); (case q1 => kernel_rfl)))))
            | refine w1 ?_
            | (refine w2 ?_ ?_ <;> intro hc)
            | (refine w4 ?_; (first | ((fail_if_success have := b1); intro b1) | ((fail_if_success have := b2); intro b2) | ((fail_if_success have := b3); intro b3) | ((fail_if_success have := b4); intro b4) | ((fail_if_success have := b5); intro b5) | ((fail_if_success have := b6); intro b6) | intro _))
            | (refine w5 ?_; (first | ((fail_if_success have := A1); intro A1 c1) | ((fail_if_success have := A2); intro A2 c2) | intro _ _))
            | refine w3 ?_ ?_
            | fail_if_success skip)
        all_goals
          refine ⟨rfl, ((A2, c2), ms ++ [x]), rfl, fun w' hp' => ?_⟩
          have hp2 := (hp'.ofPart (M' := [bA x, bag (ms.map bA), .blk b1 (.cells #[.pointer (some ⟨b, 0, none⟩)] 32 (0, 0)), .blk b (.cells (lgC true (.slice A2 (ms.length + 1) c2) sy) 50 (0, 0)), lr (ms ++ [x]) (A2, c2)] ++ recs ly D rc') (by (repeat (first | exact Part.nil | refine Part.p0 ?_ | refine Part.p1 ?_ | refine Part.p2 ?_ | refine Part.p3 ?_ | refine Part.p4 ?_ | refine Part.p5 ?_ | refine Part.p6 ?_)))).bagAdd
          dsimp only
          rw [List.length_append, List.map_append]
          exact hp2.ofPart (by (repeat (first | exact Part.nil | refine Part.p0 ?_ | refine Part.p1 ?_ | refine Part.p2 ?_ | refine Part.p3 ?_ | refine Part.p4 ?_ | refine Part.p5 ?_ | refine Part.p6 ?_)))
      case post =>
        rintro D ⟨⟨A1, c1⟩, ms⟩ wr ⟨ys, hys, hym⟩ hp2
        dsimp only at hys
        subst hys
        show (Code.seq _ _).wp _ _ _ _
        refine wp_seq (wp_region_lit (TD.run ?_ _ wr ⟨hk.bare D, rfl⟩ hp2))
        refine TD_y rfl ⟨_, Yl_assign rfl, ?_⟩
        refine TD_nil fun a w hk hp => ?_
        exact wp_ret (retD (.inr rfl) (xL b (A1, c1) (l ++ ys) sy) hk (hp.ofPart (by (repeat (first | exact Part.nil | refine Part.p0 ?_ | refine Part.p1 ?_ | refine Part.p2 ?_ | refine Part.p3 ?_ | refine Part.p4 ?_ | refine Part.p5 ?_ | refine Part.p6 ?_)))) (res1 rfl rfl) ⟨((A1, c1), l ++ ys), by rw [List.map_append, hym]; rfl, rfl, rfl⟩)
  · rw [if_pos (by omega)]
    refine Sp.enterM (n := 39) Try.func28 rfl rfl rfl hp fun a hk => ?_
    refine TW.run (M := xL b z l sy) ?_ a w hk hp
    refine TW.seq ?_
    repeat' (first
        | ((with_reducible refine ie_store ?_); (first | ((refine' Ef_storeA' rfl rfl ?q1 (mE_one _) ?q2 ?q3 ?_); (case q1 => exact siz_of rfl); (case q2 => (first | exact at0 | exact at1 | exact at2 | exact at3 | exact at4 | exact at5 | exact at6)); (case q3 => rfl)) | ((refine' Ef_storeC (C' := lgC true (.slice A2 (ms.length + 1) c2) sy) rfl rfl ?q1 ?q2 ?q3 ?q4 ?q5 ?_); (case q1 => rfl); (case q2 => exact siz_of rfl); (case q3 => (first | exact at0 | exact at1 | exact at2 | exact at3 | exact at4 | exact at5 | exact at6)); (case q4 => exact Nat.le_of_ble_eq_true rfl); (case q5 => rfl))))
        | ((with_reducible refine ie_callf ?_); (first | ((with_reducible refine g_call 37 ?_); (first | ((refine' Ef_callP rfl rfl ent_37 (fun w hp => none1_v w b true (.slice z.1 l.length z.2) sy (hp.blkOf ?q1)) ?_); (case q1 => (repeat (first | exact .head _ | apply List.Mem.tail)))))) | ((with_reducible refine g_call 17 ?_); (first | ((refine' Ef_callP rfl rfl ent_17 (fun w hp => stamp_v b z.1 l.length z.2 sy l w (hp.lrRd ?q1) rfl ?q2 _ hst (hp.blkOf ?q3)) ?_); (case q1 => (repeat (first | exact .head _ | apply List.Mem.tail))); (case q2 => omega); (case q3 => (repeat (first | exact .head _ | apply List.Mem.tail)))))) | ((with_reducible refine g_call 39 ?_); (first | (refine Ef_callN rfl rfl ent_39 (fun w hp => copies_c _ rfl w) ?_; intro b5)))))
        | (first | ((((refine' Ef_appLr rfl rfl rfl ?q1 ?q2 (fun w hp => hp.rowOf ?q3) ?q4 ?q5 ?_); (case q1 => exact app_of rfl); (case q2 => (first | exact at0 | exact at1 | exact at2 | exact at3 | exact at4 | exact at5 | exact at6)); (case q3 => (repeat (first | exact .head _ | apply List.Mem.tail))); (case q4 => omega); (case q5 => omega))); intro A2 c2))
        | ((with_reducible refine g_draw ?_); (first | (((with_reducible refine' T.drawM (id := 3) [(0, true), (1, true), (2, false), (3, false), (4, false), (5, false), (6, false), (7, false), (8, false), (9, false)] mixd ?q1 ?_); (case q1 => kernel_rfl))) | (((with_reducible refine' T.drawM (id := 5) [(0, true), (1, true), (2, false), (3, false), (4, false), (5, false)] mixd ?q1 ?_); (case q1 => kernel_rfl))) | (((with_reducible refine' T.drawM (id := 9) [(0, true), (1, true), (2, true), (3, true), (4, true), (5, false), (6, false), (7, false), (8, false), (9, false), (10, false)] mixd ?q1 ?_); (case q1 => kernel_rfl)))))
        | refine w1 ?_
        | (refine w2 ?_ ?_ <;> intro hc)
        | (refine w4 ?_; (first | ((fail_if_success have := b1); intro b1) | ((fail_if_success have := b2); intro b2) | ((fail_if_success have := b3); intro b3) | ((fail_if_success have := b4); intro b4) | ((fail_if_success have := b5); intro b5) | ((fail_if_success have := b6); intro b6) | intro _))
        | (refine w5 ?_; (first | ((fail_if_success have := A1); intro A1 c1) | ((fail_if_success have := A2); intro A2 c2) | intro _ _))
        | refine w3 ?_ ?_
        | fail_if_success skip)
    refine mixQ_n ?_
    refine TW.seq ?_
    repeat' (first
        | ((with_reducible refine ie_store ?_); (first | ((refine' Ef_storeA' rfl rfl ?q1 (mE_one _) ?q2 ?q3 ?_); (case q1 => exact siz_of rfl); (case q2 => (first | exact at0 | exact at1 | exact at2 | exact at3 | exact at4 | exact at5 | exact at6)); (case q3 => rfl)) | ((refine' Ef_storeC (C' := lgC true (.slice A2 (ms.length + 1) c2) sy) rfl rfl ?q1 ?q2 ?q3 ?q4 ?q5 ?_); (case q1 => rfl); (case q2 => exact siz_of rfl); (case q3 => (first | exact at0 | exact at1 | exact at2 | exact at3 | exact at4 | exact at5 | exact at6)); (case q4 => exact Nat.le_of_ble_eq_true rfl); (case q5 => rfl))))
        | ((with_reducible refine ie_callf ?_); (first | ((with_reducible refine g_call 37 ?_); (first | ((refine' Ef_callP rfl rfl ent_37 (fun w hp => none1_v w b true (.slice z.1 l.length z.2) sy (hp.blkOf ?q1)) ?_); (case q1 => (repeat (first | exact .head _ | apply List.Mem.tail)))))) | ((with_reducible refine g_call 17 ?_); (first | ((refine' Ef_callP rfl rfl ent_17 (fun w hp => stamp_v b z.1 l.length z.2 sy l w (hp.lrRd ?q1) rfl ?q2 _ hst (hp.blkOf ?q3)) ?_); (case q1 => (repeat (first | exact .head _ | apply List.Mem.tail))); (case q2 => omega); (case q3 => (repeat (first | exact .head _ | apply List.Mem.tail)))))) | ((with_reducible refine g_call 39 ?_); (first | (refine Ef_callN rfl rfl ent_39 (fun w hp => copies_c _ rfl w) ?_; intro b5)))))
        | (first | ((((refine' Ef_appLr rfl rfl rfl ?q1 ?q2 (fun w hp => hp.rowOf ?q3) ?q4 ?q5 ?_); (case q1 => exact app_of rfl); (case q2 => (first | exact at0 | exact at1 | exact at2 | exact at3 | exact at4 | exact at5 | exact at6)); (case q3 => (repeat (first | exact .head _ | apply List.Mem.tail))); (case q4 => omega); (case q5 => omega))); intro A2 c2))
        | ((with_reducible refine g_draw ?_); (first | (((with_reducible refine' T.drawM (id := 3) [(0, true), (1, true), (2, false), (3, false), (4, false), (5, false), (6, false), (7, false), (8, false), (9, false)] mixd ?q1 ?_); (case q1 => kernel_rfl))) | (((with_reducible refine' T.drawM (id := 5) [(0, true), (1, true), (2, false), (3, false), (4, false), (5, false)] mixd ?q1 ?_); (case q1 => kernel_rfl))) | (((with_reducible refine' T.drawM (id := 9) [(0, true), (1, true), (2, true), (3, true), (4, true), (5, false), (6, false), (7, false), (8, false), (9, false), (10, false)] mixd ?q1 ?_); (case q1 => kernel_rfl)))))
        | refine w1 ?_
        | (refine w2 ?_ ?_ <;> intro hc)
        | (refine w4 ?_; (first | ((fail_if_success have := b1); intro b1) | ((fail_if_success have := b2); intro b2) | ((fail_if_success have := b3); intro b3) | ((fail_if_success have := b4); intro b4) | ((fail_if_success have := b5); intro b5) | ((fail_if_success have := b6); intro b6) | intro _))
        | (refine w5 ?_; (first | ((fail_if_success have := A1); intro A1 c1) | ((fail_if_success have := A2); intro A2 c2) | intro _ _))
        | refine w3 ?_ ?_
        | fail_if_success skip)
    exact retM (xL b z l sy) (fun a w => res1 rfl rfl a w) (by (repeat (first | exact List.nil_sublist _ | refine List.Sublist.cons_cons _ ?_ | refine List.Sublist.cons _ ?_))) ⟨(z, l), rfl, rfl, rfl⟩
end
end Go.Proofs.Ytegaejbfhpigjaa
