/- An act on a net and on the document's: Send: what a call of one comes to. -/
import Derived.Test.YtdbpnolpgkcjiaaT13
import Derived.Test.YtdbpnolpgkcjiaaT10
namespace Go.Proofs.Ytdbpnolpgkcjiaa
open Go.RowKit Go.Conc

theorem eU_set (zs : List UInt8) (i : Nat) (v : UInt8) : (zs.flatMap eU).set (i * 1) (.int .u8 (v.toNat : Int)) = (zs.set i v).flatMap eU := by
  have e : ∀ l : List UInt8, l.flatMap eU = l.map fun b => Value.int .u8 (b.toNat : Int) := fun l => by
    induction l with
    | nil => rfl
    | cons a l ih => rw [List.flatMap_cons, ih]; rfl
  rw [e, e, Nat.mul_one, List.map_set]
theorem Yl_addU8 {P : Program} {n : Nat} {w0 : World} {R : List Nat} {L : List (Nat × Value)} {M : List Asrt} {ty t yt : TypeId} {x y : Operand} {u : UInt8} (hx : evl L x = some (.int .u8 (u.toNat : Int))) (hy : evl L y = some (.int .u8 1)) : Yl P n w0 R (.binOp .add t x y yt) ty L M (.int .u8 ((u + 1).toNat : Int)) := Yl_bin_int hx hy fun w => by
  rw [run_binInt (by decide)]
  have : IntKind.wrap .u8 ((u.toNat : Int) + 1) = ((u + 1).toNat : Int) := by
    simp [IntKind.wrap, IntKind.signed, IntKind.bits, UInt8.toNat_add]
  simp [arithI, Op.intArith, this]
theorem row_foot {w : World} {A : Option Addr} {e k m cap : Nat} {xs : List Value} (h : Rd w A m k xs) (h0 : 0 < m) : (adr A).block ∈ (Asrt.row e k (.slice A m cap) m xs).foot := by
  show _ ∈ (Value.ownBlock (.slice A _ _)).toList
  rw [h.some_ h0]
  simp [Value.ownBlock, adr]
/-- Where a packet lies. -/
def fo (p : Pk) : Hd × Nat := (p.2, p.1.length)
theorem fo_at {l m : List Pk} (h : l.map fo = m.map fo) {i : Nat} {x : Pk} (hx : m[i]? = some x) : ∃ y, l[i]? = some y ∧ fo y = fo x := by
  have h1 : (m.map fo)[i]? = some (fo x) := by rw [List.getElem?_map, hx]; rfl
  rw [← h, List.getElem?_map] at h1
  exact Option.map_eq_some_iff.1 h1
theorem fo_cut {bs ms : List Pk} {j : Nat} {y : List UInt8} {h : Hd} (hb : bs[j]? = some (y, h)) (hs : bs.map fo = ms.map fo) (us : List UInt8) (hu : us.length = y.length) : (bs.take j ++ (us, h) :: bs.drop (j + 1)).map fo = ms.map fo := by
  rw [← hs]
  conv => rhs; rw [cut_at hb]
  simp only [List.map_append, List.map_cons]
  rw [show fo (us, h) = fo (y, h) from by unfold fo; rw [hu]]

section
variable (b c b' : Nat) (z : Hd) (lx ly : List Pk) (a : Ac) (w : World) (R : List Nat) (hp : Hp w R (xL b c lx ++ yL b' z ly) w) (hxy : lx.map (·.1) = ly.map (·.1)) (hl : lx.length ≤ 2000) (hlb : ∀ p ∈ lx, p.1.length ≤ 140737488355328)
variable (ha : Rd w a.h.1 a.l.length 1 (a.l.flatMap pE)) (haR : 0 < a.l.length → (adr a.h.1).block ∉ R) (hin : Ins w a.l) (hinR : ∀ p ∈ a.l, 0 < p.1.length → (adr p.2.1).block ∉ R) (h5 : ∀ p ∈ a.l, p.1.length ≤ 140737488355328) (hal : a.l.length ≤ 2000)
include hp hxy hl hlb ha haR hin hinR h5 hal
set_option maxHeartbeats 16000000 in
theorem one_send (hk : a.kind = 0 ∨ a.kind = 1 ∨ a.kind = 2) : Sp Try.prog 17 [.pointer (some ⟨b, 0, none⟩), .pointer (some ⟨b', 0, none⟩), .agg (aE a).toArray] w R (OneR b c b' lx.length a.l.length) := by
  have hll := maps_len hxy
  have hroomy : ly.length + a.l.length ≤ 4096 := by omega
  refine Sp.mem (Res := fun v N => ∃ ns z2 ms, (ns.map (·.1) = a.l.map (·.1) ∧ ms.map (·.1) = ly.map (·.1) ++ a.l.map (·.1)) ∧ v = .bool true ∧ N = yL b' z2 ms ++ [nO b c, chA c (lx ++ ns), bag (lx.map bP), bag (ns.map bP)]) ?_ ?_
  · rcases hk with hk | hk | hk
    all_goals
      refine Sp.enter (n := 128) Try.func17 rfl rfl rfl hp ?_
      refine T.mem (fun _ h => h.bagNil) ?_
      refine T.row0 38 1 ?_
      repeat' (first
          | ((with_reducible refine is_load ?_); (first | ((refine' ⟨_, Yl_load_hp rfl ?q1 (fun w hp => hp.rd ha haR) ?q2, ?_⟩); (case q1 => exact one_of rfl); (case q2 => assumption)) | ((refine' ⟨_, Yl_load_row rfl ?q1 ?q2 e4, ?_⟩); (case q1 => exact one_of rfl); (case q2 => (repeat (first | exact .head _ | apply List.Mem.tail))))))
          | ((with_reducible refine ie_store ?_); (first | ((refine' Ef_store_row1 rfl rfl ?q1 ?q2 ?q3 ?q4 (eU_set us k _) ?_); (case q1 => rfl); (case q2 => exact siz_of rfl); (case q3 => (first | exact at0 | exact at1 | exact at2 | exact at3 | exact at4 | exact at5 | exact at6)); (case q4 => omega))))
          | ((with_reducible refine ie_callf ?_); (first
          | ((with_reducible refine g_call 28 ?_); (first | (refine Ef_callN rfl rfl ent_28 (fun w hp => copy_c x w (hp.rd (hin x (mem_of_some hx)) (hinR x (mem_of_some hx))) (h5 x (mem_of_some hx))) ?_; rintro ⟨A1, c1⟩)))
          | ((with_reducible refine g_call 10 ?_); (first
          | (((refine' Ef_callW [false, false, false, true, true, false, false, false, false] rfl rfl ent_10 rfl rfl rfl (fun w hp hp2 => send2_c b c w _ lx hp2 A0 c0 zs (hp.rowOf ?q1) (fun h => hp.apartS [false, false, false, true, true, false, false, false, false] rfl rfl (A := .row 38 1 (.slice A0 zs.length c0) zs.length (zs.flatMap pE)) ?q2 (row_foot (hp.rowOf (xs := zs.flatMap pE) ?q3) h)) (hp.ins_bag (ps := zs) ?q4) (fun y hy h => hp.apartS [false, false, false, true, true, false, false, false, false] rfl rfl (A := bag (zs.map bP)) ?q5 (bag_foot hy (hp.ins_bag (ps := zs) ?q6 y hy) h)) h5z hroomx) ?_); (case q1 => (repeat (first | exact .head _ | apply List.Mem.tail))); (case q2 => (repeat (first | exact .head _ | apply List.Mem.tail))); (case q3 => (repeat (first | exact .head _ | apply List.Mem.tail))); (case q4 => (repeat (first | exact .head _ | apply List.Mem.tail))); (case q5 => (repeat (first | exact .head _ | apply List.Mem.tail))); (case q6 => (repeat (first | exact .head _ | apply List.Mem.tail)))); rintro ns hns)))
          | ((with_reducible refine g_call 29 ?_); (first | (refine Ef_callW [false, false, false, false, false, false, false, true, true, true] rfl rfl ent_29 rfl rfl rfl (fun w hp hp2 => rsend_c b' z ly w _ hp2 a.h.1 a.h.2 a.l (hp.rd ha haR) (fun h => hp.outS [false, false, false, false, false, false, false, true, true, true] rfl (ha.lt h) (haR h)) (fun y hy => hp.rd (hin y hy) (hinR y hy)) (fun y hy h => hp.outS [false, false, false, false, false, false, false, true, true, true] rfl ((hin y hy).lt h) (hinR y hy h)) h5 hroomy) ?_; rintro ⟨z2, ms⟩ hms)))))
          | (first | ((((refine' Ef_appG_row (xs := zs.flatMap pE) (news := [pV (x.1, (A1, c1))]) rfl rfl rfl ?q1 ?q2 ?q3 (pE_one (x.1, (A1, c1))) ?q4 ?q5 ?_); (case q1 => exact app_of rfl); (case q2 => (first | exact at0 | exact at1 | exact at2 | exact at3 | exact at4 | exact at5 | exact at6)); (case q3 => (repeat (first | exact .head _ | apply List.Mem.tail))); (case q4 => omega); (case q5 => omega))); (first | ((fail_if_success have := A1); intro A1 c1) | ((fail_if_success have := A2); intro A2 c2) | intro _ _)))
          | refine w1 ?_
          | (refine w2 ?_ ?_ <;> intro hc)
          | (first | refine ⟨_, Yl_addU8 rfl rfl, ?_⟩)
          | (refine w4 ?_; (first | ((fail_if_success have := b1); intro b1) | intro _))
          | (refine w5 ?_; (first | ((fail_if_success have := A1); intro A1 c1) | ((fail_if_success have := A2); intro A2 c2) | intro _ _))
          | refine w3 ?_ ?_
          | fail_if_success skip)
      refine T.loopM (α := Nat × Hd × List Pk) (fun y => [(0, .pointer (some ⟨b, 0, none⟩)), (1, .pointer (some ⟨b', 0, none⟩)), (5, .pointer (some ⟨b1, 0, none⟩)), (7, .slice y.2.1.1 y.2.2.length y.2.1.2), (8, .int .i64 (y.1 : Int))]) (fun y => .blk b1 (.cells (aE a).toArray 31 (0, 0)) :: .row 38 1 (.slice y.2.1.1 y.2.2.length y.2.1.2) y.2.2.length (y.2.2.flatMap pE) :: bag (y.2.2.map bP) :: (xL b c lx ++ yL b' z ly)) (fun y => y.1 ≤ a.l.length ∧ y.2.2.map (·.1) = (a.l.take y.1).map (·.1)) (fun y => a.l.length - y.1) (0, (none, 0), []) ?_ ?_ ?_ ?_
      · (repeat (first | exact Sub.nil | refine Sub.cons rfl ?_))
      · exact fun _ h => h.ofPart (by (repeat (first | exact Part.nil | refine Part.p0 ?_ | refine Part.p1 ?_ | refine Part.p2 ?_ | refine Part.p3 ?_ | refine Part.p4 ?_ | refine Part.p5 ?_ | refine Part.p6 ?_)))
      · exact ⟨Nat.zero_le _, rfl⟩
      · rintro ⟨i, ⟨A0, c0⟩, zs⟩ ⟨hi, hzs⟩
        dsimp only at hi hzs ⊢
        have hzl : zs.length = i := by have := congrArg List.length hzs; simpa [Nat.min_eq_left hi] using this
        by_cases hlt : i < a.l.length
        · obtain ⟨x, hx⟩ := some_of_lt (l := a.l) (i := i) hlt
          have e0 : (a.l.flatMap pE)[i * 1]? = some (pV x) := enc_at pE_len hx (j := 0) (by decide)
          repeat' (first
              | ((with_reducible refine is_load ?_); (first | ((refine' ⟨_, Yl_load_hp rfl ?q1 (fun w hp => hp.rd ha haR) ?q2, ?_⟩); (case q1 => exact one_of rfl); (case q2 => assumption)) | ((refine' ⟨_, Yl_load_row rfl ?q1 ?q2 e4, ?_⟩); (case q1 => exact one_of rfl); (case q2 => (repeat (first | exact .head _ | apply List.Mem.tail))))))
              | ((with_reducible refine ie_store ?_); (first | ((refine' Ef_store_row1 rfl rfl ?q1 ?q2 ?q3 ?q4 (eU_set us k _) ?_); (case q1 => rfl); (case q2 => exact siz_of rfl); (case q3 => (first | exact at0 | exact at1 | exact at2 | exact at3 | exact at4 | exact at5 | exact at6)); (case q4 => omega))))
              | ((with_reducible refine ie_callf ?_); (first
              | ((with_reducible refine g_call 28 ?_); (first | (refine Ef_callN rfl rfl ent_28 (fun w hp => copy_c x w (hp.rd (hin x (mem_of_some hx)) (hinR x (mem_of_some hx))) (h5 x (mem_of_some hx))) ?_; rintro ⟨A1, c1⟩)))
              | ((with_reducible refine g_call 10 ?_); (first
              | (((refine' Ef_callW [false, false, false, true, true, false, false, false, false] rfl rfl ent_10 rfl rfl rfl (fun w hp hp2 => send2_c b c w _ lx hp2 A0 c0 zs (hp.rowOf ?q1) (fun h => hp.apartS [false, false, false, true, true, false, false, false, false] rfl rfl (A := .row 38 1 (.slice A0 zs.length c0) zs.length (zs.flatMap pE)) ?q2 (row_foot (hp.rowOf (xs := zs.flatMap pE) ?q3) h)) (hp.ins_bag (ps := zs) ?q4) (fun y hy h => hp.apartS [false, false, false, true, true, false, false, false, false] rfl rfl (A := bag (zs.map bP)) ?q5 (bag_foot hy (hp.ins_bag (ps := zs) ?q6 y hy) h)) h5z hroomx) ?_); (case q1 => (repeat (first | exact .head _ | apply List.Mem.tail))); (case q2 => (repeat (first | exact .head _ | apply List.Mem.tail))); (case q3 => (repeat (first | exact .head _ | apply List.Mem.tail))); (case q4 => (repeat (first | exact .head _ | apply List.Mem.tail))); (case q5 => (repeat (first | exact .head _ | apply List.Mem.tail))); (case q6 => (repeat (first | exact .head _ | apply List.Mem.tail)))); rintro ns hns)))
              | ((with_reducible refine g_call 29 ?_); (first | (refine Ef_callW [false, false, false, false, false, false, false, true, true, true] rfl rfl ent_29 rfl rfl rfl (fun w hp hp2 => rsend_c b' z ly w _ hp2 a.h.1 a.h.2 a.l (hp.rd ha haR) (fun h => hp.outS [false, false, false, false, false, false, false, true, true, true] rfl (ha.lt h) (haR h)) (fun y hy => hp.rd (hin y hy) (hinR y hy)) (fun y hy h => hp.outS [false, false, false, false, false, false, false, true, true, true] rfl ((hin y hy).lt h) (hinR y hy h)) h5 hroomy) ?_; rintro ⟨z2, ms⟩ hms)))))
              | (first | ((((refine' Ef_appG_row (xs := zs.flatMap pE) (news := [pV (x.1, (A1, c1))]) rfl rfl rfl ?q1 ?q2 ?q3 (pE_one (x.1, (A1, c1))) ?q4 ?q5 ?_); (case q1 => exact app_of rfl); (case q2 => (first | exact at0 | exact at1 | exact at2 | exact at3 | exact at4 | exact at5 | exact at6)); (case q3 => (repeat (first | exact .head _ | apply List.Mem.tail))); (case q4 => omega); (case q5 => omega))); (first | ((fail_if_success have := A1); intro A1 c1) | ((fail_if_success have := A2); intro A2 c2) | intro _ _)))
              | refine w1 ?_
              | (refine w2 ?_ ?_ <;> intro hc)
              | (first | refine ⟨_, Yl_addU8 rfl rfl, ?_⟩)
              | (refine w4 ?_; (first | ((fail_if_success have := b1); intro b1) | intro _))
              | (refine w5 ?_; (first | ((fail_if_success have := A1); intro A1 c1) | ((fail_if_success have := A2); intro A2 c2) | intro _ _))
              | refine w3 ?_ ?_
              | fail_if_success skip)
          refine loopH_n (i + 1, (A2, c2), zs ++ [(x.1, (A1, c1))]) ?_ (fun w' h => ?_) ⟨show i + 1 ≤ _ by omega, by dsimp only; rw [take_snoc hx, List.map_append, List.map_append, hzs]; rfl⟩ (show a.l.length - (i + 1) < a.l.length - i by omega)
          · rw [List.length_append]; (repeat (first | exact Sub.nil | refine Sub.cons rfl ?_))
          · have h3 := (h.ofPart (M' := bP (x.1, (A1, c1)) :: bag (zs.map bP) :: .blk b1 (.cells (aE a).toArray 31 (0, 0)) :: .row 38 1 (.slice A2 (zs.length + 1) c2) (zs.length + 1) (zs.flatMap pE ++ [pV (x.1, (A1, c1))]) :: (xL b c lx ++ yL b' z ly)) (by (repeat (first | exact Part.nil | refine Part.p0 ?_ | refine Part.p1 ?_ | refine Part.p2 ?_ | refine Part.p3 ?_ | refine Part.p4 ?_ | refine Part.p5 ?_ | refine Part.p6 ?_)))).bagAdd
            dsimp only
            rw [List.length_append, pE_snoc, List.map_append]
            exact h3.ofPart (by (repeat (first | exact Part.nil | refine Part.p0 ?_ | refine Part.p1 ?_ | refine Part.p2 ?_ | refine Part.p3 ?_ | refine Part.p4 ?_ | refine Part.p5 ?_ | refine Part.p6 ?_)))
        · rw [List.take_of_length_le (by omega)] at hzs
          have h5z : ∀ p ∈ zs, p.1.length ≤ 140737488355328 := fun p hp => by
            have h1 : p.1 ∈ a.l.map (·.1) := hzs ▸ List.mem_map.2 ⟨p, hp, rfl⟩
            obtain ⟨y, hy, hyp⟩ := List.mem_map.1 h1
            rw [← hyp]; exact h5 y hy
          have hroomx : lx.length + zs.length ≤ 4096 := by omega
          have hzl2 : zs.length ≤ 2000 := by omega
          repeat' (first
              | ((with_reducible refine is_load ?_); (first | ((refine' ⟨_, Yl_load_hp rfl ?q1 (fun w hp => hp.rd ha haR) ?q2, ?_⟩); (case q1 => exact one_of rfl); (case q2 => assumption)) | ((refine' ⟨_, Yl_load_row rfl ?q1 ?q2 e4, ?_⟩); (case q1 => exact one_of rfl); (case q2 => (repeat (first | exact .head _ | apply List.Mem.tail))))))
              | ((with_reducible refine ie_store ?_); (first | ((refine' Ef_store_row1 rfl rfl ?q1 ?q2 ?q3 ?q4 (eU_set us k _) ?_); (case q1 => rfl); (case q2 => exact siz_of rfl); (case q3 => (first | exact at0 | exact at1 | exact at2 | exact at3 | exact at4 | exact at5 | exact at6)); (case q4 => omega))))
              | ((with_reducible refine ie_callf ?_); (first
              | ((with_reducible refine g_call 28 ?_); (first | (refine Ef_callN rfl rfl ent_28 (fun w hp => copy_c x w (hp.rd (hin x (mem_of_some hx)) (hinR x (mem_of_some hx))) (h5 x (mem_of_some hx))) ?_; rintro ⟨A1, c1⟩)))
              | ((with_reducible refine g_call 10 ?_); (first
              | (((refine' Ef_callW [false, false, false, true, true, false, false, false, false] rfl rfl ent_10 rfl rfl rfl (fun w hp hp2 => send2_c b c w _ lx hp2 A0 c0 zs (hp.rowOf ?q1) (fun h => hp.apartS [false, false, false, true, true, false, false, false, false] rfl rfl (A := .row 38 1 (.slice A0 zs.length c0) zs.length (zs.flatMap pE)) ?q2 (row_foot (hp.rowOf (xs := zs.flatMap pE) ?q3) h)) (hp.ins_bag (ps := zs) ?q4) (fun y hy h => hp.apartS [false, false, false, true, true, false, false, false, false] rfl rfl (A := bag (zs.map bP)) ?q5 (bag_foot hy (hp.ins_bag (ps := zs) ?q6 y hy) h)) h5z hroomx) ?_); (case q1 => (repeat (first | exact .head _ | apply List.Mem.tail))); (case q2 => (repeat (first | exact .head _ | apply List.Mem.tail))); (case q3 => (repeat (first | exact .head _ | apply List.Mem.tail))); (case q4 => (repeat (first | exact .head _ | apply List.Mem.tail))); (case q5 => (repeat (first | exact .head _ | apply List.Mem.tail))); (case q6 => (repeat (first | exact .head _ | apply List.Mem.tail)))); rintro ns hns)))
              | ((with_reducible refine g_call 29 ?_); (first | (refine Ef_callW [false, false, false, false, false, false, false, true, true, true] rfl rfl ent_29 rfl rfl rfl (fun w hp hp2 => rsend_c b' z ly w _ hp2 a.h.1 a.h.2 a.l (hp.rd ha haR) (fun h => hp.outS [false, false, false, false, false, false, false, true, true, true] rfl (ha.lt h) (haR h)) (fun y hy => hp.rd (hin y hy) (hinR y hy)) (fun y hy h => hp.outS [false, false, false, false, false, false, false, true, true, true] rfl ((hin y hy).lt h) (hinR y hy h)) h5 hroomy) ?_; rintro ⟨z2, ms⟩ hms)))))
              | (first | ((((refine' Ef_appG_row (xs := zs.flatMap pE) (news := [pV (x.1, (A1, c1))]) rfl rfl rfl ?q1 ?q2 ?q3 (pE_one (x.1, (A1, c1))) ?q4 ?q5 ?_); (case q1 => exact app_of rfl); (case q2 => (first | exact at0 | exact at1 | exact at2 | exact at3 | exact at4 | exact at5 | exact at6)); (case q3 => (repeat (first | exact .head _ | apply List.Mem.tail))); (case q4 => omega); (case q5 => omega))); (first | ((fail_if_success have := A1); intro A1 c1) | ((fail_if_success have := A2); intro A2 c2) | intro _ _)))
              | refine w1 ?_
              | (refine w2 ?_ ?_ <;> intro hc)
              | (first | refine ⟨_, Yl_addU8 rfl rfl, ?_⟩)
              | (refine w4 ?_; (first | ((fail_if_success have := b1); intro b1) | intro _))
              | (refine w5 ?_; (first | ((fail_if_success have := A1); intro A1 c1) | ((fail_if_success have := A2); intro A2 c2) | intro _ _))
              | refine w3 ?_ ?_
              | fail_if_success skip)
          refine T.loopM (α := Nat × List Pk) (fun y => [(1, .pointer (some ⟨b', 0, none⟩)), (5, .pointer (some ⟨b1, 0, none⟩)), (7, .slice A0 zs.length c0), (9, .int .i64 0), (10, .int .i64 (y.1 : Int))]) (fun y => .row 38 1 (.slice A0 zs.length c0) zs.length (zs.flatMap pE) :: bag (y.2.map bP) :: .blk b1 (.cells (aE a).toArray 31 (0, 0)) :: nO b c :: chA c (lx ++ ns) :: bag (lx.map bP) :: bag (ns.map bP) :: yL b' z ly) (fun y => y.1 ≤ zs.length ∧ y.2.map fo = zs.map fo) (fun y => zs.length - y.1) (0, zs) ?_ ?_ ?_ ?_
          · (repeat (first | exact Sub.nil | refine Sub.cons rfl ?_))
          · exact fun _ h => h.ofPart (by (repeat (first | exact Part.nil | refine Part.p0 ?_ | refine Part.p1 ?_ | refine Part.p2 ?_ | refine Part.p3 ?_ | refine Part.p4 ?_ | refine Part.p5 ?_ | refine Part.p6 ?_)))
          · exact ⟨Nat.zero_le _, rfl⟩
          · rintro ⟨j, bs⟩ ⟨hj, hbs⟩
            dsimp only at hj hbs ⊢
            by_cases hjl : j < zs.length
            · obtain ⟨m, hm⟩ := some_of_lt (l := zs) (i := j) hjl
              obtain ⟨⟨be, bh⟩, hb, hbf⟩ := fo_at hbs hm
              have hh : m.2 = bh := (congrArg Prod.fst hbf).symm
              have hml : m.1.length = be.length := (congrArg Prod.snd hbf).symm
              have hbl : be.length ≤ 140737488355328 := by have := h5z m (mem_of_some hm); omega
              have e4 : (zs.flatMap pE)[j * 1]? = some (.slice bh.1 be.length bh.2) := by
                have h1 : (zs.flatMap pE)[j * 1]? = some (pV m) := enc_at pE_len hm (j := 0) (by decide)
                rw [h1]; unfold pV; rw [hh, hml]
              have hcut := cut_at hb
              have hset := fo_cut hb hbs
              generalize bs.take j = pre at hcut hset
              generalize bs.drop (j + 1) = post at hcut hset
              refine T.mem (M' := .row 5 1 (.slice bh.1 be.length bh.2) be.length (be.flatMap eU) :: bag (pre.map bP) :: bag (post.map bP) :: .row 38 1 (.slice A0 zs.length c0) zs.length (zs.flatMap pE) :: .blk b1 (.cells (aE a).toArray 31 (0, 0)) :: nO b c :: chA c (lx ++ ns) :: bag (lx.map bP) :: bag (ns.map bP) :: yL b' z ly) (fun w' h => ?_) ?_
              · rw [hcut, List.map_append, List.map_cons] at h
                exact (h.ofPart (M' := bag (pre.map bP ++ bP (be, bh) :: post.map bP) :: .row 38 1 (.slice A0 zs.length c0) zs.length (zs.flatMap pE) :: .blk b1 (.cells (aE a).toArray 31 (0, 0)) :: nO b c :: chA c (lx ++ ns) :: bag (lx.map bP) :: bag (ns.map bP) :: yL b' z ly) (by (repeat (first | exact Part.nil | refine Part.p0 ?_ | refine Part.p1 ?_ | refine Part.p2 ?_ | refine Part.p3 ?_ | refine Part.p4 ?_ | refine Part.p5 ?_ | refine Part.p6 ?_)))).bagTake
              repeat' (first
                  | ((with_reducible refine is_load ?_); (first | ((refine' ⟨_, Yl_load_hp rfl ?q1 (fun w hp => hp.rd ha haR) ?q2, ?_⟩); (case q1 => exact one_of rfl); (case q2 => assumption)) | ((refine' ⟨_, Yl_load_row rfl ?q1 ?q2 e4, ?_⟩); (case q1 => exact one_of rfl); (case q2 => (repeat (first | exact .head _ | apply List.Mem.tail))))))
                  | ((with_reducible refine ie_store ?_); (first | ((refine' Ef_store_row1 rfl rfl ?q1 ?q2 ?q3 ?q4 (eU_set us k _) ?_); (case q1 => rfl); (case q2 => exact siz_of rfl); (case q3 => (first | exact at0 | exact at1 | exact at2 | exact at3 | exact at4 | exact at5 | exact at6)); (case q4 => omega))))
                  | ((with_reducible refine ie_callf ?_); (first
                  | ((with_reducible refine g_call 28 ?_); (first | (refine Ef_callN rfl rfl ent_28 (fun w hp => copy_c x w (hp.rd (hin x (mem_of_some hx)) (hinR x (mem_of_some hx))) (h5 x (mem_of_some hx))) ?_; rintro ⟨A1, c1⟩)))
                  | ((with_reducible refine g_call 10 ?_); (first
                  | (((refine' Ef_callW [false, false, false, true, true, false, false, false, false] rfl rfl ent_10 rfl rfl rfl (fun w hp hp2 => send2_c b c w _ lx hp2 A0 c0 zs (hp.rowOf ?q1) (fun h => hp.apartS [false, false, false, true, true, false, false, false, false] rfl rfl (A := .row 38 1 (.slice A0 zs.length c0) zs.length (zs.flatMap pE)) ?q2 (row_foot (hp.rowOf (xs := zs.flatMap pE) ?q3) h)) (hp.ins_bag (ps := zs) ?q4) (fun y hy h => hp.apartS [false, false, false, true, true, false, false, false, false] rfl rfl (A := bag (zs.map bP)) ?q5 (bag_foot hy (hp.ins_bag (ps := zs) ?q6 y hy) h)) h5z hroomx) ?_); (case q1 => (repeat (first | exact .head _ | apply List.Mem.tail))); (case q2 => (repeat (first | exact .head _ | apply List.Mem.tail))); (case q3 => (repeat (first | exact .head _ | apply List.Mem.tail))); (case q4 => (repeat (first | exact .head _ | apply List.Mem.tail))); (case q5 => (repeat (first | exact .head _ | apply List.Mem.tail))); (case q6 => (repeat (first | exact .head _ | apply List.Mem.tail)))); rintro ns hns)))
                  | ((with_reducible refine g_call 29 ?_); (first | (refine Ef_callW [false, false, false, false, false, false, false, true, true, true] rfl rfl ent_29 rfl rfl rfl (fun w hp hp2 => rsend_c b' z ly w _ hp2 a.h.1 a.h.2 a.l (hp.rd ha haR) (fun h => hp.outS [false, false, false, false, false, false, false, true, true, true] rfl (ha.lt h) (haR h)) (fun y hy => hp.rd (hin y hy) (hinR y hy)) (fun y hy h => hp.outS [false, false, false, false, false, false, false, true, true, true] rfl ((hin y hy).lt h) (hinR y hy h)) h5 hroomy) ?_; rintro ⟨z2, ms⟩ hms)))))
                  | (first | ((((refine' Ef_appG_row (xs := zs.flatMap pE) (news := [pV (x.1, (A1, c1))]) rfl rfl rfl ?q1 ?q2 ?q3 (pE_one (x.1, (A1, c1))) ?q4 ?q5 ?_); (case q1 => exact app_of rfl); (case q2 => (first | exact at0 | exact at1 | exact at2 | exact at3 | exact at4 | exact at5 | exact at6)); (case q3 => (repeat (first | exact .head _ | apply List.Mem.tail))); (case q4 => omega); (case q5 => omega))); (first | ((fail_if_success have := A1); intro A1 c1) | ((fail_if_success have := A2); intro A2 c2) | intro _ _)))
                  | refine w1 ?_
                  | (refine w2 ?_ ?_ <;> intro hc)
                  | (first | refine ⟨_, Yl_addU8 rfl rfl, ?_⟩)
                  | (refine w4 ?_; (first | ((fail_if_success have := b1); intro b1) | intro _))
                  | (refine w5 ?_; (first | ((fail_if_success have := A1); intro A1 c1) | ((fail_if_success have := A2); intro A2 c2) | intro _ _))
                  | refine w3 ?_ ?_
                  | fail_if_success skip)
              refine T.loop (α := Nat × List UInt8) (fun y => [(1, .pointer (some ⟨b', 0, none⟩)), (5, .pointer (some ⟨b1, 0, none⟩)), (7, .slice A0 zs.length c0), (9, .int .i64 0), (10, .int .i64 (j : Int)), (11, .int .i64 (y.1 : Int))]) (fun y => .row 5 1 (.slice bh.1 be.length bh.2) be.length (y.2.flatMap eU) :: bag (pre.map bP) :: bag (post.map bP) :: .row 38 1 (.slice A0 zs.length c0) zs.length (zs.flatMap pE) :: .blk b1 (.cells (aE a).toArray 31 (0, 0)) :: nO b c :: chA c (lx ++ ns) :: bag (lx.map bP) :: bag (ns.map bP) :: yL b' z ly) (fun y => y.1 ≤ be.length ∧ y.2.length = be.length) (fun y => be.length - y.1) (0, be) ?_ ?_ ?_ ?_
              · (repeat (first | exact Sub.nil | refine Sub.cons rfl ?_))
              · exact List.Sublist.refl _
              · exact ⟨Nat.zero_le _, rfl⟩
              · rintro ⟨k, us⟩ ⟨hk2, hus⟩
                dsimp only at hk2 hus ⊢
                by_cases hkl : k < be.length
                · obtain ⟨u, hu⟩ := some_of_lt (l := us) (i := k) (by omega)
                  have eZ : (us.flatMap eU)[k * 1]? = some (.int .u8 (u.toNat : Int)) := enc_at eU_len hu (j := 0) (by decide)
                  repeat' (first
                      | ((with_reducible refine is_load ?_); (first | ((refine' ⟨_, Yl_load_hp rfl ?q1 (fun w hp => hp.rd ha haR) ?q2, ?_⟩); (case q1 => exact one_of rfl); (case q2 => assumption)) | ((refine' ⟨_, Yl_load_row rfl ?q1 ?q2 e4, ?_⟩); (case q1 => exact one_of rfl); (case q2 => (repeat (first | exact .head _ | apply List.Mem.tail))))))
                      | ((with_reducible refine ie_store ?_); (first | ((refine' Ef_store_row1 rfl rfl ?q1 ?q2 ?q3 ?q4 (eU_set us k _) ?_); (case q1 => rfl); (case q2 => exact siz_of rfl); (case q3 => (first | exact at0 | exact at1 | exact at2 | exact at3 | exact at4 | exact at5 | exact at6)); (case q4 => omega))))
                      | ((with_reducible refine ie_callf ?_); (first
                      | ((with_reducible refine g_call 28 ?_); (first | (refine Ef_callN rfl rfl ent_28 (fun w hp => copy_c x w (hp.rd (hin x (mem_of_some hx)) (hinR x (mem_of_some hx))) (h5 x (mem_of_some hx))) ?_; rintro ⟨A1, c1⟩)))
                      | ((with_reducible refine g_call 10 ?_); (first
                      | (((refine' Ef_callW [false, false, false, true, true, false, false, false, false] rfl rfl ent_10 rfl rfl rfl (fun w hp hp2 => send2_c b c w _ lx hp2 A0 c0 zs (hp.rowOf ?q1) (fun h => hp.apartS [false, false, false, true, true, false, false, false, false] rfl rfl (A := .row 38 1 (.slice A0 zs.length c0) zs.length (zs.flatMap pE)) ?q2 (row_foot (hp.rowOf (xs := zs.flatMap pE) ?q3) h)) (hp.ins_bag (ps := zs) ?q4) (fun y hy h => hp.apartS [false, false, false, true, true, false, false, false, false] rfl rfl (A := bag (zs.map bP)) ?q5 (bag_foot hy (hp.ins_bag (ps := zs) ?q6 y hy) h)) h5z hroomx) ?_); (case q1 => (repeat (first | exact .head _ | apply List.Mem.tail))); (case q2 => (repeat (first | exact .head _ | apply List.Mem.tail))); (case q3 => (repeat (first | exact .head _ | apply List.Mem.tail))); (case q4 => (repeat (first | exact .head _ | apply List.Mem.tail))); (case q5 => (repeat (first | exact .head _ | apply List.Mem.tail))); (case q6 => (repeat (first | exact .head _ | apply List.Mem.tail)))); rintro ns hns)))
                      | ((with_reducible refine g_call 29 ?_); (first | (refine Ef_callW [false, false, false, false, false, false, false, true, true, true] rfl rfl ent_29 rfl rfl rfl (fun w hp hp2 => rsend_c b' z ly w _ hp2 a.h.1 a.h.2 a.l (hp.rd ha haR) (fun h => hp.outS [false, false, false, false, false, false, false, true, true, true] rfl (ha.lt h) (haR h)) (fun y hy => hp.rd (hin y hy) (hinR y hy)) (fun y hy h => hp.outS [false, false, false, false, false, false, false, true, true, true] rfl ((hin y hy).lt h) (hinR y hy h)) h5 hroomy) ?_; rintro ⟨z2, ms⟩ hms)))))
                      | (first | ((((refine' Ef_appG_row (xs := zs.flatMap pE) (news := [pV (x.1, (A1, c1))]) rfl rfl rfl ?q1 ?q2 ?q3 (pE_one (x.1, (A1, c1))) ?q4 ?q5 ?_); (case q1 => exact app_of rfl); (case q2 => (first | exact at0 | exact at1 | exact at2 | exact at3 | exact at4 | exact at5 | exact at6)); (case q3 => (repeat (first | exact .head _ | apply List.Mem.tail))); (case q4 => omega); (case q5 => omega))); (first | ((fail_if_success have := A1); intro A1 c1) | ((fail_if_success have := A2); intro A2 c2) | intro _ _)))
                      | refine w1 ?_
                      | (refine w2 ?_ ?_ <;> intro hc)
                      | (first | refine ⟨_, Yl_addU8 rfl rfl, ?_⟩)
                      | (refine w4 ?_; (first | ((fail_if_success have := b1); intro b1) | intro _))
                      | (refine w5 ?_; (first | ((fail_if_success have := A1); intro A1 c1) | ((fail_if_success have := A2); intro A2 c2) | intro _ _))
                      | refine w3 ?_ ?_
                      | fail_if_success skip)
                  refine loopQ_n (k + 1, us.set k (u + 1)) ?_ (List.Sublist.refl _) ⟨show k + 1 ≤ _ by omega, by rw [List.length_set]; exact hus⟩ (show be.length - (k + 1) < be.length - k by omega)
                  (repeat (first | exact Sub.nil | refine Sub.cons rfl ?_))
                · repeat' (first
                    | ((with_reducible refine is_load ?_); (first | ((refine' ⟨_, Yl_load_hp rfl ?q1 (fun w hp => hp.rd ha haR) ?q2, ?_⟩); (case q1 => exact one_of rfl); (case q2 => assumption)) | ((refine' ⟨_, Yl_load_row rfl ?q1 ?q2 e4, ?_⟩); (case q1 => exact one_of rfl); (case q2 => (repeat (first | exact .head _ | apply List.Mem.tail))))))
                    | ((with_reducible refine ie_store ?_); (first | ((refine' Ef_store_row1 rfl rfl ?q1 ?q2 ?q3 ?q4 (eU_set us k _) ?_); (case q1 => rfl); (case q2 => exact siz_of rfl); (case q3 => (first | exact at0 | exact at1 | exact at2 | exact at3 | exact at4 | exact at5 | exact at6)); (case q4 => omega))))
                    | ((with_reducible refine ie_callf ?_); (first
                    | ((with_reducible refine g_call 28 ?_); (first | (refine Ef_callN rfl rfl ent_28 (fun w hp => copy_c x w (hp.rd (hin x (mem_of_some hx)) (hinR x (mem_of_some hx))) (h5 x (mem_of_some hx))) ?_; rintro ⟨A1, c1⟩)))
                    | ((with_reducible refine g_call 10 ?_); (first
                    | (((refine' Ef_callW [false, false, false, true, true, false, false, false, false] rfl rfl ent_10 rfl rfl rfl (fun w hp hp2 => send2_c b c w _ lx hp2 A0 c0 zs (hp.rowOf ?q1) (fun h => hp.apartS [false, false, false, true, true, false, false, false, false] rfl rfl (A := .row 38 1 (.slice A0 zs.length c0) zs.length (zs.flatMap pE)) ?q2 (row_foot (hp.rowOf (xs := zs.flatMap pE) ?q3) h)) (hp.ins_bag (ps := zs) ?q4) (fun y hy h => hp.apartS [false, false, false, true, true, false, false, false, false] rfl rfl (A := bag (zs.map bP)) ?q5 (bag_foot hy (hp.ins_bag (ps := zs) ?q6 y hy) h)) h5z hroomx) ?_); (case q1 => (repeat (first | exact .head _ | apply List.Mem.tail))); (case q2 => (repeat (first | exact .head _ | apply List.Mem.tail))); (case q3 => (repeat (first | exact .head _ | apply List.Mem.tail))); (case q4 => (repeat (first | exact .head _ | apply List.Mem.tail))); (case q5 => (repeat (first | exact .head _ | apply List.Mem.tail))); (case q6 => (repeat (first | exact .head _ | apply List.Mem.tail)))); rintro ns hns)))
                    | ((with_reducible refine g_call 29 ?_); (first | (refine Ef_callW [false, false, false, false, false, false, false, true, true, true] rfl rfl ent_29 rfl rfl rfl (fun w hp hp2 => rsend_c b' z ly w _ hp2 a.h.1 a.h.2 a.l (hp.rd ha haR) (fun h => hp.outS [false, false, false, false, false, false, false, true, true, true] rfl (ha.lt h) (haR h)) (fun y hy => hp.rd (hin y hy) (hinR y hy)) (fun y hy h => hp.outS [false, false, false, false, false, false, false, true, true, true] rfl ((hin y hy).lt h) (hinR y hy h)) h5 hroomy) ?_; rintro ⟨z2, ms⟩ hms)))))
                    | (first | ((((refine' Ef_appG_row (xs := zs.flatMap pE) (news := [pV (x.1, (A1, c1))]) rfl rfl rfl ?q1 ?q2 ?q3 (pE_one (x.1, (A1, c1))) ?q4 ?q5 ?_); (case q1 => exact app_of rfl); (case q2 => (first | exact at0 | exact at1 | exact at2 | exact at3 | exact at4 | exact at5 | exact at6)); (case q3 => (repeat (first | exact .head _ | apply List.Mem.tail))); (case q4 => omega); (case q5 => omega))); (first | ((fail_if_success have := A1); intro A1 c1) | ((fail_if_success have := A2); intro A2 c2) | intro _ _)))
                    | refine w1 ?_
                    | (refine w2 ?_ ?_ <;> intro hc)
                    | (first | refine ⟨_, Yl_addU8 rfl rfl, ?_⟩)
                    | (refine w4 ?_; (first | ((fail_if_success have := b1); intro b1) | intro _))
                    | (refine w5 ?_; (first | ((fail_if_success have := A1); intro A1 c1) | ((fail_if_success have := A2); intro A2 c2) | intro _ _))
                    | refine w3 ?_ ?_
                    | fail_if_success skip)
                  refine loopH_n (j + 1, pre ++ (us, bh) :: post) ?_ (fun w' h => ?_) ⟨show j + 1 ≤ _ by omega, hset us hus⟩ (show zs.length - (j + 1) < zs.length - j by omega)
                  · (repeat (first | exact Sub.nil | refine Sub.cons rfl ?_))
                  · dsimp only
                    rw [List.map_append, List.map_cons]
                    have hp1 : Hp w R (bP (us, bh) :: bag (pre.map bP) :: bag (post.map bP) :: .row 38 1 (.slice A0 zs.length c0) zs.length (zs.flatMap pE) :: .blk b1 (.cells (aE a).toArray 31 (0, 0)) :: nO b c :: chA c (lx ++ ns) :: bag (lx.map bP) :: bag (ns.map bP) :: yL b' z ly) w' := by
                      unfold bP
                      dsimp only
                      rw [hus]
                      exact h
                    exact hp1.bagBack.ofPart (by (repeat (first | exact Part.nil | refine Part.p0 ?_ | refine Part.p1 ?_ | refine Part.p2 ?_ | refine Part.p3 ?_ | refine Part.p4 ?_ | refine Part.p5 ?_ | refine Part.p6 ?_)))
            · repeat' (first
                | ((with_reducible refine is_load ?_); (first | ((refine' ⟨_, Yl_load_hp rfl ?q1 (fun w hp => hp.rd ha haR) ?q2, ?_⟩); (case q1 => exact one_of rfl); (case q2 => assumption)) | ((refine' ⟨_, Yl_load_row rfl ?q1 ?q2 e4, ?_⟩); (case q1 => exact one_of rfl); (case q2 => (repeat (first | exact .head _ | apply List.Mem.tail))))))
                | ((with_reducible refine ie_store ?_); (first | ((refine' Ef_store_row1 rfl rfl ?q1 ?q2 ?q3 ?q4 (eU_set us k _) ?_); (case q1 => rfl); (case q2 => exact siz_of rfl); (case q3 => (first | exact at0 | exact at1 | exact at2 | exact at3 | exact at4 | exact at5 | exact at6)); (case q4 => omega))))
                | ((with_reducible refine ie_callf ?_); (first
                | ((with_reducible refine g_call 28 ?_); (first | (refine Ef_callN rfl rfl ent_28 (fun w hp => copy_c x w (hp.rd (hin x (mem_of_some hx)) (hinR x (mem_of_some hx))) (h5 x (mem_of_some hx))) ?_; rintro ⟨A1, c1⟩)))
                | ((with_reducible refine g_call 10 ?_); (first
                | (((refine' Ef_callW [false, false, false, true, true, false, false, false, false] rfl rfl ent_10 rfl rfl rfl (fun w hp hp2 => send2_c b c w _ lx hp2 A0 c0 zs (hp.rowOf ?q1) (fun h => hp.apartS [false, false, false, true, true, false, false, false, false] rfl rfl (A := .row 38 1 (.slice A0 zs.length c0) zs.length (zs.flatMap pE)) ?q2 (row_foot (hp.rowOf (xs := zs.flatMap pE) ?q3) h)) (hp.ins_bag (ps := zs) ?q4) (fun y hy h => hp.apartS [false, false, false, true, true, false, false, false, false] rfl rfl (A := bag (zs.map bP)) ?q5 (bag_foot hy (hp.ins_bag (ps := zs) ?q6 y hy) h)) h5z hroomx) ?_); (case q1 => (repeat (first | exact .head _ | apply List.Mem.tail))); (case q2 => (repeat (first | exact .head _ | apply List.Mem.tail))); (case q3 => (repeat (first | exact .head _ | apply List.Mem.tail))); (case q4 => (repeat (first | exact .head _ | apply List.Mem.tail))); (case q5 => (repeat (first | exact .head _ | apply List.Mem.tail))); (case q6 => (repeat (first | exact .head _ | apply List.Mem.tail)))); rintro ns hns)))
                | ((with_reducible refine g_call 29 ?_); (first | (refine Ef_callW [false, false, false, false, false, false, false, true, true, true] rfl rfl ent_29 rfl rfl rfl (fun w hp hp2 => rsend_c b' z ly w _ hp2 a.h.1 a.h.2 a.l (hp.rd ha haR) (fun h => hp.outS [false, false, false, false, false, false, false, true, true, true] rfl (ha.lt h) (haR h)) (fun y hy => hp.rd (hin y hy) (hinR y hy)) (fun y hy h => hp.outS [false, false, false, false, false, false, false, true, true, true] rfl ((hin y hy).lt h) (hinR y hy h)) h5 hroomy) ?_; rintro ⟨z2, ms⟩ hms)))))
                | (first | ((((refine' Ef_appG_row (xs := zs.flatMap pE) (news := [pV (x.1, (A1, c1))]) rfl rfl rfl ?q1 ?q2 ?q3 (pE_one (x.1, (A1, c1))) ?q4 ?q5 ?_); (case q1 => exact app_of rfl); (case q2 => (first | exact at0 | exact at1 | exact at2 | exact at3 | exact at4 | exact at5 | exact at6)); (case q3 => (repeat (first | exact .head _ | apply List.Mem.tail))); (case q4 => omega); (case q5 => omega))); (first | ((fail_if_success have := A1); intro A1 c1) | ((fail_if_success have := A2); intro A2 c2) | intro _ _)))
                | refine w1 ?_
                | (refine w2 ?_ ?_ <;> intro hc)
                | (first | refine ⟨_, Yl_addU8 rfl rfl, ?_⟩)
                | (refine w4 ?_; (first | ((fail_if_success have := b1); intro b1) | intro _))
                | (refine w5 ?_; (first | ((fail_if_success have := A1); intro A1 c1) | ((fail_if_success have := A2); intro A2 c2) | intro _ _))
                | refine w3 ?_ ?_
                | fail_if_success skip)
              exact ret_n (yL b' z2 ms ++ [nO b c, chA c (lx ++ ns), bag (lx.map bP), bag (ns.map bP)]) (res1 rfl rfl) (by (repeat (first | exact List.nil_sublist _ | refine List.Sublist.cons_cons _ ?_ | refine List.Sublist.cons _ ?_))) ⟨ns, z2, ms, ⟨hns.trans hzs, hms⟩, rfl, rfl⟩
  · rintro v N ⟨ns, z2, ms, ⟨hns, hms⟩, h1, h2⟩
    refine ⟨xL b c (lx ++ ns) ++ yL b' z2 ms, fun w' h => ?_, (lx ++ ns, z2, ms), ⟨?_, ?_, ?_⟩, h1, rfl⟩
    · subst h2
      dsimp only [xL]
      rw [List.map_append]
      exact ((h.ofPart (M' := bag (lx.map bP) :: bag (ns.map bP) :: nO b c :: chA c (lx ++ ns) :: yL b' z2 ms) (by (repeat (first | exact Part.nil | refine Part.p0 ?_ | refine Part.p1 ?_ | refine Part.p2 ?_ | refine Part.p3 ?_ | refine Part.p4 ?_ | refine Part.p5 ?_ | refine Part.p6 ?_)))).bagApp).ofPart (by (repeat (first | exact Part.nil | refine Part.p0 ?_ | refine Part.p1 ?_ | refine Part.p2 ?_ | refine Part.p3 ?_ | refine Part.p4 ?_ | refine Part.p5 ?_ | refine Part.p6 ?_)))
    · dsimp only
      rw [List.map_append, hns, hms, hxy]
    · have hn1 := maps_len hns
      dsimp only
      rw [List.length_append]; omega
    · intro p hp
      rcases List.mem_append.1 hp with hp | hp
      · exact hlb p hp
      · have h3 : p.1 ∈ a.l.map (·.1) := hns ▸ List.mem_map.2 ⟨p, hp, rfl⟩
        obtain ⟨y, hy, hyp⟩ := List.mem_map.1 h3
        rw [← hyp]; exact h5 y hy
end
end Go.Proofs.Ytdbpnolpgkcjiaa
