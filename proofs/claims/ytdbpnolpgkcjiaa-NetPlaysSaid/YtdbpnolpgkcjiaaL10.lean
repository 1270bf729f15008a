/- Law: any acts come to what the document's net comes to, whatever the size: what a call comes to. -/
import Derived.Test.YtdbpnolpgkcjiaaT18
import Derived.Test.YtdbpnolpgkcjiaaT7
import Derived.Test.YtdbpnolpgkcjiaaL5
import Derived.Test.YtdbpnolpgkcjiaaT8
namespace Go.Proofs.Ytdbpnolpgkcjiaa
open Go.RowKit Go.Conc

theorem oneG_c (b c b' : Nat) (z : Hd) (lx ly : List Pk) (a : Ac) (w : World) (R : List Nat) (hp : Hp w R (xL b c lx ++ yL b' z ly) w) (hxy : lx.map (·.1) = ly.map (·.1)) (hl : lx.length ≤ 4096) (hlb : ∀ p ∈ lx, p.1.length ≤ 140737488355328)
    (ha : Rd w a.h.1 a.l.length 1 (a.l.flatMap pE)) (haR : 0 < a.l.length → (adr a.h.1).block ∉ R) (hin : Ins w a.l) (hinR : ∀ p ∈ a.l, 0 < p.1.length → (adr p.2.1).block ∉ R) (h5 : ∀ p ∈ a.l, p.1.length ≤ 140737488355328) (hal : a.l.length * 24 ≤ 140737488355328) :
    Sp Try.prog 17 [.pointer (some ⟨b, 0, none⟩), .pointer (some ⟨b', 0, none⟩), .agg (aE a).toArray] w R (OneG b c b') := by
  by_cases h0 : a.kind = 0 ∨ a.kind = 1 ∨ a.kind = 2
  · exact oneG_send b c b' z lx ly a w R hp hxy hl hlb ha haR hin hinR h5 hal h0
  · by_cases h3 : a.kind = 3 ∨ a.kind = 4
    · exact oneG_take b c b' z lx ly a w R hp hxy hl hlb h3
    · by_cases h4 : a.kind = 5
      · exact oneG_drop b c b' z lx ly a w R hp hxy hl hlb h4
      · by_cases h6 : a.kind = 6
        · exact oneG_double b c b' z lx ly a w R hp hxy hl hlb h6
        · exact oneG_else b c b' z lx ly a w R hp hxy hl hlb (by omega) (by omega) (by omega) (by omega) (by omega) h4 h6

section
variable (A : Option Addr) (ca : Nat) (l : List Ac) (w : World) (ha : Rd w A l.length 3 (l.flatMap aE)) (hin : ∀ a ∈ l, ArgIn w a) (hle : l.length ≤ 140737488355328) (hlk : ∀ a ∈ l, a.l.length ≤ 140737488355328) (hpk : ∀ a ∈ l, ∀ p ∈ a.l, p.1.length ≤ 140737488355328) (h24 : ∀ a ∈ l, a.l.length * 24 ≤ 140737488355328)
include ha hin hle hlk hpk h24
set_option maxHeartbeats 16000000 in
theorem playsG_law : Sp Try.prog 5 [.slice A l.length ca] w [] fun v N => v = .bool true ∧ N = [] := by
  have hgr : ∀ w' : World, Hp w [] [.row 38 1 (.slice none 0 0) 0 [], bag [], bag []] w' → Sp Try.prog 13 [.slice A l.length ca] w' [] fun v N => ∃ q : Bool, v = .bool q ∧ N = [] := fun w' hp => greatAny_c A ca l w' (hp.rd ha fun _ => List.not_mem_nil) (fun a h => hp.rd (hin a h).1 fun _ => List.not_mem_nil) hle hlk
  refine Sp.enter (n := 71) Try.func5 rfl rfl rfl (Hp.refl w) ?_
  refine T.mem (fun _ h => h.bagNil) ?_
  refine T.mem (fun _ h => h.bagNil) ?_
  refine T.row0 38 1 ?_
  repeat' (first
      | ((with_reducible refine is_load ?_); (first | ((refine' ⟨_, Yl_loadA_hp (vs := aE x) rfl ?qa ?qb ?ql ?qc, ?_⟩); (case qa => exact agg_of rfl); (case qb => exact fun _ hp => hp.rd ha fun _ => List.not_mem_nil); (case qc => exact eA); (case ql => rfl)) | ((refine' ⟨_, Yl_load_row rfl ?q1 ?q2 e4, ?_⟩); (case q1 => exact one_of rfl); (case q2 => (repeat (first | exact .head _ | apply List.Mem.tail))))))
      | ((with_reducible refine is_build ?_); (first | refine ⟨_, Yl_build rfl o_build45, ?_⟩))
      | ((with_reducible refine ie_store ?_); (first | ((refine' Ef_store_row1 rfl rfl ?q1 ?q2 ?q3 ?q4 (eU_set us k _) ?_); (case q1 => rfl); (case q2 => exact siz_of rfl); (case q3 => (first | exact at0 | exact at1 | exact at2 | exact at3 | exact at4 | exact at5 | exact at6)); (case q4 => omega))))
      | ((with_reducible refine ie_callf ?_); (first
      | ((with_reducible refine g_call 13 ?_); (first | (refine Ef_callN rfl rfl ent_13 (fun w hp => hgr w hp) ?_; rintro (_ | _))))
      | ((with_reducible refine g_call 9 ?_); (first | (refine Ef_callN rfl rfl ent_9 (fun w _ => new_c w) ?_; rintro ⟨b, c⟩)))
      | ((with_reducible refine g_call 17 ?_); (first | (refine Ef_callW (φ := fun y : List Pk × Hd × List Pk => y.1.map (·.1) = y.2.2.map (·.1) ∧ y.1.length ≤ 4096 ∧ ∀ p ∈ y.1, p.1.length ≤ 140737488355328) (V := fun _ => .bool true) (N0 := fun y : List Pk × Hd × List Pk => xL b c y.1 ++ yL b1 y.2.1 y.2.2) [true, true, true, true, true, true] rfl rfl ent_17 rfl rfl rfl (fun w hp hp2 => oneG_c b c b1 z lx ly x w _ hp2 hxy hlz hlb (hp.rd hxa.1 fun _ => List.not_mem_nil) (fun h => hp.outS [true, true, true, true, true, true] rfl (hxa.1.lt h) List.not_mem_nil) (hp.ins_old hxa.2) (fun y hy h => hp.outS [true, true, true, true, true, true] rfl ((hxa.2 y hy).lt h) List.not_mem_nil) hx6 hx24) ?_; rintro ⟨l2, z2, m2⟩ ⟨hm2, hn2, hb2⟩; dsimp only at hm2 hn2 hb2 ⊢; have hl2 := maps_len hm2)))
      | ((with_reducible refine g_call 16 ?_); (first | (((refine' Ef_callX (φ := fun y : Hd × List Pk => y.2.map (·.1) = l2.map (·.1)) [true, true, true, false, false, false] rfl rfl ent_16 rfl rfl rfl (fun w hp => all2_c b c w _ l2 hp hb2 ?q1) ?_); (case q1 => omega)); rintro ⟨⟨A5, c5⟩, ms⟩ hms; dsimp only at hms ⊢; have hml := maps_len hms; have hbm := maps_all hms hb2; ((refine' TL.part (M' := nO b c :: chA c l2 :: bag (l2.map bP) :: .row 38 1 (.slice A5 ms.length c5) ms.length (ms.flatMap pE) :: bag (ms.map bP) :: yL b1 z2 m2) ?q1 ?_); (case q1 => (repeat (first | exact Part.nil | refine Part.p0 ?_ | refine Part.p1 ?_ | refine Part.p2 ?_ | refine Part.p3 ?_ | refine Part.p4 ?_ | refine Part.p5 ?_ | refine Part.p6 ?_)))))))
      | ((with_reducible refine g_call 18 ?_); (first | ((refine' Ef_callP rfl rfl ent_18 (fun w hp => same_v A5 c5 ms z2.1 z2.2 m2 w (hp.rowOf ?q1) (hp.rowOf ?q2) (hp.ins_bag ?q3) (hp.ins_bag ?q4) ?q5 (fun y hy => Nat.le_trans (hbm y hy) ?q6) (hms.trans hm2)) ?_); (case q1 => (repeat (first | exact .head _ | apply List.Mem.tail))); (case q2 => (repeat (first | exact .head _ | apply List.Mem.tail))); (case q3 => (repeat (first | exact .head _ | apply List.Mem.tail))); (case q4 => (repeat (first | exact .head _ | apply List.Mem.tail))); (case q5 => omega); (case q6 => decide))))
      | ((with_reducible refine g_call 12 ?_); (first | refine Ef_callT [true, true, false, false, false, false, false, false] rfl rfl ent_12 rfl rfl rfl (fun w hp => len_c b c w _ l2 hp) ?_))))
      | ((with_reducible refine g_draw ?_); (first | (((with_reducible refine' T.drawM (id := 10) [(0, true), (1, false), (2, false), (3, false), (4, false), (5, false), (6, false), (7, false), (8, true), (10, true), (11, true), (12, true), (13, true), (14, true), (9, false), (15, false), (16, false)] mixd ?q1 ?_); (case q1 => kernel_rfl)))))
      | refine w1 ?_
      | (refine w2 ?_ ?_ <;> intro hc)
      | (first | refine ⟨_, Yl_addU8 rfl rfl, ?_⟩)
      | (refine w4 ?_; (first | ((fail_if_success have := b1); intro b1) | intro _))
      | (refine w5 ?_; (first | ((fail_if_success have := A1); intro A1 c1) | ((fail_if_success have := A2); intro A2 c2) | ((fail_if_success have := A3); intro A3 c3) | ((fail_if_success have := A4); intro A4 c4) | ((fail_if_success have := A5); intro A5 c5) | intro _ _))
      | refine w3 ?_ ?_
      | fail_if_success skip)
  · refine T.loopM (α := Nat × List Pk × Hd × List Pk) (fun y => [(0, .slice A l.length ca), (3, .pointer (some ⟨b, 0, none⟩)), (4, .pointer (some ⟨b1, 0, none⟩)), (5, .int .i64 (y.1 : Int))]) (fun y => xL b c y.2.1 ++ yL b1 y.2.2.1 y.2.2.2)
      (fun y => y.1 ≤ l.length ∧ y.2.1.map (·.1) = y.2.2.2.map (·.1) ∧ y.2.1.length ≤ 4096 ∧ ∀ p ∈ y.2.1, p.1.length ≤ 140737488355328) (fun y => l.length - y.1) (0, [], (none, 0), []) ?_ ?_ ?_ ?_
    · (repeat (first | exact Sub.nil | refine Sub.cons rfl ?_))
    · exact fun _ h => h.ofPart (by (repeat (first | exact Part.nil | refine Part.p0 ?_ | refine Part.p1 ?_ | refine Part.p2 ?_ | refine Part.p3 ?_ | refine Part.p4 ?_ | refine Part.p5 ?_ | refine Part.p6 ?_)))
    · exact ⟨Nat.zero_le _, rfl, Nat.zero_le _, fun x hx => by cases hx⟩
    · rintro ⟨i, lx, z, ly⟩ ⟨hi, hxy, hlz, hlb⟩
      dsimp only at hi hxy hlz hlb ⊢
      by_cases hlt : i < l.length
      · obtain ⟨x, hx⟩ := some_of_lt (l := l) (i := i) hlt
        have eA := enc_atA aE_len hx
        have hxa := hin x (mem_of_some hx)
        have hx6 := hpk x (mem_of_some hx)
        have hx24 := h24 x (mem_of_some hx)
        repeat' (first
            | ((with_reducible refine is_load ?_); (first | ((refine' ⟨_, Yl_loadA_hp (vs := aE x) rfl ?qa ?qb ?ql ?qc, ?_⟩); (case qa => exact agg_of rfl); (case qb => exact fun _ hp => hp.rd ha fun _ => List.not_mem_nil); (case qc => exact eA); (case ql => rfl)) | ((refine' ⟨_, Yl_load_row rfl ?q1 ?q2 e4, ?_⟩); (case q1 => exact one_of rfl); (case q2 => (repeat (first | exact .head _ | apply List.Mem.tail))))))
            | ((with_reducible refine is_build ?_); (first | refine ⟨_, Yl_build rfl o_build45, ?_⟩))
            | ((with_reducible refine ie_store ?_); (first | ((refine' Ef_store_row1 rfl rfl ?q1 ?q2 ?q3 ?q4 (eU_set us k _) ?_); (case q1 => rfl); (case q2 => exact siz_of rfl); (case q3 => (first | exact at0 | exact at1 | exact at2 | exact at3 | exact at4 | exact at5 | exact at6)); (case q4 => omega))))
            | ((with_reducible refine ie_callf ?_); (first
            | ((with_reducible refine g_call 13 ?_); (first | (refine Ef_callN rfl rfl ent_13 (fun w hp => hgr w hp) ?_; rintro (_ | _))))
            | ((with_reducible refine g_call 9 ?_); (first | (refine Ef_callN rfl rfl ent_9 (fun w _ => new_c w) ?_; rintro ⟨b, c⟩)))
            | ((with_reducible refine g_call 17 ?_); (first | (refine Ef_callW (φ := fun y : List Pk × Hd × List Pk => y.1.map (·.1) = y.2.2.map (·.1) ∧ y.1.length ≤ 4096 ∧ ∀ p ∈ y.1, p.1.length ≤ 140737488355328) (V := fun _ => .bool true) (N0 := fun y : List Pk × Hd × List Pk => xL b c y.1 ++ yL b1 y.2.1 y.2.2) [true, true, true, true, true, true] rfl rfl ent_17 rfl rfl rfl (fun w hp hp2 => oneG_c b c b1 z lx ly x w _ hp2 hxy hlz hlb (hp.rd hxa.1 fun _ => List.not_mem_nil) (fun h => hp.outS [true, true, true, true, true, true] rfl (hxa.1.lt h) List.not_mem_nil) (hp.ins_old hxa.2) (fun y hy h => hp.outS [true, true, true, true, true, true] rfl ((hxa.2 y hy).lt h) List.not_mem_nil) hx6 hx24) ?_; rintro ⟨l2, z2, m2⟩ ⟨hm2, hn2, hb2⟩; dsimp only at hm2 hn2 hb2 ⊢; have hl2 := maps_len hm2)))
            | ((with_reducible refine g_call 16 ?_); (first | (((refine' Ef_callX (φ := fun y : Hd × List Pk => y.2.map (·.1) = l2.map (·.1)) [true, true, true, false, false, false] rfl rfl ent_16 rfl rfl rfl (fun w hp => all2_c b c w _ l2 hp hb2 ?q1) ?_); (case q1 => omega)); rintro ⟨⟨A5, c5⟩, ms⟩ hms; dsimp only at hms ⊢; have hml := maps_len hms; have hbm := maps_all hms hb2; ((refine' TL.part (M' := nO b c :: chA c l2 :: bag (l2.map bP) :: .row 38 1 (.slice A5 ms.length c5) ms.length (ms.flatMap pE) :: bag (ms.map bP) :: yL b1 z2 m2) ?q1 ?_); (case q1 => (repeat (first | exact Part.nil | refine Part.p0 ?_ | refine Part.p1 ?_ | refine Part.p2 ?_ | refine Part.p3 ?_ | refine Part.p4 ?_ | refine Part.p5 ?_ | refine Part.p6 ?_)))))))
            | ((with_reducible refine g_call 18 ?_); (first | ((refine' Ef_callP rfl rfl ent_18 (fun w hp => same_v A5 c5 ms z2.1 z2.2 m2 w (hp.rowOf ?q1) (hp.rowOf ?q2) (hp.ins_bag ?q3) (hp.ins_bag ?q4) ?q5 (fun y hy => Nat.le_trans (hbm y hy) ?q6) (hms.trans hm2)) ?_); (case q1 => (repeat (first | exact .head _ | apply List.Mem.tail))); (case q2 => (repeat (first | exact .head _ | apply List.Mem.tail))); (case q3 => (repeat (first | exact .head _ | apply List.Mem.tail))); (case q4 => (repeat (first | exact .head _ | apply List.Mem.tail))); (case q5 => omega); (case q6 => decide))))
            | ((with_reducible refine g_call 12 ?_); (first | refine Ef_callT [true, true, false, false, false, false, false, false] rfl rfl ent_12 rfl rfl rfl (fun w hp => len_c b c w _ l2 hp) ?_))))
            | ((with_reducible refine g_draw ?_); (first | (((with_reducible refine' T.drawM (id := 10) [(0, true), (1, false), (2, false), (3, false), (4, false), (5, false), (6, false), (7, false), (8, true), (10, true), (11, true), (12, true), (13, true), (14, true), (9, false), (15, false), (16, false)] mixd ?q1 ?_); (case q1 => kernel_rfl)))))
            | refine w1 ?_
            | (refine w2 ?_ ?_ <;> intro hc)
            | (first | refine ⟨_, Yl_addU8 rfl rfl, ?_⟩)
            | (refine w4 ?_; (first | ((fail_if_success have := b1); intro b1) | intro _))
            | (refine w5 ?_; (first | ((fail_if_success have := A1); intro A1 c1) | ((fail_if_success have := A2); intro A2 c2) | ((fail_if_success have := A3); intro A3 c3) | ((fail_if_success have := A4); intro A4 c4) | ((fail_if_success have := A5); intro A5 c5) | intro _ _))
            | refine w3 ?_ ?_
            | fail_if_success skip)
        refine T.loopM (α := Nat × List Pk) (fun y => [(0, .slice A l.length ca), (3, .pointer (some ⟨b, 0, none⟩)), (4, .pointer (some ⟨b1, 0, none⟩)), (5, .int .i64 (i : Int)), (6, .slice A5 ms.length c5), (7, .int .i64 (y.1 : Int))]) (fun y => .row 38 1 (.slice A5 ms.length c5) ms.length (ms.flatMap pE) :: bag (y.2.map bP) :: (xL b c l2 ++ yL b1 z2 m2)) (fun y => y.1 ≤ ms.length ∧ y.2.map fo = ms.map fo) (fun y => ms.length - y.1) (0, ms) ?_ ?_ ?_ ?_
        · (repeat (first | exact Sub.nil | refine Sub.cons rfl ?_))
        · exact fun _ h => h.ofPart (by (repeat (first | exact Part.nil | refine Part.p0 ?_ | refine Part.p1 ?_ | refine Part.p2 ?_ | refine Part.p3 ?_ | refine Part.p4 ?_ | refine Part.p5 ?_ | refine Part.p6 ?_)))
        · exact ⟨Nat.zero_le _, rfl⟩
        · rintro ⟨j, bs⟩ ⟨hj, hbs⟩
          dsimp only at hj hbs ⊢
          by_cases hjl : j < ms.length
          · obtain ⟨m, hm⟩ := some_of_lt (l := ms) (i := j) hjl
            obtain ⟨⟨be, bh⟩, hb, hbf⟩ := fo_at hbs hm
            have hh : m.2 = bh := (congrArg Prod.fst hbf).symm
            have hml : m.1.length = be.length := (congrArg Prod.snd hbf).symm
            have hbl : be.length ≤ 140737488355328 := by have := hbm m (mem_of_some hm); omega
            have e4 : (ms.flatMap pE)[j * 1]? = some (.slice bh.1 be.length bh.2) := by
              have h1 : (ms.flatMap pE)[j * 1]? = some (pV m) := enc_at pE_len hm (j := 0) (by decide)
              rw [h1]; unfold pV; rw [hh, hml]
            have hcut := cut_at hb
            have hset := fo_cut hb hbs
            generalize bs.take j = pre at hcut hset
            generalize bs.drop (j + 1) = post at hcut hset
            refine T.mem (M' := .row 5 1 (.slice bh.1 be.length bh.2) be.length (be.flatMap eU) :: bag (pre.map bP) :: bag (post.map bP) :: .row 38 1 (.slice A5 ms.length c5) ms.length (ms.flatMap pE) :: (xL b c l2 ++ yL b1 z2 m2)) (fun w' h => ?_) ?_
            · rw [hcut, List.map_append, List.map_cons] at h
              exact (h.ofPart (M' := bag (pre.map bP ++ bP (be, bh) :: post.map bP) :: .row 38 1 (.slice A5 ms.length c5) ms.length (ms.flatMap pE) :: (xL b c l2 ++ yL b1 z2 m2)) (by (repeat (first | exact Part.nil | refine Part.p0 ?_ | refine Part.p1 ?_ | refine Part.p2 ?_ | refine Part.p3 ?_ | refine Part.p4 ?_ | refine Part.p5 ?_ | refine Part.p6 ?_)))).bagTake
            repeat' (first
                | ((with_reducible refine is_load ?_); (first | ((refine' ⟨_, Yl_loadA_hp (vs := aE x) rfl ?qa ?qb ?ql ?qc, ?_⟩); (case qa => exact agg_of rfl); (case qb => exact fun _ hp => hp.rd ha fun _ => List.not_mem_nil); (case qc => exact eA); (case ql => rfl)) | ((refine' ⟨_, Yl_load_row rfl ?q1 ?q2 e4, ?_⟩); (case q1 => exact one_of rfl); (case q2 => (repeat (first | exact .head _ | apply List.Mem.tail))))))
                | ((with_reducible refine is_build ?_); (first | refine ⟨_, Yl_build rfl o_build45, ?_⟩))
                | ((with_reducible refine ie_store ?_); (first | ((refine' Ef_store_row1 rfl rfl ?q1 ?q2 ?q3 ?q4 (eU_set us k _) ?_); (case q1 => rfl); (case q2 => exact siz_of rfl); (case q3 => (first | exact at0 | exact at1 | exact at2 | exact at3 | exact at4 | exact at5 | exact at6)); (case q4 => omega))))
                | ((with_reducible refine ie_callf ?_); (first
                | ((with_reducible refine g_call 13 ?_); (first | (refine Ef_callN rfl rfl ent_13 (fun w hp => hgr w hp) ?_; rintro (_ | _))))
                | ((with_reducible refine g_call 9 ?_); (first | (refine Ef_callN rfl rfl ent_9 (fun w _ => new_c w) ?_; rintro ⟨b, c⟩)))
                | ((with_reducible refine g_call 17 ?_); (first | (refine Ef_callW (φ := fun y : List Pk × Hd × List Pk => y.1.map (·.1) = y.2.2.map (·.1) ∧ y.1.length ≤ 4096 ∧ ∀ p ∈ y.1, p.1.length ≤ 140737488355328) (V := fun _ => .bool true) (N0 := fun y : List Pk × Hd × List Pk => xL b c y.1 ++ yL b1 y.2.1 y.2.2) [true, true, true, true, true, true] rfl rfl ent_17 rfl rfl rfl (fun w hp hp2 => oneG_c b c b1 z lx ly x w _ hp2 hxy hlz hlb (hp.rd hxa.1 fun _ => List.not_mem_nil) (fun h => hp.outS [true, true, true, true, true, true] rfl (hxa.1.lt h) List.not_mem_nil) (hp.ins_old hxa.2) (fun y hy h => hp.outS [true, true, true, true, true, true] rfl ((hxa.2 y hy).lt h) List.not_mem_nil) hx6 hx24) ?_; rintro ⟨l2, z2, m2⟩ ⟨hm2, hn2, hb2⟩; dsimp only at hm2 hn2 hb2 ⊢; have hl2 := maps_len hm2)))
                | ((with_reducible refine g_call 16 ?_); (first | (((refine' Ef_callX (φ := fun y : Hd × List Pk => y.2.map (·.1) = l2.map (·.1)) [true, true, true, false, false, false] rfl rfl ent_16 rfl rfl rfl (fun w hp => all2_c b c w _ l2 hp hb2 ?q1) ?_); (case q1 => omega)); rintro ⟨⟨A5, c5⟩, ms⟩ hms; dsimp only at hms ⊢; have hml := maps_len hms; have hbm := maps_all hms hb2; ((refine' TL.part (M' := nO b c :: chA c l2 :: bag (l2.map bP) :: .row 38 1 (.slice A5 ms.length c5) ms.length (ms.flatMap pE) :: bag (ms.map bP) :: yL b1 z2 m2) ?q1 ?_); (case q1 => (repeat (first | exact Part.nil | refine Part.p0 ?_ | refine Part.p1 ?_ | refine Part.p2 ?_ | refine Part.p3 ?_ | refine Part.p4 ?_ | refine Part.p5 ?_ | refine Part.p6 ?_)))))))
                | ((with_reducible refine g_call 18 ?_); (first | ((refine' Ef_callP rfl rfl ent_18 (fun w hp => same_v A5 c5 ms z2.1 z2.2 m2 w (hp.rowOf ?q1) (hp.rowOf ?q2) (hp.ins_bag ?q3) (hp.ins_bag ?q4) ?q5 (fun y hy => Nat.le_trans (hbm y hy) ?q6) (hms.trans hm2)) ?_); (case q1 => (repeat (first | exact .head _ | apply List.Mem.tail))); (case q2 => (repeat (first | exact .head _ | apply List.Mem.tail))); (case q3 => (repeat (first | exact .head _ | apply List.Mem.tail))); (case q4 => (repeat (first | exact .head _ | apply List.Mem.tail))); (case q5 => omega); (case q6 => decide))))
                | ((with_reducible refine g_call 12 ?_); (first | refine Ef_callT [true, true, false, false, false, false, false, false] rfl rfl ent_12 rfl rfl rfl (fun w hp => len_c b c w _ l2 hp) ?_))))
                | ((with_reducible refine g_draw ?_); (first | (((with_reducible refine' T.drawM (id := 10) [(0, true), (1, false), (2, false), (3, false), (4, false), (5, false), (6, false), (7, false), (8, true), (10, true), (11, true), (12, true), (13, true), (14, true), (9, false), (15, false), (16, false)] mixd ?q1 ?_); (case q1 => kernel_rfl)))))
                | refine w1 ?_
                | (refine w2 ?_ ?_ <;> intro hc)
                | (first | refine ⟨_, Yl_addU8 rfl rfl, ?_⟩)
                | (refine w4 ?_; (first | ((fail_if_success have := b1); intro b1) | intro _))
                | (refine w5 ?_; (first | ((fail_if_success have := A1); intro A1 c1) | ((fail_if_success have := A2); intro A2 c2) | ((fail_if_success have := A3); intro A3 c3) | ((fail_if_success have := A4); intro A4 c4) | ((fail_if_success have := A5); intro A5 c5) | intro _ _))
                | refine w3 ?_ ?_
                | fail_if_success skip)
            refine T.loop (α := Nat × List UInt8) (fun y => [(0, .slice A l.length ca), (3, .pointer (some ⟨b, 0, none⟩)), (4, .pointer (some ⟨b1, 0, none⟩)), (5, .int .i64 (i : Int)), (6, .slice A5 ms.length c5), (7, .int .i64 (j : Int)), (8, .int .i64 (y.1 : Int))]) (fun y => .row 5 1 (.slice bh.1 be.length bh.2) be.length (y.2.flatMap eU) :: bag (pre.map bP) :: bag (post.map bP) :: .row 38 1 (.slice A5 ms.length c5) ms.length (ms.flatMap pE) :: (xL b c l2 ++ yL b1 z2 m2)) (fun y => y.1 ≤ be.length ∧ y.2.length = be.length) (fun y => be.length - y.1) (0, be) ?_ ?_ ?_ ?_
            · (repeat (first | exact Sub.nil | refine Sub.cons rfl ?_))
            · exact List.Sublist.refl _
            · exact ⟨Nat.zero_le _, rfl⟩
            · rintro ⟨k, us⟩ ⟨hk2, hus⟩
              dsimp only at hk2 hus ⊢
              by_cases hkl : k < be.length
              · obtain ⟨u, hu⟩ := some_of_lt (l := us) (i := k) (by omega)
                have eZ : (us.flatMap eU)[k * 1]? = some (.int .u8 (u.toNat : Int)) := enc_at eU_len hu (j := 0) (by decide)
                repeat' (first
                    | ((with_reducible refine is_load ?_); (first | ((refine' ⟨_, Yl_loadA_hp (vs := aE x) rfl ?qa ?qb ?ql ?qc, ?_⟩); (case qa => exact agg_of rfl); (case qb => exact fun _ hp => hp.rd ha fun _ => List.not_mem_nil); (case qc => exact eA); (case ql => rfl)) | ((refine' ⟨_, Yl_load_row rfl ?q1 ?q2 e4, ?_⟩); (case q1 => exact one_of rfl); (case q2 => (repeat (first | exact .head _ | apply List.Mem.tail))))))
                    | ((with_reducible refine is_build ?_); (first | refine ⟨_, Yl_build rfl o_build45, ?_⟩))
                    | ((with_reducible refine ie_store ?_); (first | ((refine' Ef_store_row1 rfl rfl ?q1 ?q2 ?q3 ?q4 (eU_set us k _) ?_); (case q1 => rfl); (case q2 => exact siz_of rfl); (case q3 => (first | exact at0 | exact at1 | exact at2 | exact at3 | exact at4 | exact at5 | exact at6)); (case q4 => omega))))
                    | ((with_reducible refine ie_callf ?_); (first
                    | ((with_reducible refine g_call 13 ?_); (first | (refine Ef_callN rfl rfl ent_13 (fun w hp => hgr w hp) ?_; rintro (_ | _))))
                    | ((with_reducible refine g_call 9 ?_); (first | (refine Ef_callN rfl rfl ent_9 (fun w _ => new_c w) ?_; rintro ⟨b, c⟩)))
                    | ((with_reducible refine g_call 17 ?_); (first | (refine Ef_callW (φ := fun y : List Pk × Hd × List Pk => y.1.map (·.1) = y.2.2.map (·.1) ∧ y.1.length ≤ 4096 ∧ ∀ p ∈ y.1, p.1.length ≤ 140737488355328) (V := fun _ => .bool true) (N0 := fun y : List Pk × Hd × List Pk => xL b c y.1 ++ yL b1 y.2.1 y.2.2) [true, true, true, true, true, true] rfl rfl ent_17 rfl rfl rfl (fun w hp hp2 => oneG_c b c b1 z lx ly x w _ hp2 hxy hlz hlb (hp.rd hxa.1 fun _ => List.not_mem_nil) (fun h => hp.outS [true, true, true, true, true, true] rfl (hxa.1.lt h) List.not_mem_nil) (hp.ins_old hxa.2) (fun y hy h => hp.outS [true, true, true, true, true, true] rfl ((hxa.2 y hy).lt h) List.not_mem_nil) hx6 hx24) ?_; rintro ⟨l2, z2, m2⟩ ⟨hm2, hn2, hb2⟩; dsimp only at hm2 hn2 hb2 ⊢; have hl2 := maps_len hm2)))
                    | ((with_reducible refine g_call 16 ?_); (first | (((refine' Ef_callX (φ := fun y : Hd × List Pk => y.2.map (·.1) = l2.map (·.1)) [true, true, true, false, false, false] rfl rfl ent_16 rfl rfl rfl (fun w hp => all2_c b c w _ l2 hp hb2 ?q1) ?_); (case q1 => omega)); rintro ⟨⟨A5, c5⟩, ms⟩ hms; dsimp only at hms ⊢; have hml := maps_len hms; have hbm := maps_all hms hb2; ((refine' TL.part (M' := nO b c :: chA c l2 :: bag (l2.map bP) :: .row 38 1 (.slice A5 ms.length c5) ms.length (ms.flatMap pE) :: bag (ms.map bP) :: yL b1 z2 m2) ?q1 ?_); (case q1 => (repeat (first | exact Part.nil | refine Part.p0 ?_ | refine Part.p1 ?_ | refine Part.p2 ?_ | refine Part.p3 ?_ | refine Part.p4 ?_ | refine Part.p5 ?_ | refine Part.p6 ?_)))))))
                    | ((with_reducible refine g_call 18 ?_); (first | ((refine' Ef_callP rfl rfl ent_18 (fun w hp => same_v A5 c5 ms z2.1 z2.2 m2 w (hp.rowOf ?q1) (hp.rowOf ?q2) (hp.ins_bag ?q3) (hp.ins_bag ?q4) ?q5 (fun y hy => Nat.le_trans (hbm y hy) ?q6) (hms.trans hm2)) ?_); (case q1 => (repeat (first | exact .head _ | apply List.Mem.tail))); (case q2 => (repeat (first | exact .head _ | apply List.Mem.tail))); (case q3 => (repeat (first | exact .head _ | apply List.Mem.tail))); (case q4 => (repeat (first | exact .head _ | apply List.Mem.tail))); (case q5 => omega); (case q6 => decide))))
                    | ((with_reducible refine g_call 12 ?_); (first | refine Ef_callT [true, true, false, false, false, false, false, false] rfl rfl ent_12 rfl rfl rfl (fun w hp => len_c b c w _ l2 hp) ?_))))
                    | ((with_reducible refine g_draw ?_); (first | (((with_reducible refine' T.drawM (id := 10) [(0, true), (1, false), (2, false), (3, false), (4, false), (5, false), (6, false), (7, false), (8, true), (10, true), (11, true), (12, true), (13, true), (14, true), (9, false), (15, false), (16, false)] mixd ?q1 ?_); (case q1 => kernel_rfl)))))
                    | refine w1 ?_
                    | (refine w2 ?_ ?_ <;> intro hc)
                    | (first | refine ⟨_, Yl_addU8 rfl rfl, ?_⟩)
                    | (refine w4 ?_; (first | ((fail_if_success have := b1); intro b1) | intro _))
                    | (refine w5 ?_; (first | ((fail_if_success have := A1); intro A1 c1) | ((fail_if_success have := A2); intro A2 c2) | ((fail_if_success have := A3); intro A3 c3) | ((fail_if_success have := A4); intro A4 c4) | ((fail_if_success have := A5); intro A5 c5) | intro _ _))
                    | refine w3 ?_ ?_
                    | fail_if_success skip)
                refine loopQ_n (k + 1, us.set k (u + 1)) ?_ (List.Sublist.refl _) ⟨show k + 1 ≤ _ by omega, by rw [List.length_set]; exact hus⟩ (show be.length - (k + 1) < be.length - k by omega)
                (repeat (first | exact Sub.nil | refine Sub.cons rfl ?_))
              · repeat' (first
                  | ((with_reducible refine is_load ?_); (first | ((refine' ⟨_, Yl_loadA_hp (vs := aE x) rfl ?qa ?qb ?ql ?qc, ?_⟩); (case qa => exact agg_of rfl); (case qb => exact fun _ hp => hp.rd ha fun _ => List.not_mem_nil); (case qc => exact eA); (case ql => rfl)) | ((refine' ⟨_, Yl_load_row rfl ?q1 ?q2 e4, ?_⟩); (case q1 => exact one_of rfl); (case q2 => (repeat (first | exact .head _ | apply List.Mem.tail))))))
                  | ((with_reducible refine is_build ?_); (first | refine ⟨_, Yl_build rfl o_build45, ?_⟩))
                  | ((with_reducible refine ie_store ?_); (first | ((refine' Ef_store_row1 rfl rfl ?q1 ?q2 ?q3 ?q4 (eU_set us k _) ?_); (case q1 => rfl); (case q2 => exact siz_of rfl); (case q3 => (first | exact at0 | exact at1 | exact at2 | exact at3 | exact at4 | exact at5 | exact at6)); (case q4 => omega))))
                  | ((with_reducible refine ie_callf ?_); (first
                  | ((with_reducible refine g_call 13 ?_); (first | (refine Ef_callN rfl rfl ent_13 (fun w hp => hgr w hp) ?_; rintro (_ | _))))
                  | ((with_reducible refine g_call 9 ?_); (first | (refine Ef_callN rfl rfl ent_9 (fun w _ => new_c w) ?_; rintro ⟨b, c⟩)))
                  | ((with_reducible refine g_call 17 ?_); (first | (refine Ef_callW (φ := fun y : List Pk × Hd × List Pk => y.1.map (·.1) = y.2.2.map (·.1) ∧ y.1.length ≤ 4096 ∧ ∀ p ∈ y.1, p.1.length ≤ 140737488355328) (V := fun _ => .bool true) (N0 := fun y : List Pk × Hd × List Pk => xL b c y.1 ++ yL b1 y.2.1 y.2.2) [true, true, true, true, true, true] rfl rfl ent_17 rfl rfl rfl (fun w hp hp2 => oneG_c b c b1 z lx ly x w _ hp2 hxy hlz hlb (hp.rd hxa.1 fun _ => List.not_mem_nil) (fun h => hp.outS [true, true, true, true, true, true] rfl (hxa.1.lt h) List.not_mem_nil) (hp.ins_old hxa.2) (fun y hy h => hp.outS [true, true, true, true, true, true] rfl ((hxa.2 y hy).lt h) List.not_mem_nil) hx6 hx24) ?_; rintro ⟨l2, z2, m2⟩ ⟨hm2, hn2, hb2⟩; dsimp only at hm2 hn2 hb2 ⊢; have hl2 := maps_len hm2)))
                  | ((with_reducible refine g_call 16 ?_); (first | (((refine' Ef_callX (φ := fun y : Hd × List Pk => y.2.map (·.1) = l2.map (·.1)) [true, true, true, false, false, false] rfl rfl ent_16 rfl rfl rfl (fun w hp => all2_c b c w _ l2 hp hb2 ?q1) ?_); (case q1 => omega)); rintro ⟨⟨A5, c5⟩, ms⟩ hms; dsimp only at hms ⊢; have hml := maps_len hms; have hbm := maps_all hms hb2; ((refine' TL.part (M' := nO b c :: chA c l2 :: bag (l2.map bP) :: .row 38 1 (.slice A5 ms.length c5) ms.length (ms.flatMap pE) :: bag (ms.map bP) :: yL b1 z2 m2) ?q1 ?_); (case q1 => (repeat (first | exact Part.nil | refine Part.p0 ?_ | refine Part.p1 ?_ | refine Part.p2 ?_ | refine Part.p3 ?_ | refine Part.p4 ?_ | refine Part.p5 ?_ | refine Part.p6 ?_)))))))
                  | ((with_reducible refine g_call 18 ?_); (first | ((refine' Ef_callP rfl rfl ent_18 (fun w hp => same_v A5 c5 ms z2.1 z2.2 m2 w (hp.rowOf ?q1) (hp.rowOf ?q2) (hp.ins_bag ?q3) (hp.ins_bag ?q4) ?q5 (fun y hy => Nat.le_trans (hbm y hy) ?q6) (hms.trans hm2)) ?_); (case q1 => (repeat (first | exact .head _ | apply List.Mem.tail))); (case q2 => (repeat (first | exact .head _ | apply List.Mem.tail))); (case q3 => (repeat (first | exact .head _ | apply List.Mem.tail))); (case q4 => (repeat (first | exact .head _ | apply List.Mem.tail))); (case q5 => omega); (case q6 => decide))))
                  | ((with_reducible refine g_call 12 ?_); (first | refine Ef_callT [true, true, false, false, false, false, false, false] rfl rfl ent_12 rfl rfl rfl (fun w hp => len_c b c w _ l2 hp) ?_))))
                  | ((with_reducible refine g_draw ?_); (first | (((with_reducible refine' T.drawM (id := 10) [(0, true), (1, false), (2, false), (3, false), (4, false), (5, false), (6, false), (7, false), (8, true), (10, true), (11, true), (12, true), (13, true), (14, true), (9, false), (15, false), (16, false)] mixd ?q1 ?_); (case q1 => kernel_rfl)))))
                  | refine w1 ?_
                  | (refine w2 ?_ ?_ <;> intro hc)
                  | (first | refine ⟨_, Yl_addU8 rfl rfl, ?_⟩)
                  | (refine w4 ?_; (first | ((fail_if_success have := b1); intro b1) | intro _))
                  | (refine w5 ?_; (first | ((fail_if_success have := A1); intro A1 c1) | ((fail_if_success have := A2); intro A2 c2) | ((fail_if_success have := A3); intro A3 c3) | ((fail_if_success have := A4); intro A4 c4) | ((fail_if_success have := A5); intro A5 c5) | intro _ _))
                  | refine w3 ?_ ?_
                  | fail_if_success skip)
                refine loopH_n (j + 1, pre ++ (us, bh) :: post) ?_ (fun w' h => ?_) ⟨show j + 1 ≤ _ by omega, hset us hus⟩ (show ms.length - (j + 1) < ms.length - j by omega)
                · (repeat (first | exact Sub.nil | refine Sub.cons rfl ?_))
                · dsimp only
                  rw [List.map_append, List.map_cons]
                  have hp1 : Hp w [] (bP (us, bh) :: bag (pre.map bP) :: bag (post.map bP) :: .row 38 1 (.slice A5 ms.length c5) ms.length (ms.flatMap pE) :: (xL b c l2 ++ yL b1 z2 m2)) w' := by
                    unfold bP
                    dsimp only
                    rw [hus]
                    exact h
                  exact hp1.bagBack.ofPart (by (repeat (first | exact Part.nil | refine Part.p0 ?_ | refine Part.p1 ?_ | refine Part.p2 ?_ | refine Part.p3 ?_ | refine Part.p4 ?_ | refine Part.p5 ?_ | refine Part.p6 ?_)))
          · repeat' (first
              | ((with_reducible refine is_load ?_); (first | ((refine' ⟨_, Yl_loadA_hp (vs := aE x) rfl ?qa ?qb ?ql ?qc, ?_⟩); (case qa => exact agg_of rfl); (case qb => exact fun _ hp => hp.rd ha fun _ => List.not_mem_nil); (case qc => exact eA); (case ql => rfl)) | ((refine' ⟨_, Yl_load_row rfl ?q1 ?q2 e4, ?_⟩); (case q1 => exact one_of rfl); (case q2 => (repeat (first | exact .head _ | apply List.Mem.tail))))))
              | ((with_reducible refine is_build ?_); (first | refine ⟨_, Yl_build rfl o_build45, ?_⟩))
              | ((with_reducible refine ie_store ?_); (first | ((refine' Ef_store_row1 rfl rfl ?q1 ?q2 ?q3 ?q4 (eU_set us k _) ?_); (case q1 => rfl); (case q2 => exact siz_of rfl); (case q3 => (first | exact at0 | exact at1 | exact at2 | exact at3 | exact at4 | exact at5 | exact at6)); (case q4 => omega))))
              | ((with_reducible refine ie_callf ?_); (first
              | ((with_reducible refine g_call 13 ?_); (first | (refine Ef_callN rfl rfl ent_13 (fun w hp => hgr w hp) ?_; rintro (_ | _))))
              | ((with_reducible refine g_call 9 ?_); (first | (refine Ef_callN rfl rfl ent_9 (fun w _ => new_c w) ?_; rintro ⟨b, c⟩)))
              | ((with_reducible refine g_call 17 ?_); (first | (refine Ef_callW (φ := fun y : List Pk × Hd × List Pk => y.1.map (·.1) = y.2.2.map (·.1) ∧ y.1.length ≤ 4096 ∧ ∀ p ∈ y.1, p.1.length ≤ 140737488355328) (V := fun _ => .bool true) (N0 := fun y : List Pk × Hd × List Pk => xL b c y.1 ++ yL b1 y.2.1 y.2.2) [true, true, true, true, true, true] rfl rfl ent_17 rfl rfl rfl (fun w hp hp2 => oneG_c b c b1 z lx ly x w _ hp2 hxy hlz hlb (hp.rd hxa.1 fun _ => List.not_mem_nil) (fun h => hp.outS [true, true, true, true, true, true] rfl (hxa.1.lt h) List.not_mem_nil) (hp.ins_old hxa.2) (fun y hy h => hp.outS [true, true, true, true, true, true] rfl ((hxa.2 y hy).lt h) List.not_mem_nil) hx6 hx24) ?_; rintro ⟨l2, z2, m2⟩ ⟨hm2, hn2, hb2⟩; dsimp only at hm2 hn2 hb2 ⊢; have hl2 := maps_len hm2)))
              | ((with_reducible refine g_call 16 ?_); (first | (((refine' Ef_callX (φ := fun y : Hd × List Pk => y.2.map (·.1) = l2.map (·.1)) [true, true, true, false, false, false] rfl rfl ent_16 rfl rfl rfl (fun w hp => all2_c b c w _ l2 hp hb2 ?q1) ?_); (case q1 => omega)); rintro ⟨⟨A5, c5⟩, ms⟩ hms; dsimp only at hms ⊢; have hml := maps_len hms; have hbm := maps_all hms hb2; ((refine' TL.part (M' := nO b c :: chA c l2 :: bag (l2.map bP) :: .row 38 1 (.slice A5 ms.length c5) ms.length (ms.flatMap pE) :: bag (ms.map bP) :: yL b1 z2 m2) ?q1 ?_); (case q1 => (repeat (first | exact Part.nil | refine Part.p0 ?_ | refine Part.p1 ?_ | refine Part.p2 ?_ | refine Part.p3 ?_ | refine Part.p4 ?_ | refine Part.p5 ?_ | refine Part.p6 ?_)))))))
              | ((with_reducible refine g_call 18 ?_); (first | ((refine' Ef_callP rfl rfl ent_18 (fun w hp => same_v A5 c5 ms z2.1 z2.2 m2 w (hp.rowOf ?q1) (hp.rowOf ?q2) (hp.ins_bag ?q3) (hp.ins_bag ?q4) ?q5 (fun y hy => Nat.le_trans (hbm y hy) ?q6) (hms.trans hm2)) ?_); (case q1 => (repeat (first | exact .head _ | apply List.Mem.tail))); (case q2 => (repeat (first | exact .head _ | apply List.Mem.tail))); (case q3 => (repeat (first | exact .head _ | apply List.Mem.tail))); (case q4 => (repeat (first | exact .head _ | apply List.Mem.tail))); (case q5 => omega); (case q6 => decide))))
              | ((with_reducible refine g_call 12 ?_); (first | refine Ef_callT [true, true, false, false, false, false, false, false] rfl rfl ent_12 rfl rfl rfl (fun w hp => len_c b c w _ l2 hp) ?_))))
              | ((with_reducible refine g_draw ?_); (first | (((with_reducible refine' T.drawM (id := 10) [(0, true), (1, false), (2, false), (3, false), (4, false), (5, false), (6, false), (7, false), (8, true), (10, true), (11, true), (12, true), (13, true), (14, true), (9, false), (15, false), (16, false)] mixd ?q1 ?_); (case q1 => kernel_rfl)))))
              | refine w1 ?_
              | (refine w2 ?_ ?_ <;> intro hc)
              | (first | refine ⟨_, Yl_addU8 rfl rfl, ?_⟩)
              | (refine w4 ?_; (first | ((fail_if_success have := b1); intro b1) | intro _))
              | (refine w5 ?_; (first | ((fail_if_success have := A1); intro A1 c1) | ((fail_if_success have := A2); intro A2 c2) | ((fail_if_success have := A3); intro A3 c3) | ((fail_if_success have := A4); intro A4 c4) | ((fail_if_success have := A5); intro A5 c5) | intro _ _))
              | refine w3 ?_ ?_
              | fail_if_success skip)
            refine loopH_n (i + 1, l2, z2, m2) ?_ (fun w' h => h.ofPart (by (repeat (first | exact Part.nil | refine Part.p0 ?_ | refine Part.p1 ?_ | refine Part.p2 ?_ | refine Part.p3 ?_ | refine Part.p4 ?_ | refine Part.p5 ?_ | refine Part.p6 ?_)))) ⟨show i + 1 ≤ _ by omega, hm2, hn2, hb2⟩ (show l.length - (i + 1) < l.length - i by omega)
            (repeat (first | exact Sub.nil | refine Sub.cons rfl ?_))
      · repeat' (first
          | ((with_reducible refine is_load ?_); (first | ((refine' ⟨_, Yl_loadA_hp (vs := aE x) rfl ?qa ?qb ?ql ?qc, ?_⟩); (case qa => exact agg_of rfl); (case qb => exact fun _ hp => hp.rd ha fun _ => List.not_mem_nil); (case qc => exact eA); (case ql => rfl)) | ((refine' ⟨_, Yl_load_row rfl ?q1 ?q2 e4, ?_⟩); (case q1 => exact one_of rfl); (case q2 => (repeat (first | exact .head _ | apply List.Mem.tail))))))
          | ((with_reducible refine is_build ?_); (first | refine ⟨_, Yl_build rfl o_build45, ?_⟩))
          | ((with_reducible refine ie_store ?_); (first | ((refine' Ef_store_row1 rfl rfl ?q1 ?q2 ?q3 ?q4 (eU_set us k _) ?_); (case q1 => rfl); (case q2 => exact siz_of rfl); (case q3 => (first | exact at0 | exact at1 | exact at2 | exact at3 | exact at4 | exact at5 | exact at6)); (case q4 => omega))))
          | ((with_reducible refine ie_callf ?_); (first
          | ((with_reducible refine g_call 13 ?_); (first | (refine Ef_callN rfl rfl ent_13 (fun w hp => hgr w hp) ?_; rintro (_ | _))))
          | ((with_reducible refine g_call 9 ?_); (first | (refine Ef_callN rfl rfl ent_9 (fun w _ => new_c w) ?_; rintro ⟨b, c⟩)))
          | ((with_reducible refine g_call 17 ?_); (first | (refine Ef_callW (φ := fun y : List Pk × Hd × List Pk => y.1.map (·.1) = y.2.2.map (·.1) ∧ y.1.length ≤ 4096 ∧ ∀ p ∈ y.1, p.1.length ≤ 140737488355328) (V := fun _ => .bool true) (N0 := fun y : List Pk × Hd × List Pk => xL b c y.1 ++ yL b1 y.2.1 y.2.2) [true, true, true, true, true, true] rfl rfl ent_17 rfl rfl rfl (fun w hp hp2 => oneG_c b c b1 z lx ly x w _ hp2 hxy hlz hlb (hp.rd hxa.1 fun _ => List.not_mem_nil) (fun h => hp.outS [true, true, true, true, true, true] rfl (hxa.1.lt h) List.not_mem_nil) (hp.ins_old hxa.2) (fun y hy h => hp.outS [true, true, true, true, true, true] rfl ((hxa.2 y hy).lt h) List.not_mem_nil) hx6 hx24) ?_; rintro ⟨l2, z2, m2⟩ ⟨hm2, hn2, hb2⟩; dsimp only at hm2 hn2 hb2 ⊢; have hl2 := maps_len hm2)))
          | ((with_reducible refine g_call 16 ?_); (first | (((refine' Ef_callX (φ := fun y : Hd × List Pk => y.2.map (·.1) = l2.map (·.1)) [true, true, true, false, false, false] rfl rfl ent_16 rfl rfl rfl (fun w hp => all2_c b c w _ l2 hp hb2 ?q1) ?_); (case q1 => omega)); rintro ⟨⟨A5, c5⟩, ms⟩ hms; dsimp only at hms ⊢; have hml := maps_len hms; have hbm := maps_all hms hb2; ((refine' TL.part (M' := nO b c :: chA c l2 :: bag (l2.map bP) :: .row 38 1 (.slice A5 ms.length c5) ms.length (ms.flatMap pE) :: bag (ms.map bP) :: yL b1 z2 m2) ?q1 ?_); (case q1 => (repeat (first | exact Part.nil | refine Part.p0 ?_ | refine Part.p1 ?_ | refine Part.p2 ?_ | refine Part.p3 ?_ | refine Part.p4 ?_ | refine Part.p5 ?_ | refine Part.p6 ?_)))))))
          | ((with_reducible refine g_call 18 ?_); (first | ((refine' Ef_callP rfl rfl ent_18 (fun w hp => same_v A5 c5 ms z2.1 z2.2 m2 w (hp.rowOf ?q1) (hp.rowOf ?q2) (hp.ins_bag ?q3) (hp.ins_bag ?q4) ?q5 (fun y hy => Nat.le_trans (hbm y hy) ?q6) (hms.trans hm2)) ?_); (case q1 => (repeat (first | exact .head _ | apply List.Mem.tail))); (case q2 => (repeat (first | exact .head _ | apply List.Mem.tail))); (case q3 => (repeat (first | exact .head _ | apply List.Mem.tail))); (case q4 => (repeat (first | exact .head _ | apply List.Mem.tail))); (case q5 => omega); (case q6 => decide))))
          | ((with_reducible refine g_call 12 ?_); (first | refine Ef_callT [true, true, false, false, false, false, false, false] rfl rfl ent_12 rfl rfl rfl (fun w hp => len_c b c w _ l2 hp) ?_))))
          | ((with_reducible refine g_draw ?_); (first | (((with_reducible refine' T.drawM (id := 10) [(0, true), (1, false), (2, false), (3, false), (4, false), (5, false), (6, false), (7, false), (8, true), (10, true), (11, true), (12, true), (13, true), (14, true), (9, false), (15, false), (16, false)] mixd ?q1 ?_); (case q1 => kernel_rfl)))))
          | refine w1 ?_
          | (refine w2 ?_ ?_ <;> intro hc)
          | (first | refine ⟨_, Yl_addU8 rfl rfl, ?_⟩)
          | (refine w4 ?_; (first | ((fail_if_success have := b1); intro b1) | intro _))
          | (refine w5 ?_; (first | ((fail_if_success have := A1); intro A1 c1) | ((fail_if_success have := A2); intro A2 c2) | ((fail_if_success have := A3); intro A3 c3) | ((fail_if_success have := A4); intro A4 c4) | ((fail_if_success have := A5); intro A5 c5) | intro _ _))
          | refine w3 ?_ ?_
          | fail_if_success skip)
        exact ret_n [] (res1 rfl rfl) (List.nil_sublist _) ⟨rfl, rfl⟩
  · exact ret_n [] (res1 rfl rfl) (List.nil_sublist _) ⟨rfl, rfl⟩
end
end Go.Proofs.Ytdbpnolpgkcjiaa
