/- Law: any acts come to what the chapter says: what a call comes to. -/
import Derived.Test.YtegaejbfhpigjaaT14
namespace Go.Proofs.Ytegaejbfhpigjaa
open Go.RowKit
set_option maxRecDepth 20000

section
variable (A : Option Addr) (c : Nat) (l : List Ac) (w : World) (ha : Rd w A l.length 7 (l.flatMap aE)) (hia : Ins w (l.map (·.e))) (hle : l.length ≤ 140737488355328) (hlk : ∀ a ∈ l, a.e.1.body.length ≤ 140737488355328)
include ha hia hle hlk
set_option maxHeartbeats 8000000 in
theorem plays_law : Sp Try.prog 4 [.slice A l.length c] w [] fun v N => v = .bool true ∧ N = [] := by
  have hg1 := fun w h => great_v A c l w h (by omega) hlk _ rfl
  cases h1 : Lg.great 0 l
  · rw [h1] at hg1
    obtain ⟨g1, g2⟩ := Lg.great_no h1 (Nat.zero_le _)
    clear hlk h1
    refine Sp.enter (n := 93) Try.func4 rfl rfl rfl (Hp.refl w) ?_
    refine T.mem (fun _ h => h.bagNil) ?_
    refine T.row0e 27 5 ?_
    repeat' (first
        | ((with_reducible refine is_load ?_); (first | ((refine' ⟨_, Yl_loadA_hp (vs := aE x) rfl ?qa ?qb ?ql ?qc, ?_⟩); (case qa => exact agg_of rfl); (case qb => exact fun _ hp => hp.rd ha fun _ => List.not_mem_nil); (case qc => exact eA); (case ql => rfl))))
        | ((with_reducible refine is_build ?_); (first | refine ⟨_, Yl_build rfl o_build36, ?_⟩))
        | ((with_reducible refine ie_store ?_); (first | ((refine' Ef_store_row1 rfl rfl ?q1 ?q2 ?q3 ?q4 (eU_set zs k _) ?_); (case q1 => rfl); (case q2 => exact siz_of rfl); (case q3 => (first | exact at0 | exact at1 | exact at2 | exact at3 | exact at4 | exact at5 | exact at6)); (case q4 => omega)) | ((refine' Ef_store_row1 rfl rfl ?q1 ?q2 ?q3 ?q4 (mE_set hn (-9)) ?_); (case q1 => rfl); (case q2 => exact siz_of rfl); (case q3 => (first | exact at0 | exact at1 | exact at2 | exact at3 | exact at4 | exact at5 | exact at6)); (case q4 => omega))))
        | ((with_reducible refine ie_callf ?_); (first
        | ((with_reducible refine g_call 10 ?_); (first | refine Ef_callP rfl rfl ent_10 (fun w hp => hg1 w (hp.rd ha fun _ => List.not_mem_nil)) ?_))
        | ((with_reducible refine g_call 13 ?_); (first | (refine Ef_callN rfl rfl ent_13 (fun w _ => new_c w) ?_; rintro b)))
        | ((with_reducible refine g_call 14 ?_); (first | (refine Ef_callXY [true, true, true, true, true, true] rfl rfl ent_14 rfl rfl rfl (fun w hp hp2 => hone w _ hp2 (hp.in_old hxi) (fun h => hp.outS [true, true, true, true, true, true] rfl (hxi.lt h) List.not_mem_nil)) ?_; intro z1 xs z2 ys hxs hys; have hl1 := len_map hxs; have hl2 := len_map hys)))
        | ((with_reducible refine g_call 15 ?_); (first | ((refine' Ef_callP rfl rfl ent_15 (fun w hp => len_v b z1.1 xs.length z1.2 s w (hp.blkOf ?q1)) ?_); (case q1 => (repeat (first | exact .head _ | apply List.Mem.tail))))))
        | ((with_reducible refine g_call 16 ?_); (first | ((refine' Ef_callP rfl rfl ent_16 (fun w hp => synced_v b z1.1 xs.length z1.2 s w (hp.blkOf ?q1)) ?_); (case q1 => (repeat (first | exact .head _ | apply List.Mem.tail))))))
        | ((with_reducible refine g_call 17 ?_); (first | ((refine' Ef_callP rfl rfl ent_17 (fun w hp => stamp_v b z1.1 xs.length z1.2 s xs w (hp.lrRd ?q1) rfl ?q2 _ (congrArg Lg.stamp hxs) (hp.blkOf ?q3)) ?_); (case q1 => (repeat (first | exact .head _ | apply List.Mem.tail))); (case q2 => omega); (case q3 => (repeat (first | exact .head _ | apply List.Mem.tail))))))
        | ((with_reducible refine g_call 18 ?_); (first | ((refine' Ef_callP rfl rfl ent_18 (fun w hp => rstamp_v b1 z2.1 ys.length z2.2 s ys w (hp.rowOf ?q1) rfl ?q2 _ (congrArg Lg.stamp hys) (hp.blkOf ?q3)) ?_); (case q1 => (repeat (first | exact .head _ | apply List.Mem.tail))); (case q2 => omega); (case q3 => (repeat (first | exact .head _ | apply List.Mem.tail))))))
        | ((with_reducible refine g_call 19 ?_); (first | (((refine' Ef_callF rfl rfl ent_19 (fun w hp => all_q b z1.1 xs.length z1.2 s xs q hxs ?q1 w (hp.lrRd ?q2) rfl (hp.ins_bag ?q3) hqb (hp.blkOf ?q4) (hp.lrCap ?q5)) ?_); (case q1 => omega); (case q2 => (repeat (first | exact .head _ | apply List.Mem.tail))); (case q3 => (repeat (first | exact .head _ | apply List.Mem.tail))); (case q4 => (repeat (first | exact .head _ | apply List.Mem.tail))); (case q5 => (repeat (first | exact .head _ | apply List.Mem.tail)))); intro A3 c3 ms hms; have hl3 := len_map hms)))
        | ((with_reducible refine g_call 20 ?_); (first | ((refine' Ef_callP rfl rfl ent_20 (fun w hp => rsames_v A3 c3 ms z2.1 z2.2 ys w (hp.rowOf ?q1) (hp.rowOf ?q2) (hp.ins_bag ?q3) (hp.ins_bag ?q4) ?q5 (fun x hx => Nat.le_trans (bodies_map hms hqb x hx) ?q6) true ?q7) ?_); (case q1 => (repeat (first | exact .head _ | apply List.Mem.tail))); (case q2 => (repeat (first | exact .head _ | apply List.Mem.tail))); (case q3 => (repeat (first | exact .head _ | apply List.Mem.tail))); (case q4 => (repeat (first | exact .head _ | apply List.Mem.tail))); (case q5 => omega); (case q6 => decide); (case q7 => rw [hms, hys]; simp))))))
        | ((with_reducible refine g_draw ?_); (first | (((refine' T.draw2 [(0, true), (1, true), (2, true), (3, false), (4, false), (5, false), (6, false), (7, false), (8, false)] [(9, true), (11, true), (12, true), (13, true), (14, true), (15, true), (10, false), (16, false), (17, false), (18, false), (19, true), (21, true), (22, true), (23, true), (24, true), (20, false), (25, false), (26, false), (27, false), (28, true), (30, true), (29, false), (31, false), (32, false), (33, false)] mixd ?q1 ?_); (case q1 => kernel_rfl)))))
        | refine w1 ?_
        | (refine w2 ?_ ?_ <;> intro hc)
        | (first | refine ⟨_, Yl_addU8 rfl rfl, ?_⟩)
        | (refine w4 ?_; (first | ((fail_if_success have := b1); intro b1) | intro _))
        | (refine w5 ?_; (first | ((fail_if_success have := A1); intro A1 c1) | ((fail_if_success have := A2); intro A2 c2) | ((fail_if_success have := A3); intro A3 c3) | intro _ _))
        | refine w3 ?_ ?_
        | fail_if_success skip)
    refine T.loopM (α := Nat × (Hd × List Me) × (Hd × List Me) × Int) (fun z => [(0, .slice A l.length c), (3, .pointer (some ⟨b, 0, none⟩)), (4, .pointer (some ⟨b1, 0, none⟩)), (5, .int .i64 (z.1 : Int))]) (fun z => xL b z.2.1.1 z.2.1.2 z.2.2.2 ++ yL b1 z.2.2.1.1 z.2.2.1.2 z.2.2.2)
      (fun z => z.1 ≤ l.length ∧ z.2.1.2.map (·.1) = z.2.2.1.2.map (·.1) ∧ (z.2.1.2.map (·.1)).length ≤ z.1 ∧ ∀ x ∈ z.2.1.2.map (·.1), x.body.length ≤ 6000) (fun z => l.length - z.1) (0, ((none, 0), []), ((none, 0), []), 0) ?_ ?_ ?_ ?_
    · (repeat (first | exact Sub.nil | refine Sub.cons rfl ?_))
    · exact fun _ h => h.ofPart (by dsimp only [xL, yL, rM]; (repeat (first | exact Part.nil | refine Part.p0 ?_ | refine Part.p1 ?_ | refine Part.p2 ?_ | refine Part.p3 ?_ | refine Part.p4 ?_ | refine Part.p5 ?_ | refine Part.p6 ?_)))
    · exact ⟨Nat.zero_le _, rfl, Nat.zero_le _, fun x hx => by simp at hx⟩
    · rintro ⟨i, ⟨zx, lx⟩, ⟨zy, ly⟩, sy⟩ ⟨hi, hxy, hqi, hqb0⟩
      dsimp only at hi hxy hqi hqb0 ⊢
      by_cases hlt : i < l.length
      · obtain ⟨x, hx⟩ := some_of_lt (l := l) (i := i) hlt
        have eA := enc_atA aE_len hx
        have hxi : In w x.e := hia _ (List.mem_map.2 ⟨x, mem_of_some hx, rfl⟩)
        have hx5 : x.e.1.body.length ≤ 6000 := Nat.le_trans (g2 x (mem_of_some hx)) (by decide)
        have hll := len_map hxy
        rw [List.length_map] at hll hqi
        have hone := fun w R hp h1 h2 => one_c b b1 zx zy lx ly sy x w R hp hxy (by omega) (bodies_map hxy.symm hqb0) h1 h2 hx5
        have hsl := Lg.step_len x.kind x.n x.e.1 (lx.map (·.1)) sy
        have hqb := Lg.step_mem (kind := x.kind) (n := x.n) (sy := sy) hqb0 hx5
        rw [List.length_map] at hsl
        generalize Lg.step x.kind x.n x.e.1 (lx.map (·.1)) sy = S at hone hsl hqb
        obtain ⟨q, s⟩ := S
        dsimp only at hone hsl hqb
        have hql : q.length ≤ 200 := by omega
        repeat' (first
            | ((with_reducible refine is_load ?_); (first | ((refine' ⟨_, Yl_loadA_hp (vs := aE x) rfl ?qa ?qb ?ql ?qc, ?_⟩); (case qa => exact agg_of rfl); (case qb => exact fun _ hp => hp.rd ha fun _ => List.not_mem_nil); (case qc => exact eA); (case ql => rfl))))
            | ((with_reducible refine is_build ?_); (first | refine ⟨_, Yl_build rfl o_build36, ?_⟩))
            | ((with_reducible refine ie_store ?_); (first | ((refine' Ef_store_row1 rfl rfl ?q1 ?q2 ?q3 ?q4 (eU_set zs k _) ?_); (case q1 => rfl); (case q2 => exact siz_of rfl); (case q3 => (first | exact at0 | exact at1 | exact at2 | exact at3 | exact at4 | exact at5 | exact at6)); (case q4 => omega)) | ((refine' Ef_store_row1 rfl rfl ?q1 ?q2 ?q3 ?q4 (mE_set hn (-9)) ?_); (case q1 => rfl); (case q2 => exact siz_of rfl); (case q3 => (first | exact at0 | exact at1 | exact at2 | exact at3 | exact at4 | exact at5 | exact at6)); (case q4 => omega))))
            | ((with_reducible refine ie_callf ?_); (first
            | ((with_reducible refine g_call 10 ?_); (first | refine Ef_callP rfl rfl ent_10 (fun w hp => hg1 w (hp.rd ha fun _ => List.not_mem_nil)) ?_))
            | ((with_reducible refine g_call 13 ?_); (first | (refine Ef_callN rfl rfl ent_13 (fun w _ => new_c w) ?_; rintro b)))
            | ((with_reducible refine g_call 14 ?_); (first | (refine Ef_callXY [true, true, true, true, true, true] rfl rfl ent_14 rfl rfl rfl (fun w hp hp2 => hone w _ hp2 (hp.in_old hxi) (fun h => hp.outS [true, true, true, true, true, true] rfl (hxi.lt h) List.not_mem_nil)) ?_; intro z1 xs z2 ys hxs hys; have hl1 := len_map hxs; have hl2 := len_map hys)))
            | ((with_reducible refine g_call 15 ?_); (first | ((refine' Ef_callP rfl rfl ent_15 (fun w hp => len_v b z1.1 xs.length z1.2 s w (hp.blkOf ?q1)) ?_); (case q1 => (repeat (first | exact .head _ | apply List.Mem.tail))))))
            | ((with_reducible refine g_call 16 ?_); (first | ((refine' Ef_callP rfl rfl ent_16 (fun w hp => synced_v b z1.1 xs.length z1.2 s w (hp.blkOf ?q1)) ?_); (case q1 => (repeat (first | exact .head _ | apply List.Mem.tail))))))
            | ((with_reducible refine g_call 17 ?_); (first | ((refine' Ef_callP rfl rfl ent_17 (fun w hp => stamp_v b z1.1 xs.length z1.2 s xs w (hp.lrRd ?q1) rfl ?q2 _ (congrArg Lg.stamp hxs) (hp.blkOf ?q3)) ?_); (case q1 => (repeat (first | exact .head _ | apply List.Mem.tail))); (case q2 => omega); (case q3 => (repeat (first | exact .head _ | apply List.Mem.tail))))))
            | ((with_reducible refine g_call 18 ?_); (first | ((refine' Ef_callP rfl rfl ent_18 (fun w hp => rstamp_v b1 z2.1 ys.length z2.2 s ys w (hp.rowOf ?q1) rfl ?q2 _ (congrArg Lg.stamp hys) (hp.blkOf ?q3)) ?_); (case q1 => (repeat (first | exact .head _ | apply List.Mem.tail))); (case q2 => omega); (case q3 => (repeat (first | exact .head _ | apply List.Mem.tail))))))
            | ((with_reducible refine g_call 19 ?_); (first | (((refine' Ef_callF rfl rfl ent_19 (fun w hp => all_q b z1.1 xs.length z1.2 s xs q hxs ?q1 w (hp.lrRd ?q2) rfl (hp.ins_bag ?q3) hqb (hp.blkOf ?q4) (hp.lrCap ?q5)) ?_); (case q1 => omega); (case q2 => (repeat (first | exact .head _ | apply List.Mem.tail))); (case q3 => (repeat (first | exact .head _ | apply List.Mem.tail))); (case q4 => (repeat (first | exact .head _ | apply List.Mem.tail))); (case q5 => (repeat (first | exact .head _ | apply List.Mem.tail)))); intro A3 c3 ms hms; have hl3 := len_map hms)))
            | ((with_reducible refine g_call 20 ?_); (first | ((refine' Ef_callP rfl rfl ent_20 (fun w hp => rsames_v A3 c3 ms z2.1 z2.2 ys w (hp.rowOf ?q1) (hp.rowOf ?q2) (hp.ins_bag ?q3) (hp.ins_bag ?q4) ?q5 (fun x hx => Nat.le_trans (bodies_map hms hqb x hx) ?q6) true ?q7) ?_); (case q1 => (repeat (first | exact .head _ | apply List.Mem.tail))); (case q2 => (repeat (first | exact .head _ | apply List.Mem.tail))); (case q3 => (repeat (first | exact .head _ | apply List.Mem.tail))); (case q4 => (repeat (first | exact .head _ | apply List.Mem.tail))); (case q5 => omega); (case q6 => decide); (case q7 => rw [hms, hys]; simp))))))
            | ((with_reducible refine g_draw ?_); (first | (((refine' T.draw2 [(0, true), (1, true), (2, true), (3, false), (4, false), (5, false), (6, false), (7, false), (8, false)] [(9, true), (11, true), (12, true), (13, true), (14, true), (15, true), (10, false), (16, false), (17, false), (18, false), (19, true), (21, true), (22, true), (23, true), (24, true), (20, false), (25, false), (26, false), (27, false), (28, true), (30, true), (29, false), (31, false), (32, false), (33, false)] mixd ?q1 ?_); (case q1 => kernel_rfl)))))
            | refine w1 ?_
            | (refine w2 ?_ ?_ <;> intro hc)
            | (first | refine ⟨_, Yl_addU8 rfl rfl, ?_⟩)
            | (refine w4 ?_; (first | ((fail_if_success have := b1); intro b1) | intro _))
            | (refine w5 ?_; (first | ((fail_if_success have := A1); intro A1 c1) | ((fail_if_success have := A2); intro A2 c2) | ((fail_if_success have := A3); intro A3 c3) | intro _ _))
            | refine w3 ?_ ?_
            | fail_if_success skip)
        refine T.loopM (α := Nat × List Me × List Me) (fun y => [(0, .slice A l.length c), (3, .pointer (some ⟨b, 0, none⟩)), (4, .pointer (some ⟨b1, 0, none⟩)), (5, .int .i64 (i : Int)), (6, .slice A3 ms.length c3), (7, .int .i64 (y.1 : Int))])
          (fun y => .row 27 5 (.slice A3 ms.length c3) ms.length (y.2.1.flatMap mE) :: bag (y.2.2.map bA) :: (xL b z1 xs s ++ yL b1 z2 ys s)) (fun y => y.1 ≤ ms.length ∧ y.2.1.map fo = ms.map fo ∧ y.2.2.map fo = ms.map fo) (fun y => ms.length - y.1) (0, ms, ms) ?_ ?_ ?_ ?_
        · (repeat (first | exact Sub.nil | refine Sub.cons rfl ?_))
        · exact fun _ h => h.ofPart (by dsimp only [rM]; (repeat (first | exact Part.nil | refine Part.p0 ?_ | refine Part.p1 ?_ | refine Part.p2 ?_ | refine Part.p3 ?_ | refine Part.p4 ?_ | refine Part.p5 ?_ | refine Part.p6 ?_)))
        · exact ⟨Nat.zero_le _, rfl, rfl⟩
        · rintro ⟨j, ns, bs⟩ ⟨hj, hns, hbs⟩
          dsimp only at hj hns hbs ⊢
          by_cases hjl : j < ms.length
          · obtain ⟨m, hm⟩ := some_of_lt (l := ms) (i := j) hjl
            obtain ⟨⟨ne, nh⟩, hn, hnf⟩ := fo_at hns hm
            obtain ⟨⟨be, bh⟩, hb, hbf⟩ := fo_at hbs hm
            obtain rfl : nh = bh := (congrArg Prod.fst hnf).trans (congrArg Prod.fst hbf).symm
            have hnb : ne.body.length = be.body.length := (congrArg Prod.snd hnf).trans (congrArg Prod.snd hbf).symm
            have hbl : be.body.length ≤ 6000 := by
              have h1 : be.body.length = m.1.body.length := congrArg Prod.snd hbf
              have h2 := bodies_map hms hqb m (mem_of_some hm)
              omega
            have hnl := fo_len hns
            have e4 : (ns.flatMap mE)[j * 5 + 4]? = some (.slice nh.1 ne.body.length nh.2) := enc_at mE_len hn (j := 4) (by decide)
            rw [hnb] at e4
            have hcut := cut_at hb
            have hset : ∀ zs : List UInt8, zs.length = be.body.length → (bs.take j ++ ({ be with body := zs }, nh) :: bs.drop (j + 1)).map fo = ms.map fo := fun zs hz => by
              rw [← set_cut hb, fo_set hb (show fo _ = fo _ from by unfold fo; rw [hz]), hbs]
            generalize bs.take j = pre at hcut hset
            generalize bs.drop (j + 1) = post at hcut hset
            have hbag : ∀ w', Hp w [] (.row 27 5 (.slice A3 ms.length c3) ms.length (ns.flatMap mE) :: bag (bs.map bA) :: (xL b z1 xs s ++ yL b1 z2 ys s)) w' → Hp w [] (.row 5 1 (.slice nh.1 be.body.length nh.2) be.body.length (be.body.flatMap eU) :: bag (pre.map bA) :: bag (post.map bA) :: .row 27 5 (.slice A3 ms.length c3) ms.length (ns.flatMap mE) :: (xL b z1 xs s ++ yL b1 z2 ys s)) w' := fun w' hp => by
              rw [hcut, List.map_append, List.map_cons] at hp
              exact (hp.ofPart (M' := bag (pre.map bA ++ bA (be, nh) :: post.map bA) :: .row 27 5 (.slice A3 ms.length c3) ms.length (ns.flatMap mE) :: (xL b z1 xs s ++ yL b1 z2 ys s)) (by (repeat (first | exact Part.nil | refine Part.p0 ?_ | refine Part.p1 ?_ | refine Part.p2 ?_ | refine Part.p3 ?_ | refine Part.p4 ?_ | refine Part.p5 ?_ | refine Part.p6 ?_)))).bagTake
            refine T.mem hbag ?_
            clear hbag
            repeat' (first
                | ((with_reducible refine is_load ?_); (first | ((refine' ⟨_, Yl_loadA_hp (vs := aE x) rfl ?qa ?qb ?ql ?qc, ?_⟩); (case qa => exact agg_of rfl); (case qb => exact fun _ hp => hp.rd ha fun _ => List.not_mem_nil); (case qc => exact eA); (case ql => rfl))))
                | ((with_reducible refine is_build ?_); (first | refine ⟨_, Yl_build rfl o_build36, ?_⟩))
                | ((with_reducible refine ie_store ?_); (first | ((refine' Ef_store_row1 rfl rfl ?q1 ?q2 ?q3 ?q4 (eU_set zs k _) ?_); (case q1 => rfl); (case q2 => exact siz_of rfl); (case q3 => (first | exact at0 | exact at1 | exact at2 | exact at3 | exact at4 | exact at5 | exact at6)); (case q4 => omega)) | ((refine' Ef_store_row1 rfl rfl ?q1 ?q2 ?q3 ?q4 (mE_set hn (-9)) ?_); (case q1 => rfl); (case q2 => exact siz_of rfl); (case q3 => (first | exact at0 | exact at1 | exact at2 | exact at3 | exact at4 | exact at5 | exact at6)); (case q4 => omega))))
                | ((with_reducible refine ie_callf ?_); (first
                | ((with_reducible refine g_call 10 ?_); (first | refine Ef_callP rfl rfl ent_10 (fun w hp => hg1 w (hp.rd ha fun _ => List.not_mem_nil)) ?_))
                | ((with_reducible refine g_call 13 ?_); (first | (refine Ef_callN rfl rfl ent_13 (fun w _ => new_c w) ?_; rintro b)))
                | ((with_reducible refine g_call 14 ?_); (first | (refine Ef_callXY [true, true, true, true, true, true] rfl rfl ent_14 rfl rfl rfl (fun w hp hp2 => hone w _ hp2 (hp.in_old hxi) (fun h => hp.outS [true, true, true, true, true, true] rfl (hxi.lt h) List.not_mem_nil)) ?_; intro z1 xs z2 ys hxs hys; have hl1 := len_map hxs; have hl2 := len_map hys)))
                | ((with_reducible refine g_call 15 ?_); (first | ((refine' Ef_callP rfl rfl ent_15 (fun w hp => len_v b z1.1 xs.length z1.2 s w (hp.blkOf ?q1)) ?_); (case q1 => (repeat (first | exact .head _ | apply List.Mem.tail))))))
                | ((with_reducible refine g_call 16 ?_); (first | ((refine' Ef_callP rfl rfl ent_16 (fun w hp => synced_v b z1.1 xs.length z1.2 s w (hp.blkOf ?q1)) ?_); (case q1 => (repeat (first | exact .head _ | apply List.Mem.tail))))))
                | ((with_reducible refine g_call 17 ?_); (first | ((refine' Ef_callP rfl rfl ent_17 (fun w hp => stamp_v b z1.1 xs.length z1.2 s xs w (hp.lrRd ?q1) rfl ?q2 _ (congrArg Lg.stamp hxs) (hp.blkOf ?q3)) ?_); (case q1 => (repeat (first | exact .head _ | apply List.Mem.tail))); (case q2 => omega); (case q3 => (repeat (first | exact .head _ | apply List.Mem.tail))))))
                | ((with_reducible refine g_call 18 ?_); (first | ((refine' Ef_callP rfl rfl ent_18 (fun w hp => rstamp_v b1 z2.1 ys.length z2.2 s ys w (hp.rowOf ?q1) rfl ?q2 _ (congrArg Lg.stamp hys) (hp.blkOf ?q3)) ?_); (case q1 => (repeat (first | exact .head _ | apply List.Mem.tail))); (case q2 => omega); (case q3 => (repeat (first | exact .head _ | apply List.Mem.tail))))))
                | ((with_reducible refine g_call 19 ?_); (first | (((refine' Ef_callF rfl rfl ent_19 (fun w hp => all_q b z1.1 xs.length z1.2 s xs q hxs ?q1 w (hp.lrRd ?q2) rfl (hp.ins_bag ?q3) hqb (hp.blkOf ?q4) (hp.lrCap ?q5)) ?_); (case q1 => omega); (case q2 => (repeat (first | exact .head _ | apply List.Mem.tail))); (case q3 => (repeat (first | exact .head _ | apply List.Mem.tail))); (case q4 => (repeat (first | exact .head _ | apply List.Mem.tail))); (case q5 => (repeat (first | exact .head _ | apply List.Mem.tail)))); intro A3 c3 ms hms; have hl3 := len_map hms)))
                | ((with_reducible refine g_call 20 ?_); (first | ((refine' Ef_callP rfl rfl ent_20 (fun w hp => rsames_v A3 c3 ms z2.1 z2.2 ys w (hp.rowOf ?q1) (hp.rowOf ?q2) (hp.ins_bag ?q3) (hp.ins_bag ?q4) ?q5 (fun x hx => Nat.le_trans (bodies_map hms hqb x hx) ?q6) true ?q7) ?_); (case q1 => (repeat (first | exact .head _ | apply List.Mem.tail))); (case q2 => (repeat (first | exact .head _ | apply List.Mem.tail))); (case q3 => (repeat (first | exact .head _ | apply List.Mem.tail))); (case q4 => (repeat (first | exact .head _ | apply List.Mem.tail))); (case q5 => omega); (case q6 => decide); (case q7 => rw [hms, hys]; simp))))))
                | ((with_reducible refine g_draw ?_); (first | (((refine' T.draw2 [(0, true), (1, true), (2, true), (3, false), (4, false), (5, false), (6, false), (7, false), (8, false)] [(9, true), (11, true), (12, true), (13, true), (14, true), (15, true), (10, false), (16, false), (17, false), (18, false), (19, true), (21, true), (22, true), (23, true), (24, true), (20, false), (25, false), (26, false), (27, false), (28, true), (30, true), (29, false), (31, false), (32, false), (33, false)] mixd ?q1 ?_); (case q1 => kernel_rfl)))))
                | refine w1 ?_
                | (refine w2 ?_ ?_ <;> intro hc)
                | (first | refine ⟨_, Yl_addU8 rfl rfl, ?_⟩)
                | (refine w4 ?_; (first | ((fail_if_success have := b1); intro b1) | intro _))
                | (refine w5 ?_; (first | ((fail_if_success have := A1); intro A1 c1) | ((fail_if_success have := A2); intro A2 c2) | ((fail_if_success have := A3); intro A3 c3) | intro _ _))
                | refine w3 ?_ ?_
                | fail_if_success skip)
            refine T.loop (α := Nat × List UInt8) (fun y => [(0, .slice A l.length c), (3, .pointer (some ⟨b, 0, none⟩)), (4, .pointer (some ⟨b1, 0, none⟩)), (5, .int .i64 (i : Int)), (6, .slice A3 ms.length c3), (7, .int .i64 (j : Int)), (8, .int .i64 (y.1 : Int))])
              (fun y => .row 5 1 (.slice nh.1 be.body.length nh.2) be.body.length (y.2.flatMap eU) :: bag (pre.map bA) :: bag (post.map bA) :: .row 27 5 (.slice A3 ms.length c3) ms.length (ns.flatMap mE) :: (xL b z1 xs s ++ yL b1 z2 ys s)) (fun y => y.1 ≤ be.body.length ∧ y.2.length = be.body.length) (fun y => be.body.length - y.1) (0, be.body) ?_ ?_ ?_ ?_
            · (repeat (first | exact Sub.nil | refine Sub.cons rfl ?_))
            · exact List.Sublist.refl _
            · exact ⟨Nat.zero_le _, rfl⟩
            · rintro ⟨k, zs⟩ ⟨hk, hzs⟩
              dsimp only at hk hzs ⊢
              by_cases hkl : k < be.body.length
              · obtain ⟨u, hu⟩ := some_of_lt (l := zs) (i := k) (by omega)
                have eZ : (zs.flatMap eU)[k * 1]? = some (.int .u8 (u.toNat : Int)) := enc_at eU_len hu (j := 0) (by decide)
                repeat' (first
                    | ((with_reducible refine is_load ?_); (first | ((refine' ⟨_, Yl_loadA_hp (vs := aE x) rfl ?qa ?qb ?ql ?qc, ?_⟩); (case qa => exact agg_of rfl); (case qb => exact fun _ hp => hp.rd ha fun _ => List.not_mem_nil); (case qc => exact eA); (case ql => rfl))))
                    | ((with_reducible refine is_build ?_); (first | refine ⟨_, Yl_build rfl o_build36, ?_⟩))
                    | ((with_reducible refine ie_store ?_); (first | ((refine' Ef_store_row1 rfl rfl ?q1 ?q2 ?q3 ?q4 (eU_set zs k _) ?_); (case q1 => rfl); (case q2 => exact siz_of rfl); (case q3 => (first | exact at0 | exact at1 | exact at2 | exact at3 | exact at4 | exact at5 | exact at6)); (case q4 => omega)) | ((refine' Ef_store_row1 rfl rfl ?q1 ?q2 ?q3 ?q4 (mE_set hn (-9)) ?_); (case q1 => rfl); (case q2 => exact siz_of rfl); (case q3 => (first | exact at0 | exact at1 | exact at2 | exact at3 | exact at4 | exact at5 | exact at6)); (case q4 => omega))))
                    | ((with_reducible refine ie_callf ?_); (first
                    | ((with_reducible refine g_call 10 ?_); (first | refine Ef_callP rfl rfl ent_10 (fun w hp => hg1 w (hp.rd ha fun _ => List.not_mem_nil)) ?_))
                    | ((with_reducible refine g_call 13 ?_); (first | (refine Ef_callN rfl rfl ent_13 (fun w _ => new_c w) ?_; rintro b)))
                    | ((with_reducible refine g_call 14 ?_); (first | (refine Ef_callXY [true, true, true, true, true, true] rfl rfl ent_14 rfl rfl rfl (fun w hp hp2 => hone w _ hp2 (hp.in_old hxi) (fun h => hp.outS [true, true, true, true, true, true] rfl (hxi.lt h) List.not_mem_nil)) ?_; intro z1 xs z2 ys hxs hys; have hl1 := len_map hxs; have hl2 := len_map hys)))
                    | ((with_reducible refine g_call 15 ?_); (first | ((refine' Ef_callP rfl rfl ent_15 (fun w hp => len_v b z1.1 xs.length z1.2 s w (hp.blkOf ?q1)) ?_); (case q1 => (repeat (first | exact .head _ | apply List.Mem.tail))))))
                    | ((with_reducible refine g_call 16 ?_); (first | ((refine' Ef_callP rfl rfl ent_16 (fun w hp => synced_v b z1.1 xs.length z1.2 s w (hp.blkOf ?q1)) ?_); (case q1 => (repeat (first | exact .head _ | apply List.Mem.tail))))))
                    | ((with_reducible refine g_call 17 ?_); (first | ((refine' Ef_callP rfl rfl ent_17 (fun w hp => stamp_v b z1.1 xs.length z1.2 s xs w (hp.lrRd ?q1) rfl ?q2 _ (congrArg Lg.stamp hxs) (hp.blkOf ?q3)) ?_); (case q1 => (repeat (first | exact .head _ | apply List.Mem.tail))); (case q2 => omega); (case q3 => (repeat (first | exact .head _ | apply List.Mem.tail))))))
                    | ((with_reducible refine g_call 18 ?_); (first | ((refine' Ef_callP rfl rfl ent_18 (fun w hp => rstamp_v b1 z2.1 ys.length z2.2 s ys w (hp.rowOf ?q1) rfl ?q2 _ (congrArg Lg.stamp hys) (hp.blkOf ?q3)) ?_); (case q1 => (repeat (first | exact .head _ | apply List.Mem.tail))); (case q2 => omega); (case q3 => (repeat (first | exact .head _ | apply List.Mem.tail))))))
                    | ((with_reducible refine g_call 19 ?_); (first | (((refine' Ef_callF rfl rfl ent_19 (fun w hp => all_q b z1.1 xs.length z1.2 s xs q hxs ?q1 w (hp.lrRd ?q2) rfl (hp.ins_bag ?q3) hqb (hp.blkOf ?q4) (hp.lrCap ?q5)) ?_); (case q1 => omega); (case q2 => (repeat (first | exact .head _ | apply List.Mem.tail))); (case q3 => (repeat (first | exact .head _ | apply List.Mem.tail))); (case q4 => (repeat (first | exact .head _ | apply List.Mem.tail))); (case q5 => (repeat (first | exact .head _ | apply List.Mem.tail)))); intro A3 c3 ms hms; have hl3 := len_map hms)))
                    | ((with_reducible refine g_call 20 ?_); (first | ((refine' Ef_callP rfl rfl ent_20 (fun w hp => rsames_v A3 c3 ms z2.1 z2.2 ys w (hp.rowOf ?q1) (hp.rowOf ?q2) (hp.ins_bag ?q3) (hp.ins_bag ?q4) ?q5 (fun x hx => Nat.le_trans (bodies_map hms hqb x hx) ?q6) true ?q7) ?_); (case q1 => (repeat (first | exact .head _ | apply List.Mem.tail))); (case q2 => (repeat (first | exact .head _ | apply List.Mem.tail))); (case q3 => (repeat (first | exact .head _ | apply List.Mem.tail))); (case q4 => (repeat (first | exact .head _ | apply List.Mem.tail))); (case q5 => omega); (case q6 => decide); (case q7 => rw [hms, hys]; simp))))))
                    | ((with_reducible refine g_draw ?_); (first | (((refine' T.draw2 [(0, true), (1, true), (2, true), (3, false), (4, false), (5, false), (6, false), (7, false), (8, false)] [(9, true), (11, true), (12, true), (13, true), (14, true), (15, true), (10, false), (16, false), (17, false), (18, false), (19, true), (21, true), (22, true), (23, true), (24, true), (20, false), (25, false), (26, false), (27, false), (28, true), (30, true), (29, false), (31, false), (32, false), (33, false)] mixd ?q1 ?_); (case q1 => kernel_rfl)))))
                    | refine w1 ?_
                    | (refine w2 ?_ ?_ <;> intro hc)
                    | (first | refine ⟨_, Yl_addU8 rfl rfl, ?_⟩)
                    | (refine w4 ?_; (first | ((fail_if_success have := b1); intro b1) | intro _))
                    | (refine w5 ?_; (first | ((fail_if_success have := A1); intro A1 c1) | ((fail_if_success have := A2); intro A2 c2) | ((fail_if_success have := A3); intro A3 c3) | intro _ _))
                    | refine w3 ?_ ?_
                    | fail_if_success skip)
                refine loopQ_n (k + 1, zs.set k (u + 1)) ?_ (List.Sublist.refl _) ⟨show k + 1 ≤ _ by omega, by rw [List.length_set]; exact hzs⟩ (show be.body.length - (k + 1) < be.body.length - k by omega)
                (repeat (first | exact Sub.nil | refine Sub.cons rfl ?_))
              · repeat' (first
                  | ((with_reducible refine is_load ?_); (first | ((refine' ⟨_, Yl_loadA_hp (vs := aE x) rfl ?qa ?qb ?ql ?qc, ?_⟩); (case qa => exact agg_of rfl); (case qb => exact fun _ hp => hp.rd ha fun _ => List.not_mem_nil); (case qc => exact eA); (case ql => rfl))))
                  | ((with_reducible refine is_build ?_); (first | refine ⟨_, Yl_build rfl o_build36, ?_⟩))
                  | ((with_reducible refine ie_store ?_); (first | ((refine' Ef_store_row1 rfl rfl ?q1 ?q2 ?q3 ?q4 (eU_set zs k _) ?_); (case q1 => rfl); (case q2 => exact siz_of rfl); (case q3 => (first | exact at0 | exact at1 | exact at2 | exact at3 | exact at4 | exact at5 | exact at6)); (case q4 => omega)) | ((refine' Ef_store_row1 rfl rfl ?q1 ?q2 ?q3 ?q4 (mE_set hn (-9)) ?_); (case q1 => rfl); (case q2 => exact siz_of rfl); (case q3 => (first | exact at0 | exact at1 | exact at2 | exact at3 | exact at4 | exact at5 | exact at6)); (case q4 => omega))))
                  | ((with_reducible refine ie_callf ?_); (first
                  | ((with_reducible refine g_call 10 ?_); (first | refine Ef_callP rfl rfl ent_10 (fun w hp => hg1 w (hp.rd ha fun _ => List.not_mem_nil)) ?_))
                  | ((with_reducible refine g_call 13 ?_); (first | (refine Ef_callN rfl rfl ent_13 (fun w _ => new_c w) ?_; rintro b)))
                  | ((with_reducible refine g_call 14 ?_); (first | (refine Ef_callXY [true, true, true, true, true, true] rfl rfl ent_14 rfl rfl rfl (fun w hp hp2 => hone w _ hp2 (hp.in_old hxi) (fun h => hp.outS [true, true, true, true, true, true] rfl (hxi.lt h) List.not_mem_nil)) ?_; intro z1 xs z2 ys hxs hys; have hl1 := len_map hxs; have hl2 := len_map hys)))
                  | ((with_reducible refine g_call 15 ?_); (first | ((refine' Ef_callP rfl rfl ent_15 (fun w hp => len_v b z1.1 xs.length z1.2 s w (hp.blkOf ?q1)) ?_); (case q1 => (repeat (first | exact .head _ | apply List.Mem.tail))))))
                  | ((with_reducible refine g_call 16 ?_); (first | ((refine' Ef_callP rfl rfl ent_16 (fun w hp => synced_v b z1.1 xs.length z1.2 s w (hp.blkOf ?q1)) ?_); (case q1 => (repeat (first | exact .head _ | apply List.Mem.tail))))))
                  | ((with_reducible refine g_call 17 ?_); (first | ((refine' Ef_callP rfl rfl ent_17 (fun w hp => stamp_v b z1.1 xs.length z1.2 s xs w (hp.lrRd ?q1) rfl ?q2 _ (congrArg Lg.stamp hxs) (hp.blkOf ?q3)) ?_); (case q1 => (repeat (first | exact .head _ | apply List.Mem.tail))); (case q2 => omega); (case q3 => (repeat (first | exact .head _ | apply List.Mem.tail))))))
                  | ((with_reducible refine g_call 18 ?_); (first | ((refine' Ef_callP rfl rfl ent_18 (fun w hp => rstamp_v b1 z2.1 ys.length z2.2 s ys w (hp.rowOf ?q1) rfl ?q2 _ (congrArg Lg.stamp hys) (hp.blkOf ?q3)) ?_); (case q1 => (repeat (first | exact .head _ | apply List.Mem.tail))); (case q2 => omega); (case q3 => (repeat (first | exact .head _ | apply List.Mem.tail))))))
                  | ((with_reducible refine g_call 19 ?_); (first | (((refine' Ef_callF rfl rfl ent_19 (fun w hp => all_q b z1.1 xs.length z1.2 s xs q hxs ?q1 w (hp.lrRd ?q2) rfl (hp.ins_bag ?q3) hqb (hp.blkOf ?q4) (hp.lrCap ?q5)) ?_); (case q1 => omega); (case q2 => (repeat (first | exact .head _ | apply List.Mem.tail))); (case q3 => (repeat (first | exact .head _ | apply List.Mem.tail))); (case q4 => (repeat (first | exact .head _ | apply List.Mem.tail))); (case q5 => (repeat (first | exact .head _ | apply List.Mem.tail)))); intro A3 c3 ms hms; have hl3 := len_map hms)))
                  | ((with_reducible refine g_call 20 ?_); (first | ((refine' Ef_callP rfl rfl ent_20 (fun w hp => rsames_v A3 c3 ms z2.1 z2.2 ys w (hp.rowOf ?q1) (hp.rowOf ?q2) (hp.ins_bag ?q3) (hp.ins_bag ?q4) ?q5 (fun x hx => Nat.le_trans (bodies_map hms hqb x hx) ?q6) true ?q7) ?_); (case q1 => (repeat (first | exact .head _ | apply List.Mem.tail))); (case q2 => (repeat (first | exact .head _ | apply List.Mem.tail))); (case q3 => (repeat (first | exact .head _ | apply List.Mem.tail))); (case q4 => (repeat (first | exact .head _ | apply List.Mem.tail))); (case q5 => omega); (case q6 => decide); (case q7 => rw [hms, hys]; simp))))))
                  | ((with_reducible refine g_draw ?_); (first | (((refine' T.draw2 [(0, true), (1, true), (2, true), (3, false), (4, false), (5, false), (6, false), (7, false), (8, false)] [(9, true), (11, true), (12, true), (13, true), (14, true), (15, true), (10, false), (16, false), (17, false), (18, false), (19, true), (21, true), (22, true), (23, true), (24, true), (20, false), (25, false), (26, false), (27, false), (28, true), (30, true), (29, false), (31, false), (32, false), (33, false)] mixd ?q1 ?_); (case q1 => kernel_rfl)))))
                  | refine w1 ?_
                  | (refine w2 ?_ ?_ <;> intro hc)
                  | (first | refine ⟨_, Yl_addU8 rfl rfl, ?_⟩)
                  | (refine w4 ?_; (first | ((fail_if_success have := b1); intro b1) | intro _))
                  | (refine w5 ?_; (first | ((fail_if_success have := A1); intro A1 c1) | ((fail_if_success have := A2); intro A2 c2) | ((fail_if_success have := A3); intro A3 c3) | intro _ _))
                  | refine w3 ?_ ?_
                  | fail_if_success skip)
                refine loopH_n (j + 1, ns.set j ({ ne with stamp := -9 }, nh), pre ++ ({ be with body := zs }, nh) :: post) ?_ ?_ ⟨show j + 1 ≤ _ by omega, (fo_set (y := ({ ne with stamp := -9 }, nh)) hn rfl).trans hns, hset zs hzs⟩ (show ms.length - (j + 1) < ms.length - j by omega)
                · (repeat (first | exact Sub.nil | refine Sub.cons rfl ?_))
                · intro w' hp
                  dsimp only
                  rw [List.map_append, List.map_cons]
                  have hp1 : Hp w [] (bA ({ be with body := zs }, nh) :: bag (pre.map bA) :: bag (post.map bA) :: .row 27 5 (.slice A3 ms.length c3) ms.length ((ns.set j ({ ne with stamp := -9 }, nh)).flatMap mE) :: (xL b z1 xs s ++ yL b1 z2 ys s)) w' := by
                    unfold bA
                    dsimp only
                    rw [hzs]
                    exact hp
                  exact hp1.bagBack.ofPart (by (repeat (first | exact Part.nil | refine Part.p0 ?_ | refine Part.p1 ?_ | refine Part.p2 ?_ | refine Part.p3 ?_ | refine Part.p4 ?_ | refine Part.p5 ?_ | refine Part.p6 ?_)))
          · repeat' (first
              | ((with_reducible refine is_load ?_); (first | ((refine' ⟨_, Yl_loadA_hp (vs := aE x) rfl ?qa ?qb ?ql ?qc, ?_⟩); (case qa => exact agg_of rfl); (case qb => exact fun _ hp => hp.rd ha fun _ => List.not_mem_nil); (case qc => exact eA); (case ql => rfl))))
              | ((with_reducible refine is_build ?_); (first | refine ⟨_, Yl_build rfl o_build36, ?_⟩))
              | ((with_reducible refine ie_store ?_); (first | ((refine' Ef_store_row1 rfl rfl ?q1 ?q2 ?q3 ?q4 (eU_set zs k _) ?_); (case q1 => rfl); (case q2 => exact siz_of rfl); (case q3 => (first | exact at0 | exact at1 | exact at2 | exact at3 | exact at4 | exact at5 | exact at6)); (case q4 => omega)) | ((refine' Ef_store_row1 rfl rfl ?q1 ?q2 ?q3 ?q4 (mE_set hn (-9)) ?_); (case q1 => rfl); (case q2 => exact siz_of rfl); (case q3 => (first | exact at0 | exact at1 | exact at2 | exact at3 | exact at4 | exact at5 | exact at6)); (case q4 => omega))))
              | ((with_reducible refine ie_callf ?_); (first
              | ((with_reducible refine g_call 10 ?_); (first | refine Ef_callP rfl rfl ent_10 (fun w hp => hg1 w (hp.rd ha fun _ => List.not_mem_nil)) ?_))
              | ((with_reducible refine g_call 13 ?_); (first | (refine Ef_callN rfl rfl ent_13 (fun w _ => new_c w) ?_; rintro b)))
              | ((with_reducible refine g_call 14 ?_); (first | (refine Ef_callXY [true, true, true, true, true, true] rfl rfl ent_14 rfl rfl rfl (fun w hp hp2 => hone w _ hp2 (hp.in_old hxi) (fun h => hp.outS [true, true, true, true, true, true] rfl (hxi.lt h) List.not_mem_nil)) ?_; intro z1 xs z2 ys hxs hys; have hl1 := len_map hxs; have hl2 := len_map hys)))
              | ((with_reducible refine g_call 15 ?_); (first | ((refine' Ef_callP rfl rfl ent_15 (fun w hp => len_v b z1.1 xs.length z1.2 s w (hp.blkOf ?q1)) ?_); (case q1 => (repeat (first | exact .head _ | apply List.Mem.tail))))))
              | ((with_reducible refine g_call 16 ?_); (first | ((refine' Ef_callP rfl rfl ent_16 (fun w hp => synced_v b z1.1 xs.length z1.2 s w (hp.blkOf ?q1)) ?_); (case q1 => (repeat (first | exact .head _ | apply List.Mem.tail))))))
              | ((with_reducible refine g_call 17 ?_); (first | ((refine' Ef_callP rfl rfl ent_17 (fun w hp => stamp_v b z1.1 xs.length z1.2 s xs w (hp.lrRd ?q1) rfl ?q2 _ (congrArg Lg.stamp hxs) (hp.blkOf ?q3)) ?_); (case q1 => (repeat (first | exact .head _ | apply List.Mem.tail))); (case q2 => omega); (case q3 => (repeat (first | exact .head _ | apply List.Mem.tail))))))
              | ((with_reducible refine g_call 18 ?_); (first | ((refine' Ef_callP rfl rfl ent_18 (fun w hp => rstamp_v b1 z2.1 ys.length z2.2 s ys w (hp.rowOf ?q1) rfl ?q2 _ (congrArg Lg.stamp hys) (hp.blkOf ?q3)) ?_); (case q1 => (repeat (first | exact .head _ | apply List.Mem.tail))); (case q2 => omega); (case q3 => (repeat (first | exact .head _ | apply List.Mem.tail))))))
              | ((with_reducible refine g_call 19 ?_); (first | (((refine' Ef_callF rfl rfl ent_19 (fun w hp => all_q b z1.1 xs.length z1.2 s xs q hxs ?q1 w (hp.lrRd ?q2) rfl (hp.ins_bag ?q3) hqb (hp.blkOf ?q4) (hp.lrCap ?q5)) ?_); (case q1 => omega); (case q2 => (repeat (first | exact .head _ | apply List.Mem.tail))); (case q3 => (repeat (first | exact .head _ | apply List.Mem.tail))); (case q4 => (repeat (first | exact .head _ | apply List.Mem.tail))); (case q5 => (repeat (first | exact .head _ | apply List.Mem.tail)))); intro A3 c3 ms hms; have hl3 := len_map hms)))
              | ((with_reducible refine g_call 20 ?_); (first | ((refine' Ef_callP rfl rfl ent_20 (fun w hp => rsames_v A3 c3 ms z2.1 z2.2 ys w (hp.rowOf ?q1) (hp.rowOf ?q2) (hp.ins_bag ?q3) (hp.ins_bag ?q4) ?q5 (fun x hx => Nat.le_trans (bodies_map hms hqb x hx) ?q6) true ?q7) ?_); (case q1 => (repeat (first | exact .head _ | apply List.Mem.tail))); (case q2 => (repeat (first | exact .head _ | apply List.Mem.tail))); (case q3 => (repeat (first | exact .head _ | apply List.Mem.tail))); (case q4 => (repeat (first | exact .head _ | apply List.Mem.tail))); (case q5 => omega); (case q6 => decide); (case q7 => rw [hms, hys]; simp))))))
              | ((with_reducible refine g_draw ?_); (first | (((refine' T.draw2 [(0, true), (1, true), (2, true), (3, false), (4, false), (5, false), (6, false), (7, false), (8, false)] [(9, true), (11, true), (12, true), (13, true), (14, true), (15, true), (10, false), (16, false), (17, false), (18, false), (19, true), (21, true), (22, true), (23, true), (24, true), (20, false), (25, false), (26, false), (27, false), (28, true), (30, true), (29, false), (31, false), (32, false), (33, false)] mixd ?q1 ?_); (case q1 => kernel_rfl)))))
              | refine w1 ?_
              | (refine w2 ?_ ?_ <;> intro hc)
              | (first | refine ⟨_, Yl_addU8 rfl rfl, ?_⟩)
              | (refine w4 ?_; (first | ((fail_if_success have := b1); intro b1) | intro _))
              | (refine w5 ?_; (first | ((fail_if_success have := A1); intro A1 c1) | ((fail_if_success have := A2); intro A2 c2) | ((fail_if_success have := A3); intro A3 c3) | intro _ _))
              | refine w3 ?_ ?_
              | fail_if_success skip)
            refine loopH_n (i + 1, (z1, xs), (z2, ys), s) ?_ (fun _ h => h.ofPart (by (repeat (first | exact Part.nil | refine Part.p0 ?_ | refine Part.p1 ?_ | refine Part.p2 ?_ | refine Part.p3 ?_ | refine Part.p4 ?_ | refine Part.p5 ?_ | refine Part.p6 ?_)))) ⟨show i + 1 ≤ _ by omega, hxs.trans hys.symm, by dsimp only; rw [List.length_map]; omega, by dsimp only; rw [hxs]; exact hqb⟩ (show l.length - (i + 1) < l.length - i by omega)
            (repeat (first | exact Sub.nil | refine Sub.cons rfl ?_))
      · repeat' (first
          | ((with_reducible refine is_load ?_); (first | ((refine' ⟨_, Yl_loadA_hp (vs := aE x) rfl ?qa ?qb ?ql ?qc, ?_⟩); (case qa => exact agg_of rfl); (case qb => exact fun _ hp => hp.rd ha fun _ => List.not_mem_nil); (case qc => exact eA); (case ql => rfl))))
          | ((with_reducible refine is_build ?_); (first | refine ⟨_, Yl_build rfl o_build36, ?_⟩))
          | ((with_reducible refine ie_store ?_); (first | ((refine' Ef_store_row1 rfl rfl ?q1 ?q2 ?q3 ?q4 (eU_set zs k _) ?_); (case q1 => rfl); (case q2 => exact siz_of rfl); (case q3 => (first | exact at0 | exact at1 | exact at2 | exact at3 | exact at4 | exact at5 | exact at6)); (case q4 => omega)) | ((refine' Ef_store_row1 rfl rfl ?q1 ?q2 ?q3 ?q4 (mE_set hn (-9)) ?_); (case q1 => rfl); (case q2 => exact siz_of rfl); (case q3 => (first | exact at0 | exact at1 | exact at2 | exact at3 | exact at4 | exact at5 | exact at6)); (case q4 => omega))))
          | ((with_reducible refine ie_callf ?_); (first
          | ((with_reducible refine g_call 10 ?_); (first | refine Ef_callP rfl rfl ent_10 (fun w hp => hg1 w (hp.rd ha fun _ => List.not_mem_nil)) ?_))
          | ((with_reducible refine g_call 13 ?_); (first | (refine Ef_callN rfl rfl ent_13 (fun w _ => new_c w) ?_; rintro b)))
          | ((with_reducible refine g_call 14 ?_); (first | (refine Ef_callXY [true, true, true, true, true, true] rfl rfl ent_14 rfl rfl rfl (fun w hp hp2 => hone w _ hp2 (hp.in_old hxi) (fun h => hp.outS [true, true, true, true, true, true] rfl (hxi.lt h) List.not_mem_nil)) ?_; intro z1 xs z2 ys hxs hys; have hl1 := len_map hxs; have hl2 := len_map hys)))
          | ((with_reducible refine g_call 15 ?_); (first | ((refine' Ef_callP rfl rfl ent_15 (fun w hp => len_v b z1.1 xs.length z1.2 s w (hp.blkOf ?q1)) ?_); (case q1 => (repeat (first | exact .head _ | apply List.Mem.tail))))))
          | ((with_reducible refine g_call 16 ?_); (first | ((refine' Ef_callP rfl rfl ent_16 (fun w hp => synced_v b z1.1 xs.length z1.2 s w (hp.blkOf ?q1)) ?_); (case q1 => (repeat (first | exact .head _ | apply List.Mem.tail))))))
          | ((with_reducible refine g_call 17 ?_); (first | ((refine' Ef_callP rfl rfl ent_17 (fun w hp => stamp_v b z1.1 xs.length z1.2 s xs w (hp.lrRd ?q1) rfl ?q2 _ (congrArg Lg.stamp hxs) (hp.blkOf ?q3)) ?_); (case q1 => (repeat (first | exact .head _ | apply List.Mem.tail))); (case q2 => omega); (case q3 => (repeat (first | exact .head _ | apply List.Mem.tail))))))
          | ((with_reducible refine g_call 18 ?_); (first | ((refine' Ef_callP rfl rfl ent_18 (fun w hp => rstamp_v b1 z2.1 ys.length z2.2 s ys w (hp.rowOf ?q1) rfl ?q2 _ (congrArg Lg.stamp hys) (hp.blkOf ?q3)) ?_); (case q1 => (repeat (first | exact .head _ | apply List.Mem.tail))); (case q2 => omega); (case q3 => (repeat (first | exact .head _ | apply List.Mem.tail))))))
          | ((with_reducible refine g_call 19 ?_); (first | (((refine' Ef_callF rfl rfl ent_19 (fun w hp => all_q b z1.1 xs.length z1.2 s xs q hxs ?q1 w (hp.lrRd ?q2) rfl (hp.ins_bag ?q3) hqb (hp.blkOf ?q4) (hp.lrCap ?q5)) ?_); (case q1 => omega); (case q2 => (repeat (first | exact .head _ | apply List.Mem.tail))); (case q3 => (repeat (first | exact .head _ | apply List.Mem.tail))); (case q4 => (repeat (first | exact .head _ | apply List.Mem.tail))); (case q5 => (repeat (first | exact .head _ | apply List.Mem.tail)))); intro A3 c3 ms hms; have hl3 := len_map hms)))
          | ((with_reducible refine g_call 20 ?_); (first | ((refine' Ef_callP rfl rfl ent_20 (fun w hp => rsames_v A3 c3 ms z2.1 z2.2 ys w (hp.rowOf ?q1) (hp.rowOf ?q2) (hp.ins_bag ?q3) (hp.ins_bag ?q4) ?q5 (fun x hx => Nat.le_trans (bodies_map hms hqb x hx) ?q6) true ?q7) ?_); (case q1 => (repeat (first | exact .head _ | apply List.Mem.tail))); (case q2 => (repeat (first | exact .head _ | apply List.Mem.tail))); (case q3 => (repeat (first | exact .head _ | apply List.Mem.tail))); (case q4 => (repeat (first | exact .head _ | apply List.Mem.tail))); (case q5 => omega); (case q6 => decide); (case q7 => rw [hms, hys]; simp))))))
          | ((with_reducible refine g_draw ?_); (first | (((refine' T.draw2 [(0, true), (1, true), (2, true), (3, false), (4, false), (5, false), (6, false), (7, false), (8, false)] [(9, true), (11, true), (12, true), (13, true), (14, true), (15, true), (10, false), (16, false), (17, false), (18, false), (19, true), (21, true), (22, true), (23, true), (24, true), (20, false), (25, false), (26, false), (27, false), (28, true), (30, true), (29, false), (31, false), (32, false), (33, false)] mixd ?q1 ?_); (case q1 => kernel_rfl)))))
          | refine w1 ?_
          | (refine w2 ?_ ?_ <;> intro hc)
          | (first | refine ⟨_, Yl_addU8 rfl rfl, ?_⟩)
          | (refine w4 ?_; (first | ((fail_if_success have := b1); intro b1) | intro _))
          | (refine w5 ?_; (first | ((fail_if_success have := A1); intro A1 c1) | ((fail_if_success have := A2); intro A2 c2) | ((fail_if_success have := A3); intro A3 c3) | intro _ _))
          | refine w3 ?_ ?_
          | fail_if_success skip)
        exact ret_n [] (res1 rfl rfl) (List.nil_sublist _) ⟨rfl, rfl⟩
  · rw [h1] at hg1
    refine Sp.enter (n := 93) Try.func4 rfl rfl rfl (Hp.refl w) ?_
    repeat' (first
        | ((with_reducible refine is_load ?_); (first | ((refine' ⟨_, Yl_loadA_hp (vs := aE x) rfl ?qa ?qb ?ql ?qc, ?_⟩); (case qa => exact agg_of rfl); (case qb => exact fun _ hp => hp.rd ha fun _ => List.not_mem_nil); (case qc => exact eA); (case ql => rfl))))
        | ((with_reducible refine is_build ?_); (first | refine ⟨_, Yl_build rfl o_build36, ?_⟩))
        | ((with_reducible refine ie_store ?_); (first | ((refine' Ef_store_row1 rfl rfl ?q1 ?q2 ?q3 ?q4 (eU_set zs k _) ?_); (case q1 => rfl); (case q2 => exact siz_of rfl); (case q3 => (first | exact at0 | exact at1 | exact at2 | exact at3 | exact at4 | exact at5 | exact at6)); (case q4 => omega)) | ((refine' Ef_store_row1 rfl rfl ?q1 ?q2 ?q3 ?q4 (mE_set hn (-9)) ?_); (case q1 => rfl); (case q2 => exact siz_of rfl); (case q3 => (first | exact at0 | exact at1 | exact at2 | exact at3 | exact at4 | exact at5 | exact at6)); (case q4 => omega))))
        | ((with_reducible refine ie_callf ?_); (first
        | ((with_reducible refine g_call 10 ?_); (first | refine Ef_callP rfl rfl ent_10 (fun w hp => hg1 w (hp.rd ha fun _ => List.not_mem_nil)) ?_))
        | ((with_reducible refine g_call 13 ?_); (first | (refine Ef_callN rfl rfl ent_13 (fun w _ => new_c w) ?_; rintro b)))
        | ((with_reducible refine g_call 14 ?_); (first | (refine Ef_callXY [true, true, true, true, true, true] rfl rfl ent_14 rfl rfl rfl (fun w hp hp2 => hone w _ hp2 (hp.in_old hxi) (fun h => hp.outS [true, true, true, true, true, true] rfl (hxi.lt h) List.not_mem_nil)) ?_; intro z1 xs z2 ys hxs hys; have hl1 := len_map hxs; have hl2 := len_map hys)))
        | ((with_reducible refine g_call 15 ?_); (first | ((refine' Ef_callP rfl rfl ent_15 (fun w hp => len_v b z1.1 xs.length z1.2 s w (hp.blkOf ?q1)) ?_); (case q1 => (repeat (first | exact .head _ | apply List.Mem.tail))))))
        | ((with_reducible refine g_call 16 ?_); (first | ((refine' Ef_callP rfl rfl ent_16 (fun w hp => synced_v b z1.1 xs.length z1.2 s w (hp.blkOf ?q1)) ?_); (case q1 => (repeat (first | exact .head _ | apply List.Mem.tail))))))
        | ((with_reducible refine g_call 17 ?_); (first | ((refine' Ef_callP rfl rfl ent_17 (fun w hp => stamp_v b z1.1 xs.length z1.2 s xs w (hp.lrRd ?q1) rfl ?q2 _ (congrArg Lg.stamp hxs) (hp.blkOf ?q3)) ?_); (case q1 => (repeat (first | exact .head _ | apply List.Mem.tail))); (case q2 => omega); (case q3 => (repeat (first | exact .head _ | apply List.Mem.tail))))))
        | ((with_reducible refine g_call 18 ?_); (first | ((refine' Ef_callP rfl rfl ent_18 (fun w hp => rstamp_v b1 z2.1 ys.length z2.2 s ys w (hp.rowOf ?q1) rfl ?q2 _ (congrArg Lg.stamp hys) (hp.blkOf ?q3)) ?_); (case q1 => (repeat (first | exact .head _ | apply List.Mem.tail))); (case q2 => omega); (case q3 => (repeat (first | exact .head _ | apply List.Mem.tail))))))
        | ((with_reducible refine g_call 19 ?_); (first | (((refine' Ef_callF rfl rfl ent_19 (fun w hp => all_q b z1.1 xs.length z1.2 s xs q hxs ?q1 w (hp.lrRd ?q2) rfl (hp.ins_bag ?q3) hqb (hp.blkOf ?q4) (hp.lrCap ?q5)) ?_); (case q1 => omega); (case q2 => (repeat (first | exact .head _ | apply List.Mem.tail))); (case q3 => (repeat (first | exact .head _ | apply List.Mem.tail))); (case q4 => (repeat (first | exact .head _ | apply List.Mem.tail))); (case q5 => (repeat (first | exact .head _ | apply List.Mem.tail)))); intro A3 c3 ms hms; have hl3 := len_map hms)))
        | ((with_reducible refine g_call 20 ?_); (first | ((refine' Ef_callP rfl rfl ent_20 (fun w hp => rsames_v A3 c3 ms z2.1 z2.2 ys w (hp.rowOf ?q1) (hp.rowOf ?q2) (hp.ins_bag ?q3) (hp.ins_bag ?q4) ?q5 (fun x hx => Nat.le_trans (bodies_map hms hqb x hx) ?q6) true ?q7) ?_); (case q1 => (repeat (first | exact .head _ | apply List.Mem.tail))); (case q2 => (repeat (first | exact .head _ | apply List.Mem.tail))); (case q3 => (repeat (first | exact .head _ | apply List.Mem.tail))); (case q4 => (repeat (first | exact .head _ | apply List.Mem.tail))); (case q5 => omega); (case q6 => decide); (case q7 => rw [hms, hys]; simp))))))
        | ((with_reducible refine g_draw ?_); (first | (((refine' T.draw2 [(0, true), (1, true), (2, true), (3, false), (4, false), (5, false), (6, false), (7, false), (8, false)] [(9, true), (11, true), (12, true), (13, true), (14, true), (15, true), (10, false), (16, false), (17, false), (18, false), (19, true), (21, true), (22, true), (23, true), (24, true), (20, false), (25, false), (26, false), (27, false), (28, true), (30, true), (29, false), (31, false), (32, false), (33, false)] mixd ?q1 ?_); (case q1 => kernel_rfl)))))
        | refine w1 ?_
        | (refine w2 ?_ ?_ <;> intro hc)
        | (first | refine ⟨_, Yl_addU8 rfl rfl, ?_⟩)
        | (refine w4 ?_; (first | ((fail_if_success have := b1); intro b1) | intro _))
        | (refine w5 ?_; (first | ((fail_if_success have := A1); intro A1 c1) | ((fail_if_success have := A2); intro A2 c2) | ((fail_if_success have := A3); intro A3 c3) | intro _ _))
        | refine w3 ?_ ?_
        | fail_if_success skip)
    exact ret_n [] (res1 rfl rfl) (List.nil_sublist _) ⟨rfl, rfl⟩
end
end Go.Proofs.Ytegaejbfhpigjaa
