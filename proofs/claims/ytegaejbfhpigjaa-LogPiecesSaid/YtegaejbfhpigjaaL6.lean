/- Law: From, piece by piece, is the whole log: what a call comes to. -/
import Derived.Test.YtegaejbfhpigjaaT15
import Derived.Test.YtegaejbfhpigjaaLi
namespace Go.Proofs.Ytegaejbfhpigjaa
open Go.RowKit
set_option maxRecDepth 20000

section
variable (A : Option Addr) (c : Nat) (l : List Ac) (w : World) (ha : Rd w A l.length 7 (l.flatMap aE)) (hia : Ins w (l.map (·.e))) (hle : l.length ≤ 140737488355328) (hlk : ∀ a ∈ l, a.e.1.body.length ≤ 140737488355328)
include ha hia hle hlk
set_option maxHeartbeats 8000000 in
theorem pieces_law (n : Int) : Sp Try.prog 6 [.slice A l.length c, .int .i64 n] w [] fun v N => v = .bool true ∧ N = [] := by
  have hg1 := fun w h => great_v A c l w h (by omega) hlk _ rfl
  by_cases h1 : Lg.great 0 l = false ∧ 1 ≤ n ∧ n ≤ 20
  · obtain ⟨h1, h0, h20⟩ := h1
    rw [h1] at hg1
    obtain ⟨g1, g2⟩ := Lg.great_no h1 (Nat.zero_le _)
    obtain ⟨N, rfl⟩ : ∃ N : Nat, n = (N : Int) := ⟨n.toNat, by omega⟩
    clear hlk h1
    refine Sp.enter (n := 89) Try.func6 rfl rfl rfl (Hp.refl w) ?_
    refine T.mem (fun _ h => h.bagNil) ?_
    refine T.row0e 27 5 ?_
    repeat' (first
        | ((with_reducible refine is_load ?_); (first | ((refine' ⟨_, Yl_loadA_hp (vs := aE x) rfl ?qa ?qb ?ql ?qc, ?_⟩); (case qa => exact agg_of rfl); (case qb => exact fun _ hp => hp.rd ha fun _ => List.not_mem_nil); (case qc => exact eA); (case ql => rfl))))
        | ((with_reducible refine ie_callf ?_); (first
        | ((with_reducible refine g_call 26 ?_); (first | refine Ef_callP rfl rfl ent_26 (fun w _ => awake_c w) ?_))
        | ((with_reducible refine g_call 10 ?_); (first | refine Ef_callP rfl rfl ent_10 (fun w hp => hg1 w (hp.rd ha fun _ => List.not_mem_nil)) ?_))
        | ((with_reducible refine g_call 13 ?_); (first | (refine Ef_callN rfl rfl ent_13 (fun w _ => new_c w) ?_; rintro b)))
        | ((with_reducible refine g_call 27 ?_); (first | (refine Ef_callX1 [true, true, true] rfl rfl ent_27 rfl rfl rfl (fun w hp hp2 => hdo w _ hp2 (hp.in_old hxi) (fun h => hp.outS [true, true, true] rfl (hxi.lt h) List.not_mem_nil)) ?_; intro z2 xs hxs)))
        | ((with_reducible refine g_call 15 ?_); (first | ((refine' Ef_callP rfl rfl ent_15 (fun w hp => len_v b z1.1 lx.length z1.2 s w (hp.blkOf ?q1)) ?_); (case q1 => (repeat (first | exact .head _ | apply List.Mem.tail))))))
        | ((with_reducible refine g_call 19 ?_); (first
        | (((refine' Ef_callF rfl rfl ent_19 (fun w hp => hpc w (hp.lrRd ?q1) (hp.ins_bag ?q2) (hp.blkOf ?q3) (hp.lrCap ?q4)) ?_); (case q1 => (repeat (first | exact .head _ | apply List.Mem.tail))); (case q2 => (repeat (first | exact .head _ | apply List.Mem.tail))); (case q3 => (repeat (first | exact .head _ | apply List.Mem.tail))); (case q4 => (repeat (first | exact .head _ | apply List.Mem.tail)))); intro A3 c3 ms hms; have hml := (len_map hms).trans hpl)
        | (((refine' Ef_callF rfl rfl ent_19 (fun w hp => all_q b z1.1 lx.length z1.2 s lx q hxs hql w (hp.lrRd ?q1) rfl (hp.ins_bag ?q2) hqb (hp.blkOf ?q3) (hp.lrCap ?q4)) ?_); (case q1 => (repeat (first | exact .head _ | apply List.Mem.tail))); (case q2 => (repeat (first | exact .head _ | apply List.Mem.tail))); (case q3 => (repeat (first | exact .head _ | apply List.Mem.tail))); (case q4 => (repeat (first | exact .head _ | apply List.Mem.tail)))); intro A4 c4 ns hns)
        | (((refine' Ef_callF rfl rfl ent_19 (fun w hp => from_q b z1.1 lx.length z1.2 s lx q hxs hql w (hp.lrRd ?q1) rfl (hp.ins_bag ?q2) hqb ((lx.length : Int) + 1) (N : Int) (hp.blkOf ?q3) (hp.lrCap ?q4)) ?_); (case q1 => (repeat (first | exact .head _ | apply List.Mem.tail))); (case q2 => (repeat (first | exact .head _ | apply List.Mem.tail))); (case q3 => (repeat (first | exact .head _ | apply List.Mem.tail))); (case q4 => (repeat (first | exact .head _ | apply List.Mem.tail)))); intro A5 c5 os hos; have ho0 : os.length = 0 := by rw [len_map hos, Lg.frm_no (by omega)]; rfl)
        | (((refine' Ef_callF rfl rfl ent_19 (fun w hp => from_q b z1.1 lx.length z1.2 s lx q hxs hql w (hp.lrRd ?q1) rfl (hp.ins_bag ?q2) hqb 0 (N : Int) (hp.blkOf ?q3) (hp.lrCap ?q4)) ?_); (case q1 => (repeat (first | exact .head _ | apply List.Mem.tail))); (case q2 => (repeat (first | exact .head _ | apply List.Mem.tail))); (case q3 => (repeat (first | exact .head _ | apply List.Mem.tail))); (case q4 => (repeat (first | exact .head _ | apply List.Mem.tail)))); intro A6 c6 ps hps; have hp0 : ps.length = 0 := by rw [len_map hps, Lg.frm_no (by omega)]; rfl)))
        | ((with_reducible refine g_call 20 ?_); (first | ((refine' Ef_callP rfl rfl ent_20 (fun w hp => rsames_v A1 c1 zs A4 c4 ns w (hp.rowOf ?q1) (hp.rowOf ?q2) (hp.ins_bag ?q3) (hp.ins_bag ?q4) ?q5 (fun x hx => Nat.le_trans (bodies_map has hqb x hx) ?q6) true ?q7) ?_); (case q1 => (repeat (first | exact .head _ | apply List.Mem.tail))); (case q2 => (repeat (first | exact .head _ | apply List.Mem.tail))); (case q3 => (repeat (first | exact .head _ | apply List.Mem.tail))); (case q4 => (repeat (first | exact .head _ | apply List.Mem.tail))); (case q5 => omega); (case q6 => decide); (case q7 => rw [has, hns]; simp))))))
        | (first | ((((refine' Ef_appG_row (xs := zs.flatMap mE) (news := ms.flatMap mE) rfl rfl rfl ?q1 ?q2 ?q3 (one_flat mE_one ms) ?q4 ?q5 ?_); (case q1 => exact app_of rfl); (case q2 => (first | exact at0 | exact at1 | exact at2 | exact at3 | exact at4 | exact at5 | exact at6)); (case q3 => (repeat (first | exact .head _ | apply List.Mem.tail))); (case q4 => omega); (case q5 => omega))); (first | ((fail_if_success have := A1); intro A1 c1) | ((fail_if_success have := A2); intro A2 c2) | ((fail_if_success have := A3); intro A3 c3) | ((fail_if_success have := A4); intro A4 c4) | ((fail_if_success have := A5); intro A5 c5) | ((fail_if_success have := A6); intro A6 c6) | intro _ _)))
        | refine w1 ?_
        | (refine w2 ?_ ?_ <;> intro hc)
        | (refine w4 ?_; (intro _))
        | (refine w5 ?_; (first | ((fail_if_success have := A1); intro A1 c1) | ((fail_if_success have := A2); intro A2 c2) | ((fail_if_success have := A3); intro A3 c3) | ((fail_if_success have := A4); intro A4 c4) | ((fail_if_success have := A5); intro A5 c5) | ((fail_if_success have := A6); intro A6 c6) | intro _ _))
        | refine w3 ?_ ?_
        | fail_if_success skip)
    refine T.loopM (α := Nat × (Hd × List Me) × Int) (fun z => [(0, .slice A l.length c), (1, .int .i64 (N : Int)), (5, .pointer (some ⟨b, 0, none⟩)), (6, .int .i64 (z.1 : Int))]) (fun z => xL b z.2.1.1 z.2.1.2 z.2.2 ++ [rM [] (none, 0), bag []])
      (fun z => z.1 ≤ l.length ∧ z.2.1.2.length ≤ z.1 ∧ (∀ x ∈ z.2.1.2.map (·.1), x.body.length ≤ 6000)) (fun z => l.length - z.1) (0, ((none, 0), []), 0) ?_ ?_ ?_ ?_
    · (repeat (first | exact Sub.nil | refine Sub.cons rfl ?_))
    · exact fun _ h => h.ofPart (by dsimp only [xL, rM]; (repeat (first | exact Part.nil | refine Part.p0 ?_ | refine Part.p1 ?_ | refine Part.p2 ?_ | refine Part.p3 ?_ | refine Part.p4 ?_ | refine Part.p5 ?_ | refine Part.p6 ?_)))
    · exact ⟨Nat.zero_le _, Nat.zero_le _, fun x hx => by simp at hx⟩
    · rintro ⟨i, ⟨z1, lx⟩, s⟩ ⟨hi, hqi, hqb⟩
      dsimp only at hi hqi hqb ⊢
      by_cases hlt : i < l.length
      · obtain ⟨x, hx⟩ := some_of_lt (l := l) (i := i) hlt
        have eA := enc_atA aE_len hx
        have hxi : In w x.e := hia _ (List.mem_map.2 ⟨x, mem_of_some hx, rfl⟩)
        have hx5 : x.e.1.body.length ≤ 6000 := Nat.le_trans (g2 x (mem_of_some hx)) (by decide)
        have hdo := fun w R hp h1 h2 => do_c b z1 lx s x w R hp (by omega) h1 h2 hx5
        have hsl := Lg.step_len x.kind x.n x.e.1 (lx.map (·.1)) s
        have hsb := Lg.step_mem (kind := x.kind) (n := x.n) (sy := s) hqb hx5
        rw [List.length_map] at hsl
        generalize Lg.step x.kind x.n x.e.1 (lx.map (·.1)) s = S at hdo hsl hsb
        obtain ⟨q', s'⟩ := S
        dsimp only at hdo hsl hsb
        repeat' (first
            | ((with_reducible refine is_load ?_); (first | ((refine' ⟨_, Yl_loadA_hp (vs := aE x) rfl ?qa ?qb ?ql ?qc, ?_⟩); (case qa => exact agg_of rfl); (case qb => exact fun _ hp => hp.rd ha fun _ => List.not_mem_nil); (case qc => exact eA); (case ql => rfl))))
            | ((with_reducible refine ie_callf ?_); (first
            | ((with_reducible refine g_call 26 ?_); (first | refine Ef_callP rfl rfl ent_26 (fun w _ => awake_c w) ?_))
            | ((with_reducible refine g_call 10 ?_); (first | refine Ef_callP rfl rfl ent_10 (fun w hp => hg1 w (hp.rd ha fun _ => List.not_mem_nil)) ?_))
            | ((with_reducible refine g_call 13 ?_); (first | (refine Ef_callN rfl rfl ent_13 (fun w _ => new_c w) ?_; rintro b)))
            | ((with_reducible refine g_call 27 ?_); (first | (refine Ef_callX1 [true, true, true] rfl rfl ent_27 rfl rfl rfl (fun w hp hp2 => hdo w _ hp2 (hp.in_old hxi) (fun h => hp.outS [true, true, true] rfl (hxi.lt h) List.not_mem_nil)) ?_; intro z2 xs hxs)))
            | ((with_reducible refine g_call 15 ?_); (first | ((refine' Ef_callP rfl rfl ent_15 (fun w hp => len_v b z1.1 lx.length z1.2 s w (hp.blkOf ?q1)) ?_); (case q1 => (repeat (first | exact .head _ | apply List.Mem.tail))))))
            | ((with_reducible refine g_call 19 ?_); (first
            | (((refine' Ef_callF rfl rfl ent_19 (fun w hp => hpc w (hp.lrRd ?q1) (hp.ins_bag ?q2) (hp.blkOf ?q3) (hp.lrCap ?q4)) ?_); (case q1 => (repeat (first | exact .head _ | apply List.Mem.tail))); (case q2 => (repeat (first | exact .head _ | apply List.Mem.tail))); (case q3 => (repeat (first | exact .head _ | apply List.Mem.tail))); (case q4 => (repeat (first | exact .head _ | apply List.Mem.tail)))); intro A3 c3 ms hms; have hml := (len_map hms).trans hpl)
            | (((refine' Ef_callF rfl rfl ent_19 (fun w hp => all_q b z1.1 lx.length z1.2 s lx q hxs hql w (hp.lrRd ?q1) rfl (hp.ins_bag ?q2) hqb (hp.blkOf ?q3) (hp.lrCap ?q4)) ?_); (case q1 => (repeat (first | exact .head _ | apply List.Mem.tail))); (case q2 => (repeat (first | exact .head _ | apply List.Mem.tail))); (case q3 => (repeat (first | exact .head _ | apply List.Mem.tail))); (case q4 => (repeat (first | exact .head _ | apply List.Mem.tail)))); intro A4 c4 ns hns)
            | (((refine' Ef_callF rfl rfl ent_19 (fun w hp => from_q b z1.1 lx.length z1.2 s lx q hxs hql w (hp.lrRd ?q1) rfl (hp.ins_bag ?q2) hqb ((lx.length : Int) + 1) (N : Int) (hp.blkOf ?q3) (hp.lrCap ?q4)) ?_); (case q1 => (repeat (first | exact .head _ | apply List.Mem.tail))); (case q2 => (repeat (first | exact .head _ | apply List.Mem.tail))); (case q3 => (repeat (first | exact .head _ | apply List.Mem.tail))); (case q4 => (repeat (first | exact .head _ | apply List.Mem.tail)))); intro A5 c5 os hos; have ho0 : os.length = 0 := by rw [len_map hos, Lg.frm_no (by omega)]; rfl)
            | (((refine' Ef_callF rfl rfl ent_19 (fun w hp => from_q b z1.1 lx.length z1.2 s lx q hxs hql w (hp.lrRd ?q1) rfl (hp.ins_bag ?q2) hqb 0 (N : Int) (hp.blkOf ?q3) (hp.lrCap ?q4)) ?_); (case q1 => (repeat (first | exact .head _ | apply List.Mem.tail))); (case q2 => (repeat (first | exact .head _ | apply List.Mem.tail))); (case q3 => (repeat (first | exact .head _ | apply List.Mem.tail))); (case q4 => (repeat (first | exact .head _ | apply List.Mem.tail)))); intro A6 c6 ps hps; have hp0 : ps.length = 0 := by rw [len_map hps, Lg.frm_no (by omega)]; rfl)))
            | ((with_reducible refine g_call 20 ?_); (first | ((refine' Ef_callP rfl rfl ent_20 (fun w hp => rsames_v A1 c1 zs A4 c4 ns w (hp.rowOf ?q1) (hp.rowOf ?q2) (hp.ins_bag ?q3) (hp.ins_bag ?q4) ?q5 (fun x hx => Nat.le_trans (bodies_map has hqb x hx) ?q6) true ?q7) ?_); (case q1 => (repeat (first | exact .head _ | apply List.Mem.tail))); (case q2 => (repeat (first | exact .head _ | apply List.Mem.tail))); (case q3 => (repeat (first | exact .head _ | apply List.Mem.tail))); (case q4 => (repeat (first | exact .head _ | apply List.Mem.tail))); (case q5 => omega); (case q6 => decide); (case q7 => rw [has, hns]; simp))))))
            | (first | ((((refine' Ef_appG_row (xs := zs.flatMap mE) (news := ms.flatMap mE) rfl rfl rfl ?q1 ?q2 ?q3 (one_flat mE_one ms) ?q4 ?q5 ?_); (case q1 => exact app_of rfl); (case q2 => (first | exact at0 | exact at1 | exact at2 | exact at3 | exact at4 | exact at5 | exact at6)); (case q3 => (repeat (first | exact .head _ | apply List.Mem.tail))); (case q4 => omega); (case q5 => omega))); (first | ((fail_if_success have := A1); intro A1 c1) | ((fail_if_success have := A2); intro A2 c2) | ((fail_if_success have := A3); intro A3 c3) | ((fail_if_success have := A4); intro A4 c4) | ((fail_if_success have := A5); intro A5 c5) | ((fail_if_success have := A6); intro A6 c6) | intro _ _)))
            | refine w1 ?_
            | (refine w2 ?_ ?_ <;> intro hc)
            | (refine w4 ?_; (intro _))
            | (refine w5 ?_; (first | ((fail_if_success have := A1); intro A1 c1) | ((fail_if_success have := A2); intro A2 c2) | ((fail_if_success have := A3); intro A3 c3) | ((fail_if_success have := A4); intro A4 c4) | ((fail_if_success have := A5); intro A5 c5) | ((fail_if_success have := A6); intro A6 c6) | intro _ _))
            | refine w3 ?_ ?_
            | fail_if_success skip)
        refine loopH_n (i + 1, (z2, xs), s') ?_ (fun _ h => h.ofPart (by (repeat (first | exact Part.nil | refine Part.p0 ?_ | refine Part.p1 ?_ | refine Part.p2 ?_ | refine Part.p3 ?_ | refine Part.p4 ?_ | refine Part.p5 ?_ | refine Part.p6 ?_)))) ⟨show i + 1 ≤ _ by omega, by dsimp only; rw [len_map hxs]; omega, by dsimp only; rw [hxs]; exact hsb⟩ (show l.length - (i + 1) < l.length - i by omega)
        (repeat (first | exact Sub.nil | refine Sub.cons rfl ?_))
      · obtain ⟨q, hxs⟩ : ∃ q, lx.map (·.1) = q := ⟨_, rfl⟩
        have hlx := len_map hxs
        rw [hxs] at hqb
        have hql : q.length ≤ 200 := by omega
        repeat' (first
            | ((with_reducible refine is_load ?_); (first | ((refine' ⟨_, Yl_loadA_hp (vs := aE x) rfl ?qa ?qb ?ql ?qc, ?_⟩); (case qa => exact agg_of rfl); (case qb => exact fun _ hp => hp.rd ha fun _ => List.not_mem_nil); (case qc => exact eA); (case ql => rfl))))
            | ((with_reducible refine ie_callf ?_); (first
            | ((with_reducible refine g_call 26 ?_); (first | refine Ef_callP rfl rfl ent_26 (fun w _ => awake_c w) ?_))
            | ((with_reducible refine g_call 10 ?_); (first | refine Ef_callP rfl rfl ent_10 (fun w hp => hg1 w (hp.rd ha fun _ => List.not_mem_nil)) ?_))
            | ((with_reducible refine g_call 13 ?_); (first | (refine Ef_callN rfl rfl ent_13 (fun w _ => new_c w) ?_; rintro b)))
            | ((with_reducible refine g_call 27 ?_); (first | (refine Ef_callX1 [true, true, true] rfl rfl ent_27 rfl rfl rfl (fun w hp hp2 => hdo w _ hp2 (hp.in_old hxi) (fun h => hp.outS [true, true, true] rfl (hxi.lt h) List.not_mem_nil)) ?_; intro z2 xs hxs)))
            | ((with_reducible refine g_call 15 ?_); (first | ((refine' Ef_callP rfl rfl ent_15 (fun w hp => len_v b z1.1 lx.length z1.2 s w (hp.blkOf ?q1)) ?_); (case q1 => (repeat (first | exact .head _ | apply List.Mem.tail))))))
            | ((with_reducible refine g_call 19 ?_); (first
            | (((refine' Ef_callF rfl rfl ent_19 (fun w hp => hpc w (hp.lrRd ?q1) (hp.ins_bag ?q2) (hp.blkOf ?q3) (hp.lrCap ?q4)) ?_); (case q1 => (repeat (first | exact .head _ | apply List.Mem.tail))); (case q2 => (repeat (first | exact .head _ | apply List.Mem.tail))); (case q3 => (repeat (first | exact .head _ | apply List.Mem.tail))); (case q4 => (repeat (first | exact .head _ | apply List.Mem.tail)))); intro A3 c3 ms hms; have hml := (len_map hms).trans hpl)
            | (((refine' Ef_callF rfl rfl ent_19 (fun w hp => all_q b z1.1 lx.length z1.2 s lx q hxs hql w (hp.lrRd ?q1) rfl (hp.ins_bag ?q2) hqb (hp.blkOf ?q3) (hp.lrCap ?q4)) ?_); (case q1 => (repeat (first | exact .head _ | apply List.Mem.tail))); (case q2 => (repeat (first | exact .head _ | apply List.Mem.tail))); (case q3 => (repeat (first | exact .head _ | apply List.Mem.tail))); (case q4 => (repeat (first | exact .head _ | apply List.Mem.tail)))); intro A4 c4 ns hns)
            | (((refine' Ef_callF rfl rfl ent_19 (fun w hp => from_q b z1.1 lx.length z1.2 s lx q hxs hql w (hp.lrRd ?q1) rfl (hp.ins_bag ?q2) hqb ((lx.length : Int) + 1) (N : Int) (hp.blkOf ?q3) (hp.lrCap ?q4)) ?_); (case q1 => (repeat (first | exact .head _ | apply List.Mem.tail))); (case q2 => (repeat (first | exact .head _ | apply List.Mem.tail))); (case q3 => (repeat (first | exact .head _ | apply List.Mem.tail))); (case q4 => (repeat (first | exact .head _ | apply List.Mem.tail)))); intro A5 c5 os hos; have ho0 : os.length = 0 := by rw [len_map hos, Lg.frm_no (by omega)]; rfl)
            | (((refine' Ef_callF rfl rfl ent_19 (fun w hp => from_q b z1.1 lx.length z1.2 s lx q hxs hql w (hp.lrRd ?q1) rfl (hp.ins_bag ?q2) hqb 0 (N : Int) (hp.blkOf ?q3) (hp.lrCap ?q4)) ?_); (case q1 => (repeat (first | exact .head _ | apply List.Mem.tail))); (case q2 => (repeat (first | exact .head _ | apply List.Mem.tail))); (case q3 => (repeat (first | exact .head _ | apply List.Mem.tail))); (case q4 => (repeat (first | exact .head _ | apply List.Mem.tail)))); intro A6 c6 ps hps; have hp0 : ps.length = 0 := by rw [len_map hps, Lg.frm_no (by omega)]; rfl)))
            | ((with_reducible refine g_call 20 ?_); (first | ((refine' Ef_callP rfl rfl ent_20 (fun w hp => rsames_v A1 c1 zs A4 c4 ns w (hp.rowOf ?q1) (hp.rowOf ?q2) (hp.ins_bag ?q3) (hp.ins_bag ?q4) ?q5 (fun x hx => Nat.le_trans (bodies_map has hqb x hx) ?q6) true ?q7) ?_); (case q1 => (repeat (first | exact .head _ | apply List.Mem.tail))); (case q2 => (repeat (first | exact .head _ | apply List.Mem.tail))); (case q3 => (repeat (first | exact .head _ | apply List.Mem.tail))); (case q4 => (repeat (first | exact .head _ | apply List.Mem.tail))); (case q5 => omega); (case q6 => decide); (case q7 => rw [has, hns]; simp))))))
            | (first | ((((refine' Ef_appG_row (xs := zs.flatMap mE) (news := ms.flatMap mE) rfl rfl rfl ?q1 ?q2 ?q3 (one_flat mE_one ms) ?q4 ?q5 ?_); (case q1 => exact app_of rfl); (case q2 => (first | exact at0 | exact at1 | exact at2 | exact at3 | exact at4 | exact at5 | exact at6)); (case q3 => (repeat (first | exact .head _ | apply List.Mem.tail))); (case q4 => omega); (case q5 => omega))); (first | ((fail_if_success have := A1); intro A1 c1) | ((fail_if_success have := A2); intro A2 c2) | ((fail_if_success have := A3); intro A3 c3) | ((fail_if_success have := A4); intro A4 c4) | ((fail_if_success have := A5); intro A5 c5) | ((fail_if_success have := A6); intro A6 c6) | intro _ _)))
            | refine w1 ?_
            | (refine w2 ?_ ?_ <;> intro hc)
            | (refine w4 ?_; (intro _))
            | (refine w5 ?_; (first | ((fail_if_success have := A1); intro A1 c1) | ((fail_if_success have := A2); intro A2 c2) | ((fail_if_success have := A3); intro A3 c3) | ((fail_if_success have := A4); intro A4 c4) | ((fail_if_success have := A5); intro A5 c5) | ((fail_if_success have := A6); intro A6 c6) | intro _ _))
            | refine w3 ?_ ?_
            | fail_if_success skip)
        refine T.loopM (α := Nat × Hd × List Me) (fun z => [(1, .int .i64 (N : Int)), (5, .pointer (some ⟨b, 0, none⟩)), (7, .slice z.2.1.1 z.2.2.length z.2.1.2), (8, .int .i64 ((z.1 + 1 : Nat) : Int))]) (fun z => rM z.2.2 z.2.1 :: bag (z.2.2.map bA) :: xL b z1 lx s) (fun z => z.1 ≤ lx.length + 20 ∧ z.2.2.map (·.1) = q.take z.1) (fun z => lx.length + 20 - z.1) (0, (none, 0), []) ?_ ?_ ?_ ?_
        · (repeat (first | exact Sub.nil | refine Sub.cons rfl ?_))
        · exact fun _ h => h.ofPart (by dsimp only [rM]; (repeat (first | exact Part.nil | refine Part.p0 ?_ | refine Part.p1 ?_ | refine Part.p2 ?_ | refine Part.p3 ?_ | refine Part.p4 ?_ | refine Part.p5 ?_ | refine Part.p6 ?_)))
        · exact ⟨Nat.zero_le _, by simp⟩
        · rintro ⟨j, ⟨A1, c1⟩, zs⟩ ⟨hj, has⟩
          dsimp only at hj has ⊢
          have hal : zs.length = min j q.length := by rw [len_map has, List.length_take]
          by_cases hjl : j < lx.length
          · have hpc := fun w h1 h2 h3 h4 => from_q b z1.1 lx.length z1.2 s lx q hxs hql w h1 rfl h2 hqb ((j + 1 : Nat) : Int) (N : Int) h3 h4
            have hpl := Lg.frm_piece_len q j N
            have htp := Lg.take_piece q j N
            repeat' (first
                | ((with_reducible refine is_load ?_); (first | ((refine' ⟨_, Yl_loadA_hp (vs := aE x) rfl ?qa ?qb ?ql ?qc, ?_⟩); (case qa => exact agg_of rfl); (case qb => exact fun _ hp => hp.rd ha fun _ => List.not_mem_nil); (case qc => exact eA); (case ql => rfl))))
                | ((with_reducible refine ie_callf ?_); (first
                | ((with_reducible refine g_call 26 ?_); (first | refine Ef_callP rfl rfl ent_26 (fun w _ => awake_c w) ?_))
                | ((with_reducible refine g_call 10 ?_); (first | refine Ef_callP rfl rfl ent_10 (fun w hp => hg1 w (hp.rd ha fun _ => List.not_mem_nil)) ?_))
                | ((with_reducible refine g_call 13 ?_); (first | (refine Ef_callN rfl rfl ent_13 (fun w _ => new_c w) ?_; rintro b)))
                | ((with_reducible refine g_call 27 ?_); (first | (refine Ef_callX1 [true, true, true] rfl rfl ent_27 rfl rfl rfl (fun w hp hp2 => hdo w _ hp2 (hp.in_old hxi) (fun h => hp.outS [true, true, true] rfl (hxi.lt h) List.not_mem_nil)) ?_; intro z2 xs hxs)))
                | ((with_reducible refine g_call 15 ?_); (first | ((refine' Ef_callP rfl rfl ent_15 (fun w hp => len_v b z1.1 lx.length z1.2 s w (hp.blkOf ?q1)) ?_); (case q1 => (repeat (first | exact .head _ | apply List.Mem.tail))))))
                | ((with_reducible refine g_call 19 ?_); (first
                | (((refine' Ef_callF rfl rfl ent_19 (fun w hp => hpc w (hp.lrRd ?q1) (hp.ins_bag ?q2) (hp.blkOf ?q3) (hp.lrCap ?q4)) ?_); (case q1 => (repeat (first | exact .head _ | apply List.Mem.tail))); (case q2 => (repeat (first | exact .head _ | apply List.Mem.tail))); (case q3 => (repeat (first | exact .head _ | apply List.Mem.tail))); (case q4 => (repeat (first | exact .head _ | apply List.Mem.tail)))); intro A3 c3 ms hms; have hml := (len_map hms).trans hpl)
                | (((refine' Ef_callF rfl rfl ent_19 (fun w hp => all_q b z1.1 lx.length z1.2 s lx q hxs hql w (hp.lrRd ?q1) rfl (hp.ins_bag ?q2) hqb (hp.blkOf ?q3) (hp.lrCap ?q4)) ?_); (case q1 => (repeat (first | exact .head _ | apply List.Mem.tail))); (case q2 => (repeat (first | exact .head _ | apply List.Mem.tail))); (case q3 => (repeat (first | exact .head _ | apply List.Mem.tail))); (case q4 => (repeat (first | exact .head _ | apply List.Mem.tail)))); intro A4 c4 ns hns)
                | (((refine' Ef_callF rfl rfl ent_19 (fun w hp => from_q b z1.1 lx.length z1.2 s lx q hxs hql w (hp.lrRd ?q1) rfl (hp.ins_bag ?q2) hqb ((lx.length : Int) + 1) (N : Int) (hp.blkOf ?q3) (hp.lrCap ?q4)) ?_); (case q1 => (repeat (first | exact .head _ | apply List.Mem.tail))); (case q2 => (repeat (first | exact .head _ | apply List.Mem.tail))); (case q3 => (repeat (first | exact .head _ | apply List.Mem.tail))); (case q4 => (repeat (first | exact .head _ | apply List.Mem.tail)))); intro A5 c5 os hos; have ho0 : os.length = 0 := by rw [len_map hos, Lg.frm_no (by omega)]; rfl)
                | (((refine' Ef_callF rfl rfl ent_19 (fun w hp => from_q b z1.1 lx.length z1.2 s lx q hxs hql w (hp.lrRd ?q1) rfl (hp.ins_bag ?q2) hqb 0 (N : Int) (hp.blkOf ?q3) (hp.lrCap ?q4)) ?_); (case q1 => (repeat (first | exact .head _ | apply List.Mem.tail))); (case q2 => (repeat (first | exact .head _ | apply List.Mem.tail))); (case q3 => (repeat (first | exact .head _ | apply List.Mem.tail))); (case q4 => (repeat (first | exact .head _ | apply List.Mem.tail)))); intro A6 c6 ps hps; have hp0 : ps.length = 0 := by rw [len_map hps, Lg.frm_no (by omega)]; rfl)))
                | ((with_reducible refine g_call 20 ?_); (first | ((refine' Ef_callP rfl rfl ent_20 (fun w hp => rsames_v A1 c1 zs A4 c4 ns w (hp.rowOf ?q1) (hp.rowOf ?q2) (hp.ins_bag ?q3) (hp.ins_bag ?q4) ?q5 (fun x hx => Nat.le_trans (bodies_map has hqb x hx) ?q6) true ?q7) ?_); (case q1 => (repeat (first | exact .head _ | apply List.Mem.tail))); (case q2 => (repeat (first | exact .head _ | apply List.Mem.tail))); (case q3 => (repeat (first | exact .head _ | apply List.Mem.tail))); (case q4 => (repeat (first | exact .head _ | apply List.Mem.tail))); (case q5 => omega); (case q6 => decide); (case q7 => rw [has, hns]; simp))))))
                | (first | ((((refine' Ef_appG_row (xs := zs.flatMap mE) (news := ms.flatMap mE) rfl rfl rfl ?q1 ?q2 ?q3 (one_flat mE_one ms) ?q4 ?q5 ?_); (case q1 => exact app_of rfl); (case q2 => (first | exact at0 | exact at1 | exact at2 | exact at3 | exact at4 | exact at5 | exact at6)); (case q3 => (repeat (first | exact .head _ | apply List.Mem.tail))); (case q4 => omega); (case q5 => omega))); (first | ((fail_if_success have := A1); intro A1 c1) | ((fail_if_success have := A2); intro A2 c2) | ((fail_if_success have := A3); intro A3 c3) | ((fail_if_success have := A4); intro A4 c4) | ((fail_if_success have := A5); intro A5 c5) | ((fail_if_success have := A6); intro A6 c6) | intro _ _)))
                | refine w1 ?_
                | (refine w2 ?_ ?_ <;> intro hc)
                | (refine w4 ?_; (intro _))
                | (refine w5 ?_; (first | ((fail_if_success have := A1); intro A1 c1) | ((fail_if_success have := A2); intro A2 c2) | ((fail_if_success have := A3); intro A3 c3) | ((fail_if_success have := A4); intro A4 c4) | ((fail_if_success have := A5); intro A5 c5) | ((fail_if_success have := A6); intro A6 c6) | intro _ _))
                | refine w3 ?_ ?_
                | fail_if_success skip)
            all_goals
              refine loopH_n (j + N, (A2, c2), zs ++ ms) ?_ ?_ ⟨show j + N ≤ _ by omega, by dsimp only; rw [List.map_append, has, hms, htp]⟩ (show lx.length + 20 - (j + N) < lx.length + 20 - j by omega)
              · dsimp only
                rw [List.length_append, show ((j + N + 1 : Nat) : Int) = ((j + 1 : Nat) : Int) + (N : Int) by omega]
                (repeat (first | exact Sub.nil | refine Sub.cons rfl ?_))
              · intro w' hp
                dsimp only
                have hp2 := (hp.ofPart (M' := bag (zs.map bA) :: bag (ms.map bA) :: .row 27 5 (.slice A2 (zs.length + ms.length) c2) (zs.length + ms.length) (zs.flatMap mE ++ ms.flatMap mE) :: xL b z1 lx s) (by (repeat (first | exact Part.nil | refine Part.p0 ?_ | refine Part.p1 ?_ | refine Part.p2 ?_ | refine Part.p3 ?_ | refine Part.p4 ?_ | refine Part.p5 ?_ | refine Part.p6 ?_)))).bagApp
                unfold rM
                rw [List.length_append, List.flatMap_append, List.map_append]
                exact hp2.ofPart (by (repeat (first | exact Part.nil | refine Part.p0 ?_ | refine Part.p1 ?_ | refine Part.p2 ?_ | refine Part.p3 ?_ | refine Part.p4 ?_ | refine Part.p5 ?_ | refine Part.p6 ?_)))
          · rw [List.take_of_length_le (by omega)] at has
            repeat' (first
                | ((with_reducible refine is_load ?_); (first | ((refine' ⟨_, Yl_loadA_hp (vs := aE x) rfl ?qa ?qb ?ql ?qc, ?_⟩); (case qa => exact agg_of rfl); (case qb => exact fun _ hp => hp.rd ha fun _ => List.not_mem_nil); (case qc => exact eA); (case ql => rfl))))
                | ((with_reducible refine ie_callf ?_); (first
                | ((with_reducible refine g_call 26 ?_); (first | refine Ef_callP rfl rfl ent_26 (fun w _ => awake_c w) ?_))
                | ((with_reducible refine g_call 10 ?_); (first | refine Ef_callP rfl rfl ent_10 (fun w hp => hg1 w (hp.rd ha fun _ => List.not_mem_nil)) ?_))
                | ((with_reducible refine g_call 13 ?_); (first | (refine Ef_callN rfl rfl ent_13 (fun w _ => new_c w) ?_; rintro b)))
                | ((with_reducible refine g_call 27 ?_); (first | (refine Ef_callX1 [true, true, true] rfl rfl ent_27 rfl rfl rfl (fun w hp hp2 => hdo w _ hp2 (hp.in_old hxi) (fun h => hp.outS [true, true, true] rfl (hxi.lt h) List.not_mem_nil)) ?_; intro z2 xs hxs)))
                | ((with_reducible refine g_call 15 ?_); (first | ((refine' Ef_callP rfl rfl ent_15 (fun w hp => len_v b z1.1 lx.length z1.2 s w (hp.blkOf ?q1)) ?_); (case q1 => (repeat (first | exact .head _ | apply List.Mem.tail))))))
                | ((with_reducible refine g_call 19 ?_); (first
                | (((refine' Ef_callF rfl rfl ent_19 (fun w hp => hpc w (hp.lrRd ?q1) (hp.ins_bag ?q2) (hp.blkOf ?q3) (hp.lrCap ?q4)) ?_); (case q1 => (repeat (first | exact .head _ | apply List.Mem.tail))); (case q2 => (repeat (first | exact .head _ | apply List.Mem.tail))); (case q3 => (repeat (first | exact .head _ | apply List.Mem.tail))); (case q4 => (repeat (first | exact .head _ | apply List.Mem.tail)))); intro A3 c3 ms hms; have hml := (len_map hms).trans hpl)
                | (((refine' Ef_callF rfl rfl ent_19 (fun w hp => all_q b z1.1 lx.length z1.2 s lx q hxs hql w (hp.lrRd ?q1) rfl (hp.ins_bag ?q2) hqb (hp.blkOf ?q3) (hp.lrCap ?q4)) ?_); (case q1 => (repeat (first | exact .head _ | apply List.Mem.tail))); (case q2 => (repeat (first | exact .head _ | apply List.Mem.tail))); (case q3 => (repeat (first | exact .head _ | apply List.Mem.tail))); (case q4 => (repeat (first | exact .head _ | apply List.Mem.tail)))); intro A4 c4 ns hns)
                | (((refine' Ef_callF rfl rfl ent_19 (fun w hp => from_q b z1.1 lx.length z1.2 s lx q hxs hql w (hp.lrRd ?q1) rfl (hp.ins_bag ?q2) hqb ((lx.length : Int) + 1) (N : Int) (hp.blkOf ?q3) (hp.lrCap ?q4)) ?_); (case q1 => (repeat (first | exact .head _ | apply List.Mem.tail))); (case q2 => (repeat (first | exact .head _ | apply List.Mem.tail))); (case q3 => (repeat (first | exact .head _ | apply List.Mem.tail))); (case q4 => (repeat (first | exact .head _ | apply List.Mem.tail)))); intro A5 c5 os hos; have ho0 : os.length = 0 := by rw [len_map hos, Lg.frm_no (by omega)]; rfl)
                | (((refine' Ef_callF rfl rfl ent_19 (fun w hp => from_q b z1.1 lx.length z1.2 s lx q hxs hql w (hp.lrRd ?q1) rfl (hp.ins_bag ?q2) hqb 0 (N : Int) (hp.blkOf ?q3) (hp.lrCap ?q4)) ?_); (case q1 => (repeat (first | exact .head _ | apply List.Mem.tail))); (case q2 => (repeat (first | exact .head _ | apply List.Mem.tail))); (case q3 => (repeat (first | exact .head _ | apply List.Mem.tail))); (case q4 => (repeat (first | exact .head _ | apply List.Mem.tail)))); intro A6 c6 ps hps; have hp0 : ps.length = 0 := by rw [len_map hps, Lg.frm_no (by omega)]; rfl)))
                | ((with_reducible refine g_call 20 ?_); (first | ((refine' Ef_callP rfl rfl ent_20 (fun w hp => rsames_v A1 c1 zs A4 c4 ns w (hp.rowOf ?q1) (hp.rowOf ?q2) (hp.ins_bag ?q3) (hp.ins_bag ?q4) ?q5 (fun x hx => Nat.le_trans (bodies_map has hqb x hx) ?q6) true ?q7) ?_); (case q1 => (repeat (first | exact .head _ | apply List.Mem.tail))); (case q2 => (repeat (first | exact .head _ | apply List.Mem.tail))); (case q3 => (repeat (first | exact .head _ | apply List.Mem.tail))); (case q4 => (repeat (first | exact .head _ | apply List.Mem.tail))); (case q5 => omega); (case q6 => decide); (case q7 => rw [has, hns]; simp))))))
                | (first | ((((refine' Ef_appG_row (xs := zs.flatMap mE) (news := ms.flatMap mE) rfl rfl rfl ?q1 ?q2 ?q3 (one_flat mE_one ms) ?q4 ?q5 ?_); (case q1 => exact app_of rfl); (case q2 => (first | exact at0 | exact at1 | exact at2 | exact at3 | exact at4 | exact at5 | exact at6)); (case q3 => (repeat (first | exact .head _ | apply List.Mem.tail))); (case q4 => omega); (case q5 => omega))); (first | ((fail_if_success have := A1); intro A1 c1) | ((fail_if_success have := A2); intro A2 c2) | ((fail_if_success have := A3); intro A3 c3) | ((fail_if_success have := A4); intro A4 c4) | ((fail_if_success have := A5); intro A5 c5) | ((fail_if_success have := A6); intro A6 c6) | intro _ _)))
                | refine w1 ?_
                | (refine w2 ?_ ?_ <;> intro hc)
                | (refine w4 ?_; (intro _))
                | (refine w5 ?_; (first | ((fail_if_success have := A1); intro A1 c1) | ((fail_if_success have := A2); intro A2 c2) | ((fail_if_success have := A3); intro A3 c3) | ((fail_if_success have := A4); intro A4 c4) | ((fail_if_success have := A5); intro A5 c5) | ((fail_if_success have := A6); intro A6 c6) | intro _ _))
                | refine w3 ?_ ?_
                | fail_if_success skip)
            exact ret_n [] (res1 rfl rfl) (List.nil_sublist _) ⟨rfl, rfl⟩
  · have h2 : Lg.great 0 l = true ∨ (Lg.great 0 l = false ∧ n < 1) ∨ (Lg.great 0 l = false ∧ ¬ n < 1 ∧ 20 < n) := by
      cases hg : Lg.great 0 l
      · right
        have : ¬ (1 ≤ n ∧ n ≤ 20) := fun h => h1 ⟨hg, h⟩
        rcases Int.lt_or_le n 1 with h | h
        · exact .inl ⟨rfl, h⟩
        · exact .inr ⟨rfl, by omega, by omega⟩
      · exact .inl rfl
    rcases h2 with h2 | ⟨h2, h3⟩ | ⟨h2, h3, h4⟩
    all_goals
      rw [h2] at hg1
      refine Sp.enter (n := 89) Try.func6 rfl rfl rfl (Hp.refl w) ?_
      repeat' (first
          | ((with_reducible refine is_load ?_); (first | ((refine' ⟨_, Yl_loadA_hp (vs := aE x) rfl ?qa ?qb ?ql ?qc, ?_⟩); (case qa => exact agg_of rfl); (case qb => exact fun _ hp => hp.rd ha fun _ => List.not_mem_nil); (case qc => exact eA); (case ql => rfl))))
          | ((with_reducible refine ie_callf ?_); (first
          | ((with_reducible refine g_call 26 ?_); (first | refine Ef_callP rfl rfl ent_26 (fun w _ => awake_c w) ?_))
          | ((with_reducible refine g_call 10 ?_); (first | refine Ef_callP rfl rfl ent_10 (fun w hp => hg1 w (hp.rd ha fun _ => List.not_mem_nil)) ?_))
          | ((with_reducible refine g_call 13 ?_); (first | (refine Ef_callN rfl rfl ent_13 (fun w _ => new_c w) ?_; rintro b)))
          | ((with_reducible refine g_call 27 ?_); (first | (refine Ef_callX1 [true, true, true] rfl rfl ent_27 rfl rfl rfl (fun w hp hp2 => hdo w _ hp2 (hp.in_old hxi) (fun h => hp.outS [true, true, true] rfl (hxi.lt h) List.not_mem_nil)) ?_; intro z2 xs hxs)))
          | ((with_reducible refine g_call 15 ?_); (first | ((refine' Ef_callP rfl rfl ent_15 (fun w hp => len_v b z1.1 lx.length z1.2 s w (hp.blkOf ?q1)) ?_); (case q1 => (repeat (first | exact .head _ | apply List.Mem.tail))))))
          | ((with_reducible refine g_call 19 ?_); (first
          | (((refine' Ef_callF rfl rfl ent_19 (fun w hp => hpc w (hp.lrRd ?q1) (hp.ins_bag ?q2) (hp.blkOf ?q3) (hp.lrCap ?q4)) ?_); (case q1 => (repeat (first | exact .head _ | apply List.Mem.tail))); (case q2 => (repeat (first | exact .head _ | apply List.Mem.tail))); (case q3 => (repeat (first | exact .head _ | apply List.Mem.tail))); (case q4 => (repeat (first | exact .head _ | apply List.Mem.tail)))); intro A3 c3 ms hms; have hml := (len_map hms).trans hpl)
          | (((refine' Ef_callF rfl rfl ent_19 (fun w hp => all_q b z1.1 lx.length z1.2 s lx q hxs hql w (hp.lrRd ?q1) rfl (hp.ins_bag ?q2) hqb (hp.blkOf ?q3) (hp.lrCap ?q4)) ?_); (case q1 => (repeat (first | exact .head _ | apply List.Mem.tail))); (case q2 => (repeat (first | exact .head _ | apply List.Mem.tail))); (case q3 => (repeat (first | exact .head _ | apply List.Mem.tail))); (case q4 => (repeat (first | exact .head _ | apply List.Mem.tail)))); intro A4 c4 ns hns)
          | (((refine' Ef_callF rfl rfl ent_19 (fun w hp => from_q b z1.1 lx.length z1.2 s lx q hxs hql w (hp.lrRd ?q1) rfl (hp.ins_bag ?q2) hqb ((lx.length : Int) + 1) (N : Int) (hp.blkOf ?q3) (hp.lrCap ?q4)) ?_); (case q1 => (repeat (first | exact .head _ | apply List.Mem.tail))); (case q2 => (repeat (first | exact .head _ | apply List.Mem.tail))); (case q3 => (repeat (first | exact .head _ | apply List.Mem.tail))); (case q4 => (repeat (first | exact .head _ | apply List.Mem.tail)))); intro A5 c5 os hos; have ho0 : os.length = 0 := by rw [len_map hos, Lg.frm_no (by omega)]; rfl)
          | (((refine' Ef_callF rfl rfl ent_19 (fun w hp => from_q b z1.1 lx.length z1.2 s lx q hxs hql w (hp.lrRd ?q1) rfl (hp.ins_bag ?q2) hqb 0 (N : Int) (hp.blkOf ?q3) (hp.lrCap ?q4)) ?_); (case q1 => (repeat (first | exact .head _ | apply List.Mem.tail))); (case q2 => (repeat (first | exact .head _ | apply List.Mem.tail))); (case q3 => (repeat (first | exact .head _ | apply List.Mem.tail))); (case q4 => (repeat (first | exact .head _ | apply List.Mem.tail)))); intro A6 c6 ps hps; have hp0 : ps.length = 0 := by rw [len_map hps, Lg.frm_no (by omega)]; rfl)))
          | ((with_reducible refine g_call 20 ?_); (first | ((refine' Ef_callP rfl rfl ent_20 (fun w hp => rsames_v A1 c1 zs A4 c4 ns w (hp.rowOf ?q1) (hp.rowOf ?q2) (hp.ins_bag ?q3) (hp.ins_bag ?q4) ?q5 (fun x hx => Nat.le_trans (bodies_map has hqb x hx) ?q6) true ?q7) ?_); (case q1 => (repeat (first | exact .head _ | apply List.Mem.tail))); (case q2 => (repeat (first | exact .head _ | apply List.Mem.tail))); (case q3 => (repeat (first | exact .head _ | apply List.Mem.tail))); (case q4 => (repeat (first | exact .head _ | apply List.Mem.tail))); (case q5 => omega); (case q6 => decide); (case q7 => rw [has, hns]; simp))))))
          | (first | ((((refine' Ef_appG_row (xs := zs.flatMap mE) (news := ms.flatMap mE) rfl rfl rfl ?q1 ?q2 ?q3 (one_flat mE_one ms) ?q4 ?q5 ?_); (case q1 => exact app_of rfl); (case q2 => (first | exact at0 | exact at1 | exact at2 | exact at3 | exact at4 | exact at5 | exact at6)); (case q3 => (repeat (first | exact .head _ | apply List.Mem.tail))); (case q4 => omega); (case q5 => omega))); (first | ((fail_if_success have := A1); intro A1 c1) | ((fail_if_success have := A2); intro A2 c2) | ((fail_if_success have := A3); intro A3 c3) | ((fail_if_success have := A4); intro A4 c4) | ((fail_if_success have := A5); intro A5 c5) | ((fail_if_success have := A6); intro A6 c6) | intro _ _)))
          | refine w1 ?_
          | (refine w2 ?_ ?_ <;> intro hc)
          | (refine w4 ?_; (intro _))
          | (refine w5 ?_; (first | ((fail_if_success have := A1); intro A1 c1) | ((fail_if_success have := A2); intro A2 c2) | ((fail_if_success have := A3); intro A3 c3) | ((fail_if_success have := A4); intro A4 c4) | ((fail_if_success have := A5); intro A5 c5) | ((fail_if_success have := A6); intro A6 c6) | intro _ _))
          | refine w3 ?_ ?_
          | fail_if_success skip)
      exact ret_n [] (res1 rfl rfl) (List.nil_sublist _) ⟨rfl, rfl⟩
end
end Go.Proofs.Ytegaejbfhpigjaa
