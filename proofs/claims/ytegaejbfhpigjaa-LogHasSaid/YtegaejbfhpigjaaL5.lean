/- Law: a client's id is there behind a position just if one of the entries behind it has it: what a call comes to. -/
import Derived.Test.YtegaejbfhpigjaaT15
import Derived.Test.YtegaejbfhpigjaaLi
namespace Go.Proofs.Ytegaejbfhpigjaa
open Go.RowKit
set_option maxRecDepth 20000

section
variable (A : Option Addr) (c : Nat) (l : List Ac) (w : World) (ha : Rd w A l.length 7 (l.flatMap aE)) (hia : Ins w (l.map (·.e))) (hle : l.length ≤ 140737488355328) (hlk : ∀ a ∈ l, a.e.1.body.length ≤ 140737488355328)
include ha hia hle hlk
set_option maxHeartbeats 8000000 in
theorem has_law (client id bh : Int) : Sp Try.prog 8 [.slice A l.length c, .int .i64 client, .int .i64 id, .int .i64 bh] w [] fun v N => v = .bool true ∧ N = [] := by
  have hg1 := fun w h => great_v A c l w h (by omega) hlk _ rfl
  by_cases h1 : Lg.great 0 l = false ∧ 0 ≤ bh
  · obtain ⟨h1, h0⟩ := h1
    rw [h1] at hg1
    obtain ⟨g1, g2⟩ := Lg.great_no h1 (Nat.zero_le _)
    obtain ⟨B, rfl⟩ : ∃ B : Nat, bh = (B : Int) := ⟨bh.toNat, by omega⟩
    clear hlk h1
    refine Sp.enter (n := 75) Try.func8 rfl rfl rfl (Hp.refl w) ?_
    repeat' (first
        | ((with_reducible refine is_load ?_); (first | ((refine' ⟨_, Yl_loadA_hp (vs := aE x) rfl ?qa ?qb ?ql ?qc, ?_⟩); (case qa => exact agg_of rfl); (case qb => exact fun _ hp => hp.rd ha fun _ => List.not_mem_nil); (case qc => exact eA); (case ql => rfl))))
        | ((with_reducible refine ie_store ?_); (first | ((refine' Ef_storeA' rfl rfl ?q1 (mE_one _) ?q2 ?q3 ?_); (case q1 => exact siz_of rfl); (case q2 => (first | exact at0 | exact at1 | exact at2 | exact at3 | exact at4 | exact at5 | exact at6)); (case q3 => rfl))))
        | ((with_reducible refine ie_callf ?_); (first
        | ((with_reducible refine g_call 26 ?_); (first | refine Ef_callP rfl rfl ent_26 (fun w _ => awake_c w) ?_))
        | ((with_reducible refine g_call 10 ?_); (first | refine Ef_callP rfl rfl ent_10 (fun w hp => hg1 w (hp.rd ha fun _ => List.not_mem_nil)) ?_))
        | ((with_reducible refine g_call 13 ?_); (first | (refine Ef_callN rfl rfl ent_13 (fun w _ => new_c w) ?_; rintro b)))
        | ((with_reducible refine g_call 27 ?_); (first | (refine Ef_callX1 [true, true, true] rfl rfl ent_27 rfl rfl rfl (fun w hp hp2 => hdo w _ hp2 (hp.in_old hxi) (fun h => hp.outS [true, true, true] rfl (hxi.lt h) List.not_mem_nil)) ?_; intro z2 xs hxs)))
        | ((with_reducible refine g_call 15 ?_); (first | ((refine' Ef_callP rfl rfl ent_15 (fun w hp => len_v b z1.1 lx.length z1.2 s w (hp.blkOf ?q1)) ?_); (case q1 => (repeat (first | exact .head _ | apply List.Mem.tail))))))
        | ((with_reducible refine g_call 21 ?_); (first | (((refine' Ef_callN rfl rfl ent_21 (fun w hp => hat w (hp.lrRd ?q1) (hp.ins_bag ?q2) (hp.blkOf ?q3) (hp.lrCap ?q4)) ?_); (case q1 => (repeat (first | exact .head _ | apply List.Mem.tail))); (case q2 => (repeat (first | exact .head _ | apply List.Mem.tail))); (case q3 => (repeat (first | exact .head _ | apply List.Mem.tail))); (case q4 => (repeat (first | exact .head _ | apply List.Mem.tail)))); rintro ⟨A1, c1⟩)))
        | ((with_reducible refine g_call 24 ?_); (first | ((refine' Ef_callP rfl rfl ent_24 (fun w hp => hhas w (hp.lrRd ?q1) (hp.blkOf ?q2) (hp.lrCap ?q3)) ?_); (case q1 => (repeat (first | exact .head _ | apply List.Mem.tail))); (case q2 => (repeat (first | exact .head _ | apply List.Mem.tail))); (case q3 => (repeat (first | exact .head _ | apply List.Mem.tail))))))))
        | refine w1 ?_
        | (refine w2 ?_ ?_ <;> intro hc)
        | (refine w4 ?_; (intro _))
        | (refine w5 ?_; (first | ((fail_if_success have := A1); intro A1 c1) | ((fail_if_success have := A2); intro A2 c2) | ((fail_if_success have := A3); intro A3 c3) | intro _ _))
        | refine w3 ?_ ?_
        | fail_if_success skip)
    refine T.loopM (α := Nat × (Hd × List Me) × Int) (fun z => [(0, .slice A l.length c), (1, .int .i64 client), (2, .int .i64 id), (3, .int .i64 (B : Int)), (9, .pointer (some ⟨b, 0, none⟩)), (10, .int .i64 (z.1 : Int))]) (fun z => xL b z.2.1.1 z.2.1.2 z.2.2)
      (fun z => z.1 ≤ l.length ∧ z.2.1.2.length ≤ z.1 ∧ (∀ x ∈ z.2.1.2.map (·.1), x.body.length ≤ 6000)) (fun z => l.length - z.1) (0, ((none, 0), []), 0) ?_ ?_ ?_ ?_
    · (repeat (first | exact Sub.nil | refine Sub.cons rfl ?_))
    · exact fun _ h => h
    · exact ⟨Nat.zero_le _, Nat.zero_le _, fun x hx => by simp at hx⟩
    · rintro ⟨i, ⟨z1, lx⟩, s⟩ ⟨hi, hqi, hqb⟩
      dsimp only at hi hqi hqb ⊢
      by_cases hlt : i < l.length
      · obtain ⟨x, hx⟩ := some_of_lt (l := l) (i := i) hlt
        have eA := enc_atA aE_len hx
        have hxi : In w x.e := hia _ (List.mem_map.2 ⟨x, mem_of_some hx, rfl⟩)
        have hx5 : x.e.1.body.length ≤ 6000 := Nat.le_trans (g2 x (mem_of_some hx)) (by decide)
        have hdo := fun w R hp h1 h2 => do_c b z1 lx s x w R hp (by omega) h1 h2 hx5
        have hsl := Lg.step_len x.kind x.n x.e.1 (lx.map (·.1)) s
        have hsb := Lg.step_mem (kind := x.kind) (n := x.n) (sy := s) hqb hx5
        rw [List.length_map] at hsl
        generalize Lg.step x.kind x.n x.e.1 (lx.map (·.1)) s = S at hdo hsl hsb
        obtain ⟨q', s'⟩ := S
        dsimp only at hdo hsl hsb
        repeat' (first
            | ((with_reducible refine is_load ?_); (first | ((refine' ⟨_, Yl_loadA_hp (vs := aE x) rfl ?qa ?qb ?ql ?qc, ?_⟩); (case qa => exact agg_of rfl); (case qb => exact fun _ hp => hp.rd ha fun _ => List.not_mem_nil); (case qc => exact eA); (case ql => rfl))))
            | ((with_reducible refine ie_store ?_); (first | ((refine' Ef_storeA' rfl rfl ?q1 (mE_one _) ?q2 ?q3 ?_); (case q1 => exact siz_of rfl); (case q2 => (first | exact at0 | exact at1 | exact at2 | exact at3 | exact at4 | exact at5 | exact at6)); (case q3 => rfl))))
            | ((with_reducible refine ie_callf ?_); (first
            | ((with_reducible refine g_call 26 ?_); (first | refine Ef_callP rfl rfl ent_26 (fun w _ => awake_c w) ?_))
            | ((with_reducible refine g_call 10 ?_); (first | refine Ef_callP rfl rfl ent_10 (fun w hp => hg1 w (hp.rd ha fun _ => List.not_mem_nil)) ?_))
            | ((with_reducible refine g_call 13 ?_); (first | (refine Ef_callN rfl rfl ent_13 (fun w _ => new_c w) ?_; rintro b)))
            | ((with_reducible refine g_call 27 ?_); (first | (refine Ef_callX1 [true, true, true] rfl rfl ent_27 rfl rfl rfl (fun w hp hp2 => hdo w _ hp2 (hp.in_old hxi) (fun h => hp.outS [true, true, true] rfl (hxi.lt h) List.not_mem_nil)) ?_; intro z2 xs hxs)))
            | ((with_reducible refine g_call 15 ?_); (first | ((refine' Ef_callP rfl rfl ent_15 (fun w hp => len_v b z1.1 lx.length z1.2 s w (hp.blkOf ?q1)) ?_); (case q1 => (repeat (first | exact .head _ | apply List.Mem.tail))))))
            | ((with_reducible refine g_call 21 ?_); (first | (((refine' Ef_callN rfl rfl ent_21 (fun w hp => hat w (hp.lrRd ?q1) (hp.ins_bag ?q2) (hp.blkOf ?q3) (hp.lrCap ?q4)) ?_); (case q1 => (repeat (first | exact .head _ | apply List.Mem.tail))); (case q2 => (repeat (first | exact .head _ | apply List.Mem.tail))); (case q3 => (repeat (first | exact .head _ | apply List.Mem.tail))); (case q4 => (repeat (first | exact .head _ | apply List.Mem.tail)))); rintro ⟨A1, c1⟩)))
            | ((with_reducible refine g_call 24 ?_); (first | ((refine' Ef_callP rfl rfl ent_24 (fun w hp => hhas w (hp.lrRd ?q1) (hp.blkOf ?q2) (hp.lrCap ?q3)) ?_); (case q1 => (repeat (first | exact .head _ | apply List.Mem.tail))); (case q2 => (repeat (first | exact .head _ | apply List.Mem.tail))); (case q3 => (repeat (first | exact .head _ | apply List.Mem.tail))))))))
            | refine w1 ?_
            | (refine w2 ?_ ?_ <;> intro hc)
            | (refine w4 ?_; (intro _))
            | (refine w5 ?_; (first | ((fail_if_success have := A1); intro A1 c1) | ((fail_if_success have := A2); intro A2 c2) | ((fail_if_success have := A3); intro A3 c3) | intro _ _))
            | refine w3 ?_ ?_
            | fail_if_success skip)
        refine loopH_n (i + 1, (z2, xs), s') ?_ (fun _ h => h) ⟨show i + 1 ≤ _ by omega, by dsimp only; rw [len_map hxs]; omega, by dsimp only; rw [hxs]; exact hsb⟩ (show l.length - (i + 1) < l.length - i by omega)
        (repeat (first | exact Sub.nil | refine Sub.cons rfl ?_))
      · obtain ⟨q, hxs⟩ : ∃ q, lx.map (·.1) = q := ⟨_, rfl⟩
        have hlx := len_map hxs
        rw [hxs] at hqb
        have hql : q.length ≤ 200 := by omega
        have hhas := fun w h1 h3 h4 => has_c b z1.1 lx.length z1.2 s lx w h3 h1 rfl h4 (by omega) client id (B : Int)
        rw [hxs] at hhas
        repeat' (first
            | ((with_reducible refine is_load ?_); (first | ((refine' ⟨_, Yl_loadA_hp (vs := aE x) rfl ?qa ?qb ?ql ?qc, ?_⟩); (case qa => exact agg_of rfl); (case qb => exact fun _ hp => hp.rd ha fun _ => List.not_mem_nil); (case qc => exact eA); (case ql => rfl))))
            | ((with_reducible refine ie_store ?_); (first | ((refine' Ef_storeA' rfl rfl ?q1 (mE_one _) ?q2 ?q3 ?_); (case q1 => exact siz_of rfl); (case q2 => (first | exact at0 | exact at1 | exact at2 | exact at3 | exact at4 | exact at5 | exact at6)); (case q3 => rfl))))
            | ((with_reducible refine ie_callf ?_); (first
            | ((with_reducible refine g_call 26 ?_); (first | refine Ef_callP rfl rfl ent_26 (fun w _ => awake_c w) ?_))
            | ((with_reducible refine g_call 10 ?_); (first | refine Ef_callP rfl rfl ent_10 (fun w hp => hg1 w (hp.rd ha fun _ => List.not_mem_nil)) ?_))
            | ((with_reducible refine g_call 13 ?_); (first | (refine Ef_callN rfl rfl ent_13 (fun w _ => new_c w) ?_; rintro b)))
            | ((with_reducible refine g_call 27 ?_); (first | (refine Ef_callX1 [true, true, true] rfl rfl ent_27 rfl rfl rfl (fun w hp hp2 => hdo w _ hp2 (hp.in_old hxi) (fun h => hp.outS [true, true, true] rfl (hxi.lt h) List.not_mem_nil)) ?_; intro z2 xs hxs)))
            | ((with_reducible refine g_call 15 ?_); (first | ((refine' Ef_callP rfl rfl ent_15 (fun w hp => len_v b z1.1 lx.length z1.2 s w (hp.blkOf ?q1)) ?_); (case q1 => (repeat (first | exact .head _ | apply List.Mem.tail))))))
            | ((with_reducible refine g_call 21 ?_); (first | (((refine' Ef_callN rfl rfl ent_21 (fun w hp => hat w (hp.lrRd ?q1) (hp.ins_bag ?q2) (hp.blkOf ?q3) (hp.lrCap ?q4)) ?_); (case q1 => (repeat (first | exact .head _ | apply List.Mem.tail))); (case q2 => (repeat (first | exact .head _ | apply List.Mem.tail))); (case q3 => (repeat (first | exact .head _ | apply List.Mem.tail))); (case q4 => (repeat (first | exact .head _ | apply List.Mem.tail)))); rintro ⟨A1, c1⟩)))
            | ((with_reducible refine g_call 24 ?_); (first | ((refine' Ef_callP rfl rfl ent_24 (fun w hp => hhas w (hp.lrRd ?q1) (hp.blkOf ?q2) (hp.lrCap ?q3)) ?_); (case q1 => (repeat (first | exact .head _ | apply List.Mem.tail))); (case q2 => (repeat (first | exact .head _ | apply List.Mem.tail))); (case q3 => (repeat (first | exact .head _ | apply List.Mem.tail))))))))
            | refine w1 ?_
            | (refine w2 ?_ ?_ <;> intro hc)
            | (refine w4 ?_; (intro _))
            | (refine w5 ?_; (first | ((fail_if_success have := A1); intro A1 c1) | ((fail_if_success have := A2); intro A2 c2) | ((fail_if_success have := A3); intro A3 c3) | intro _ _))
            | refine w3 ?_ ?_
            | fail_if_success skip)
        refine T.loopM (α := Nat × Bool) (fun z => [(1, .int .i64 client), (2, .int .i64 id), (3, .int .i64 (B : Int)), (9, .pointer (some ⟨b, 0, none⟩)), (11, .bool z.2), (12, .int .i64 (z.1 : Int))]) (fun _ => xL b z1 lx s) (fun z => 1 ≤ z.1 ∧ z.1 ≤ lx.length + 1 ∧ z.2 = Lg.fnd q client id B (z.1 - 1)) (fun z => lx.length + 1 - z.1) (1, false) ?_ ?_ ?_ ?_
        · (repeat (first | exact Sub.nil | refine Sub.cons rfl ?_))
        · exact fun _ h => h
        · exact ⟨Nat.le_refl _, by dsimp only; omega, by simp [Lg.fnd]⟩
        · rintro ⟨p, f⟩ ⟨hp1, hp2, hf⟩
          dsimp only at hp1 hp2 hf ⊢
          obtain ⟨k, rfl⟩ : ∃ k, p = k + 1 := ⟨p - 1, by omega⟩
          rw [Nat.add_sub_cancel] at hf
          by_cases hkl : k < lx.length
          · obtain ⟨x, hx⟩ := some_of_lt (l := q) (i := k) (by omega)
            have hfs := Lg.fnd_succ hx client id B
            rw [← hf] at hfs
            have hat := fun w h1 h2 h3 h4 => at_q b z1.1 lx.length z1.2 s lx q hxs hql w h1 rfl h2 hqb ((k + 1 : Nat) : Int) h3 h4
            rw [Lg.frm_at hx] at hat
            dsimp only [List.head?_cons, Option.getD_some, Option.isSome_some] at hat
            have hcs : f = true ∨ (f = false ∧ (B : Int) < ((k + 1 : Nat) : Int) ∧ x.client = client ∧ x.id = id) ∨ (f = false ∧ ¬ (B : Int) < ((k + 1 : Nat) : Int)) ∨ (f = false ∧ (B : Int) < ((k + 1 : Nat) : Int) ∧ ¬ x.client = client) ∨ (f = false ∧ (B : Int) < ((k + 1 : Nat) : Int) ∧ x.client = client ∧ ¬ x.id = id) := by
              cases f
              · have h9 : ((B : Int) < ((k + 1 : Nat) : Int) ∧ x.client = client ∧ x.id = id) ∨ (¬ (B : Int) < ((k + 1 : Nat) : Int)) ∨ ((B : Int) < ((k + 1 : Nat) : Int) ∧ ¬ x.client = client) ∨ ((B : Int) < ((k + 1 : Nat) : Int) ∧ x.client = client ∧ ¬ x.id = id) := by omega
                rcases h9 with h | h | h | h
                · exact .inr (.inl ⟨rfl, h⟩)
                · exact .inr (.inr (.inl ⟨rfl, h⟩))
                · exact .inr (.inr (.inr (.inl ⟨rfl, h⟩)))
                · exact .inr (.inr (.inr (.inr ⟨rfl, h⟩)))
              · exact .inl rfl
            rcases hcs with rfl | ⟨rfl, c1, c2, c3⟩ | hcs
            · repeat' (first
                | ((with_reducible refine is_load ?_); (first | ((refine' ⟨_, Yl_loadA_hp (vs := aE x) rfl ?qa ?qb ?ql ?qc, ?_⟩); (case qa => exact agg_of rfl); (case qb => exact fun _ hp => hp.rd ha fun _ => List.not_mem_nil); (case qc => exact eA); (case ql => rfl))))
                | ((with_reducible refine ie_store ?_); (first | ((refine' Ef_storeA' rfl rfl ?q1 (mE_one _) ?q2 ?q3 ?_); (case q1 => exact siz_of rfl); (case q2 => (first | exact at0 | exact at1 | exact at2 | exact at3 | exact at4 | exact at5 | exact at6)); (case q3 => rfl))))
                | ((with_reducible refine ie_callf ?_); (first
                | ((with_reducible refine g_call 26 ?_); (first | refine Ef_callP rfl rfl ent_26 (fun w _ => awake_c w) ?_))
                | ((with_reducible refine g_call 10 ?_); (first | refine Ef_callP rfl rfl ent_10 (fun w hp => hg1 w (hp.rd ha fun _ => List.not_mem_nil)) ?_))
                | ((with_reducible refine g_call 13 ?_); (first | (refine Ef_callN rfl rfl ent_13 (fun w _ => new_c w) ?_; rintro b)))
                | ((with_reducible refine g_call 27 ?_); (first | (refine Ef_callX1 [true, true, true] rfl rfl ent_27 rfl rfl rfl (fun w hp hp2 => hdo w _ hp2 (hp.in_old hxi) (fun h => hp.outS [true, true, true] rfl (hxi.lt h) List.not_mem_nil)) ?_; intro z2 xs hxs)))
                | ((with_reducible refine g_call 15 ?_); (first | ((refine' Ef_callP rfl rfl ent_15 (fun w hp => len_v b z1.1 lx.length z1.2 s w (hp.blkOf ?q1)) ?_); (case q1 => (repeat (first | exact .head _ | apply List.Mem.tail))))))
                | ((with_reducible refine g_call 21 ?_); (first | (((refine' Ef_callN rfl rfl ent_21 (fun w hp => hat w (hp.lrRd ?q1) (hp.ins_bag ?q2) (hp.blkOf ?q3) (hp.lrCap ?q4)) ?_); (case q1 => (repeat (first | exact .head _ | apply List.Mem.tail))); (case q2 => (repeat (first | exact .head _ | apply List.Mem.tail))); (case q3 => (repeat (first | exact .head _ | apply List.Mem.tail))); (case q4 => (repeat (first | exact .head _ | apply List.Mem.tail)))); rintro ⟨A1, c1⟩)))
                | ((with_reducible refine g_call 24 ?_); (first | ((refine' Ef_callP rfl rfl ent_24 (fun w hp => hhas w (hp.lrRd ?q1) (hp.blkOf ?q2) (hp.lrCap ?q3)) ?_); (case q1 => (repeat (first | exact .head _ | apply List.Mem.tail))); (case q2 => (repeat (first | exact .head _ | apply List.Mem.tail))); (case q3 => (repeat (first | exact .head _ | apply List.Mem.tail))))))))
                | refine w1 ?_
                | (refine w2 ?_ ?_ <;> intro hc)
                | (refine w4 ?_; (intro _))
                | (refine w5 ?_; (first | ((fail_if_success have := A1); intro A1 c1) | ((fail_if_success have := A2); intro A2 c2) | ((fail_if_success have := A3); intro A3 c3) | intro _ _))
                | refine w3 ?_ ?_
                | fail_if_success skip)
              refine loopH_n (k + 2, true) ?_ (fun _ h => h.ofPart (by (repeat (first | exact Part.nil | refine Part.p0 ?_ | refine Part.p1 ?_ | refine Part.p2 ?_ | refine Part.p3 ?_ | refine Part.p4 ?_ | refine Part.p5 ?_ | refine Part.p6 ?_)))) ⟨show 1 ≤ k + 2 by omega, show k + 2 ≤ _ by omega, by rw [show k + 2 - 1 = k + 1 by omega, hfs]; rfl⟩ (show lx.length + 1 - (k + 2) < lx.length + 1 - (k + 1) by omega)
              (repeat (first | exact Sub.nil | refine Sub.cons rfl ?_))
            · repeat' (first
                | ((with_reducible refine is_load ?_); (first | ((refine' ⟨_, Yl_loadA_hp (vs := aE x) rfl ?qa ?qb ?ql ?qc, ?_⟩); (case qa => exact agg_of rfl); (case qb => exact fun _ hp => hp.rd ha fun _ => List.not_mem_nil); (case qc => exact eA); (case ql => rfl))))
                | ((with_reducible refine ie_store ?_); (first | ((refine' Ef_storeA' rfl rfl ?q1 (mE_one _) ?q2 ?q3 ?_); (case q1 => exact siz_of rfl); (case q2 => (first | exact at0 | exact at1 | exact at2 | exact at3 | exact at4 | exact at5 | exact at6)); (case q3 => rfl))))
                | ((with_reducible refine ie_callf ?_); (first
                | ((with_reducible refine g_call 26 ?_); (first | refine Ef_callP rfl rfl ent_26 (fun w _ => awake_c w) ?_))
                | ((with_reducible refine g_call 10 ?_); (first | refine Ef_callP rfl rfl ent_10 (fun w hp => hg1 w (hp.rd ha fun _ => List.not_mem_nil)) ?_))
                | ((with_reducible refine g_call 13 ?_); (first | (refine Ef_callN rfl rfl ent_13 (fun w _ => new_c w) ?_; rintro b)))
                | ((with_reducible refine g_call 27 ?_); (first | (refine Ef_callX1 [true, true, true] rfl rfl ent_27 rfl rfl rfl (fun w hp hp2 => hdo w _ hp2 (hp.in_old hxi) (fun h => hp.outS [true, true, true] rfl (hxi.lt h) List.not_mem_nil)) ?_; intro z2 xs hxs)))
                | ((with_reducible refine g_call 15 ?_); (first | ((refine' Ef_callP rfl rfl ent_15 (fun w hp => len_v b z1.1 lx.length z1.2 s w (hp.blkOf ?q1)) ?_); (case q1 => (repeat (first | exact .head _ | apply List.Mem.tail))))))
                | ((with_reducible refine g_call 21 ?_); (first | (((refine' Ef_callN rfl rfl ent_21 (fun w hp => hat w (hp.lrRd ?q1) (hp.ins_bag ?q2) (hp.blkOf ?q3) (hp.lrCap ?q4)) ?_); (case q1 => (repeat (first | exact .head _ | apply List.Mem.tail))); (case q2 => (repeat (first | exact .head _ | apply List.Mem.tail))); (case q3 => (repeat (first | exact .head _ | apply List.Mem.tail))); (case q4 => (repeat (first | exact .head _ | apply List.Mem.tail)))); rintro ⟨A1, c1⟩)))
                | ((with_reducible refine g_call 24 ?_); (first | ((refine' Ef_callP rfl rfl ent_24 (fun w hp => hhas w (hp.lrRd ?q1) (hp.blkOf ?q2) (hp.lrCap ?q3)) ?_); (case q1 => (repeat (first | exact .head _ | apply List.Mem.tail))); (case q2 => (repeat (first | exact .head _ | apply List.Mem.tail))); (case q3 => (repeat (first | exact .head _ | apply List.Mem.tail))))))))
                | refine w1 ?_
                | (refine w2 ?_ ?_ <;> intro hc)
                | (refine w4 ?_; (intro _))
                | (refine w5 ?_; (first | ((fail_if_success have := A1); intro A1 c1) | ((fail_if_success have := A2); intro A2 c2) | ((fail_if_success have := A3); intro A3 c3) | intro _ _))
                | refine w3 ?_ ?_
                | fail_if_success skip)
              refine loopH_n (k + 2, true) ?_ (fun _ h => h.ofPart (by (repeat (first | exact Part.nil | refine Part.p0 ?_ | refine Part.p1 ?_ | refine Part.p2 ?_ | refine Part.p3 ?_ | refine Part.p4 ?_ | refine Part.p5 ?_ | refine Part.p6 ?_)))) ⟨show 1 ≤ k + 2 by omega, show k + 2 ≤ _ by omega, by rw [show k + 2 - 1 = k + 1 by omega, hfs]; simp [Lg.whoP, c2, c3, show B ≤ k by omega]⟩ (show lx.length + 1 - (k + 2) < lx.length + 1 - (k + 1) by omega)
              (repeat (first | exact Sub.nil | refine Sub.cons rfl ?_))
            · rcases hcs with ⟨rfl, c1⟩ | ⟨rfl, c1, c2⟩ | ⟨rfl, c1, c2, c3⟩
              all_goals
                repeat' (first
                    | ((with_reducible refine is_load ?_); (first | ((refine' ⟨_, Yl_loadA_hp (vs := aE x) rfl ?qa ?qb ?ql ?qc, ?_⟩); (case qa => exact agg_of rfl); (case qb => exact fun _ hp => hp.rd ha fun _ => List.not_mem_nil); (case qc => exact eA); (case ql => rfl))))
                    | ((with_reducible refine ie_store ?_); (first | ((refine' Ef_storeA' rfl rfl ?q1 (mE_one _) ?q2 ?q3 ?_); (case q1 => exact siz_of rfl); (case q2 => (first | exact at0 | exact at1 | exact at2 | exact at3 | exact at4 | exact at5 | exact at6)); (case q3 => rfl))))
                    | ((with_reducible refine ie_callf ?_); (first
                    | ((with_reducible refine g_call 26 ?_); (first | refine Ef_callP rfl rfl ent_26 (fun w _ => awake_c w) ?_))
                    | ((with_reducible refine g_call 10 ?_); (first | refine Ef_callP rfl rfl ent_10 (fun w hp => hg1 w (hp.rd ha fun _ => List.not_mem_nil)) ?_))
                    | ((with_reducible refine g_call 13 ?_); (first | (refine Ef_callN rfl rfl ent_13 (fun w _ => new_c w) ?_; rintro b)))
                    | ((with_reducible refine g_call 27 ?_); (first | (refine Ef_callX1 [true, true, true] rfl rfl ent_27 rfl rfl rfl (fun w hp hp2 => hdo w _ hp2 (hp.in_old hxi) (fun h => hp.outS [true, true, true] rfl (hxi.lt h) List.not_mem_nil)) ?_; intro z2 xs hxs)))
                    | ((with_reducible refine g_call 15 ?_); (first | ((refine' Ef_callP rfl rfl ent_15 (fun w hp => len_v b z1.1 lx.length z1.2 s w (hp.blkOf ?q1)) ?_); (case q1 => (repeat (first | exact .head _ | apply List.Mem.tail))))))
                    | ((with_reducible refine g_call 21 ?_); (first | (((refine' Ef_callN rfl rfl ent_21 (fun w hp => hat w (hp.lrRd ?q1) (hp.ins_bag ?q2) (hp.blkOf ?q3) (hp.lrCap ?q4)) ?_); (case q1 => (repeat (first | exact .head _ | apply List.Mem.tail))); (case q2 => (repeat (first | exact .head _ | apply List.Mem.tail))); (case q3 => (repeat (first | exact .head _ | apply List.Mem.tail))); (case q4 => (repeat (first | exact .head _ | apply List.Mem.tail)))); rintro ⟨A1, c1⟩)))
                    | ((with_reducible refine g_call 24 ?_); (first | ((refine' Ef_callP rfl rfl ent_24 (fun w hp => hhas w (hp.lrRd ?q1) (hp.blkOf ?q2) (hp.lrCap ?q3)) ?_); (case q1 => (repeat (first | exact .head _ | apply List.Mem.tail))); (case q2 => (repeat (first | exact .head _ | apply List.Mem.tail))); (case q3 => (repeat (first | exact .head _ | apply List.Mem.tail))))))))
                    | refine w1 ?_
                    | (refine w2 ?_ ?_ <;> intro hc)
                    | (refine w4 ?_; (intro _))
                    | (refine w5 ?_; (first | ((fail_if_success have := A1); intro A1 c1) | ((fail_if_success have := A2); intro A2 c2) | ((fail_if_success have := A3); intro A3 c3) | intro _ _))
                    | refine w3 ?_ ?_
                    | fail_if_success skip)
                refine loopH_n (k + 2, false) ?_ (fun _ h => h.ofPart (by (repeat (first | exact Part.nil | refine Part.p0 ?_ | refine Part.p1 ?_ | refine Part.p2 ?_ | refine Part.p3 ?_ | refine Part.p4 ?_ | refine Part.p5 ?_ | refine Part.p6 ?_)))) ⟨show 1 ≤ k + 2 by omega, show k + 2 ≤ _ by omega, ?_⟩ (show lx.length + 1 - (k + 2) < lx.length + 1 - (k + 1) by omega)
                · (repeat (first | exact Sub.nil | refine Sub.cons rfl ?_))
                · rw [show k + 2 - 1 = k + 1 by omega, hfs]
                  first
                    | (rw [decide_eq_false (show ¬ B ≤ k by omega)]; rfl)
                    | (unfold Lg.whoP; rw [decide_eq_false c3]; simp only [Bool.and_false, Bool.or_false]; done)
                    | (unfold Lg.whoP; rw [decide_eq_false c2]; simp only [Bool.and_false, Bool.false_and, Bool.or_false]; done)
          · rw [Lg.fnd_all q client id B k (by omega)] at hf
            rw [← hf] at hhas
            repeat' (first
                | ((with_reducible refine is_load ?_); (first | ((refine' ⟨_, Yl_loadA_hp (vs := aE x) rfl ?qa ?qb ?ql ?qc, ?_⟩); (case qa => exact agg_of rfl); (case qb => exact fun _ hp => hp.rd ha fun _ => List.not_mem_nil); (case qc => exact eA); (case ql => rfl))))
                | ((with_reducible refine ie_store ?_); (first | ((refine' Ef_storeA' rfl rfl ?q1 (mE_one _) ?q2 ?q3 ?_); (case q1 => exact siz_of rfl); (case q2 => (first | exact at0 | exact at1 | exact at2 | exact at3 | exact at4 | exact at5 | exact at6)); (case q3 => rfl))))
                | ((with_reducible refine ie_callf ?_); (first
                | ((with_reducible refine g_call 26 ?_); (first | refine Ef_callP rfl rfl ent_26 (fun w _ => awake_c w) ?_))
                | ((with_reducible refine g_call 10 ?_); (first | refine Ef_callP rfl rfl ent_10 (fun w hp => hg1 w (hp.rd ha fun _ => List.not_mem_nil)) ?_))
                | ((with_reducible refine g_call 13 ?_); (first | (refine Ef_callN rfl rfl ent_13 (fun w _ => new_c w) ?_; rintro b)))
                | ((with_reducible refine g_call 27 ?_); (first | (refine Ef_callX1 [true, true, true] rfl rfl ent_27 rfl rfl rfl (fun w hp hp2 => hdo w _ hp2 (hp.in_old hxi) (fun h => hp.outS [true, true, true] rfl (hxi.lt h) List.not_mem_nil)) ?_; intro z2 xs hxs)))
                | ((with_reducible refine g_call 15 ?_); (first | ((refine' Ef_callP rfl rfl ent_15 (fun w hp => len_v b z1.1 lx.length z1.2 s w (hp.blkOf ?q1)) ?_); (case q1 => (repeat (first | exact .head _ | apply List.Mem.tail))))))
                | ((with_reducible refine g_call 21 ?_); (first | (((refine' Ef_callN rfl rfl ent_21 (fun w hp => hat w (hp.lrRd ?q1) (hp.ins_bag ?q2) (hp.blkOf ?q3) (hp.lrCap ?q4)) ?_); (case q1 => (repeat (first | exact .head _ | apply List.Mem.tail))); (case q2 => (repeat (first | exact .head _ | apply List.Mem.tail))); (case q3 => (repeat (first | exact .head _ | apply List.Mem.tail))); (case q4 => (repeat (first | exact .head _ | apply List.Mem.tail)))); rintro ⟨A1, c1⟩)))
                | ((with_reducible refine g_call 24 ?_); (first | ((refine' Ef_callP rfl rfl ent_24 (fun w hp => hhas w (hp.lrRd ?q1) (hp.blkOf ?q2) (hp.lrCap ?q3)) ?_); (case q1 => (repeat (first | exact .head _ | apply List.Mem.tail))); (case q2 => (repeat (first | exact .head _ | apply List.Mem.tail))); (case q3 => (repeat (first | exact .head _ | apply List.Mem.tail))))))))
                | refine w1 ?_
                | (refine w2 ?_ ?_ <;> intro hc)
                | (refine w4 ?_; (intro _))
                | (refine w5 ?_; (first | ((fail_if_success have := A1); intro A1 c1) | ((fail_if_success have := A2); intro A2 c2) | ((fail_if_success have := A3); intro A3 c3) | intro _ _))
                | refine w3 ?_ ?_
                | fail_if_success skip)
            exact ret_n [] (res1 rfl rfl) (List.nil_sublist _) ⟨by simp, rfl⟩
  · have h2 : Lg.great 0 l = true ∨ (Lg.great 0 l = false ∧ bh < 0) := by
      cases hg : Lg.great 0 l
      · right; rw [hg] at h1; exact ⟨rfl, by simpa using h1⟩
      · exact .inl rfl
    rcases h2 with h2 | ⟨h2, h3⟩
    all_goals
      rw [h2] at hg1
      refine Sp.enter (n := 75) Try.func8 rfl rfl rfl (Hp.refl w) ?_
      repeat' (first
          | ((with_reducible refine is_load ?_); (first | ((refine' ⟨_, Yl_loadA_hp (vs := aE x) rfl ?qa ?qb ?ql ?qc, ?_⟩); (case qa => exact agg_of rfl); (case qb => exact fun _ hp => hp.rd ha fun _ => List.not_mem_nil); (case qc => exact eA); (case ql => rfl))))
          | ((with_reducible refine ie_store ?_); (first | ((refine' Ef_storeA' rfl rfl ?q1 (mE_one _) ?q2 ?q3 ?_); (case q1 => exact siz_of rfl); (case q2 => (first | exact at0 | exact at1 | exact at2 | exact at3 | exact at4 | exact at5 | exact at6)); (case q3 => rfl))))
          | ((with_reducible refine ie_callf ?_); (first
          | ((with_reducible refine g_call 26 ?_); (first | refine Ef_callP rfl rfl ent_26 (fun w _ => awake_c w) ?_))
          | ((with_reducible refine g_call 10 ?_); (first | refine Ef_callP rfl rfl ent_10 (fun w hp => hg1 w (hp.rd ha fun _ => List.not_mem_nil)) ?_))
          | ((with_reducible refine g_call 13 ?_); (first | (refine Ef_callN rfl rfl ent_13 (fun w _ => new_c w) ?_; rintro b)))
          | ((with_reducible refine g_call 27 ?_); (first | (refine Ef_callX1 [true, true, true] rfl rfl ent_27 rfl rfl rfl (fun w hp hp2 => hdo w _ hp2 (hp.in_old hxi) (fun h => hp.outS [true, true, true] rfl (hxi.lt h) List.not_mem_nil)) ?_; intro z2 xs hxs)))
          | ((with_reducible refine g_call 15 ?_); (first | ((refine' Ef_callP rfl rfl ent_15 (fun w hp => len_v b z1.1 lx.length z1.2 s w (hp.blkOf ?q1)) ?_); (case q1 => (repeat (first | exact .head _ | apply List.Mem.tail))))))
          | ((with_reducible refine g_call 21 ?_); (first | (((refine' Ef_callN rfl rfl ent_21 (fun w hp => hat w (hp.lrRd ?q1) (hp.ins_bag ?q2) (hp.blkOf ?q3) (hp.lrCap ?q4)) ?_); (case q1 => (repeat (first | exact .head _ | apply List.Mem.tail))); (case q2 => (repeat (first | exact .head _ | apply List.Mem.tail))); (case q3 => (repeat (first | exact .head _ | apply List.Mem.tail))); (case q4 => (repeat (first | exact .head _ | apply List.Mem.tail)))); rintro ⟨A1, c1⟩)))
          | ((with_reducible refine g_call 24 ?_); (first | ((refine' Ef_callP rfl rfl ent_24 (fun w hp => hhas w (hp.lrRd ?q1) (hp.blkOf ?q2) (hp.lrCap ?q3)) ?_); (case q1 => (repeat (first | exact .head _ | apply List.Mem.tail))); (case q2 => (repeat (first | exact .head _ | apply List.Mem.tail))); (case q3 => (repeat (first | exact .head _ | apply List.Mem.tail))))))))
          | refine w1 ?_
          | (refine w2 ?_ ?_ <;> intro hc)
          | (refine w4 ?_; (intro _))
          | (refine w5 ?_; (first | ((fail_if_success have := A1); intro A1 c1) | ((fail_if_success have := A2); intro A2 c2) | ((fail_if_success have := A3); intro A3 c3) | intro _ _))
          | refine w3 ?_ ?_
          | fail_if_success skip)
      exact ret_n [] (res1 rfl rfl) (List.nil_sublist _) ⟨rfl, rfl⟩
end
end Go.Proofs.Ytegaejbfhpigjaa
