/- Whether tables are the same, and how much they hold: what a call of each comes to. -/
import Derived.Test.YthiacfpfgdoliaaT1
import Derived.Test.YthiacfpfgdoliaaRm
namespace Go.Proofs.Ythiacfpfgdoliaa
open Go.RowKit
set_option maxRecDepth 20000

section
variable (x y : Me) (w : World) (ha : In w x.1.r x.2) (hb : In w y.1.r y.2) (hle : x.1.r.keys.length ≤ 9223372036854775806)
include ha hb hle
set_option maxHeartbeats 4000000 in
theorem same1_v (q : Bool) (hres : Rl.eqA x.1 y.1 = q) : Sp Try.prog 25 [.agg (mE x).toArray, .agg (mE y).toArray] w [] fun v N => v = .bool q ∧ N = [] := by
  have hsr := fun w h1 h2 => sreply_v x.1.r y.1.r x.2 y.2 w h1 h2 hle _ rfl
  generalize hk : Rl.eqR x.1.r y.1.r = k at hsr
  have hq : (decide (x.1.c = y.1.c) && decide (x.1.id = y.1.id) && k) = q := by rw [← hk]; exact hres
  clear hres hk
  subst hq
  cases k
  all_goals
    refine Sp.enter (n := 24) Try.func25 rfl rfl rfl (Hp.refl w) ?_
    repeat' (first | ((with_reducible refine is_load ?_); (first | ((refine' ⟨_, Yl_loadA_at rfl ?qa ?qb ?ql ?qc, ?_⟩); (case qa => exact agg_of rfl); (case qb => (repeat (first | exact .head _ | apply List.Mem.tail))); (case qc => (first | exact mE_rE _)); (case ql => rfl)) | ((refine' ⟨_, Yl_loadA_hp rfl ?qa ?qb ?ql ?qc, ?_⟩); (case qa => exact agg_of rfl); (case qb => (first | exact fun _ hp => hp.rd ha fun _ => List.not_mem_nil | exact fun _ hp => hp.rd hb fun _ => List.not_mem_nil)); (case qc => assumption); (case ql => rfl))))    | ((with_reducible refine ie_callf ?_); (first | ((with_reducible refine g_call 12 ?_); (first | refine Ef_callP rfl rfl ent_12 (fun w hp => hsr w (hp.in_old ha) (hp.in_old hb)) ?_))))    | refine w1 ?_ | (refine w2 ?_ ?_ <;> intro hc)  | (refine w4 ?_; (intro _)) | (refine w5 ?_; (intro _ _)) | refine w3 ?_ ?_ | fail_if_success skip)
    all_goals exact ret_n [] (res1 rfl rfl) (List.nil_sublist _) ⟨by simp [*], rfl⟩
end

section
variable (A : Option Addr) (c : Nat) (l : List Me) (B : Option Addr) (d : Nat) (m : List Me) (w : World) (ha : Rd w A l.length 77 (l.flatMap mE)) (hb : Rd w B m.length 77 (m.flatMap mE)) (hia : Ins w l) (hib : Ins w m)
  (hle : l.length ≤ 9223372036854775806) (hlk : ∀ x ∈ l, x.1.r.keys.length ≤ 9223372036854775806)
include ha hb hia hib hle hlk
set_option maxHeartbeats 4000000 in
theorem equalf_v (q : Bool) (hres : Rl.same (l.map (·.1)) (m.map (·.1)) = q) : Sp Try.prog 24 [.slice A l.length c, .slice B m.length d, .func (.func 25) #[] #[]] w [] fun v N => v = .bool q ∧ N = [] := by
  subst hres
  unfold Rl.same
  rw [List.length_map, List.length_map]
  generalize hn : l.length = n at ha hle ⊢
  generalize hn2 : m.length = n2 at hb ⊢
  by_cases hll : n = n2
  · subst hll
    rw [decide_eq_true (rfl : n = n), Bool.true_and]
    refine Sp.enter (n := 32) Try.func24 rfl rfl rfl (Hp.refl w) ?_
    repeat' (first | ((with_reducible refine is_load ?_); (first | ((refine' ⟨_, Yl_loadA_at rfl ?qa ?qb ?ql ?qc, ?_⟩); (case qa => exact agg_of rfl); (case qb => (repeat (first | exact .head _ | apply List.Mem.tail))); (case qc => (first | exact mE_rE _)); (case ql => rfl)) | ((refine' ⟨_, Yl_loadA_hp rfl ?qa ?qb ?ql ?qc, ?_⟩); (case qa => exact agg_of rfl); (case qb => (first | exact fun _ hp => hp.rd ha fun _ => List.not_mem_nil | exact fun _ hp => hp.rd hb fun _ => List.not_mem_nil)); (case qc => assumption); (case ql => rfl))))     | ((with_reducible refine ie_callv ?_); (first | refine Ef_callVP rfl rfl rfl ent_25 (fun w hp => hcv w (hp.in_old (hia x (mem_of_some hx))) (hp.in_old (hib y (mem_of_some hy)))) ?_))   | refine w1 ?_ | (refine w2 ?_ ?_ <;> intro hc)  | (refine w4 ?_; (intro _)) | (refine w5 ?_; (intro _ _)) | refine w3 ?_ ?_ | fail_if_success skip)
    refine T.loop (α := Nat) (fun i => [(1, .slice B n d), (2, .func (.func 25) #[] #[]), (15, .slice A n c), (16, .int .i64 (n : Int)), (17, .int .i64 (i : Int))]) (fun _ => []) (fun i => i ≤ n ∧ Rl.eqTo (l.map (·.1)) (m.map (·.1)) i = true) (fun i => n - i) 0 ?_ ?_ ?_ ?_
    · (repeat (first | exact Sub.nil | refine Sub.cons rfl ?_))
    · (repeat (first | exact List.nil_sublist _ | refine List.Sublist.cons_cons _ ?_ | refine List.Sublist.cons _ ?_))
    · exact ⟨Nat.zero_le _, rfl⟩
    · rintro i ⟨hi, hm⟩
      by_cases hlt : i < n
      · obtain ⟨x, hx⟩ := some_of_lt (l := l) (i := i) (by omega)
        obtain ⟨y, hy⟩ := some_of_lt (l := m) (i := i) (by omega)
        have eA := enc_atA mE_len hx
        have eB := enc_atA mE_len hy
        have oX := mE_one x
        have oY := mE_one y
        have hcv := fun w' h1 h2 => same1_v x y w' h1 h2 (hlk x (mem_of_some hx)) _ rfl
        cases hk : Rl.eqA x.1 y.1 with
        | true =>
          rw [hk] at hcv
          repeat' (first | ((with_reducible refine is_load ?_); (first | ((refine' ⟨_, Yl_loadA_at rfl ?qa ?qb ?ql ?qc, ?_⟩); (case qa => exact agg_of rfl); (case qb => (repeat (first | exact .head _ | apply List.Mem.tail))); (case qc => (first | exact mE_rE _)); (case ql => rfl)) | ((refine' ⟨_, Yl_loadA_hp rfl ?qa ?qb ?ql ?qc, ?_⟩); (case qa => exact agg_of rfl); (case qb => (first | exact fun _ hp => hp.rd ha fun _ => List.not_mem_nil | exact fun _ hp => hp.rd hb fun _ => List.not_mem_nil)); (case qc => assumption); (case ql => rfl))))     | ((with_reducible refine ie_callv ?_); (first | refine Ef_callVP rfl rfl rfl ent_25 (fun w hp => hcv w (hp.in_old (hia x (mem_of_some hx))) (hp.in_old (hib y (mem_of_some hy)))) ?_))   | refine w1 ?_ | (refine w2 ?_ ?_ <;> intro hc)  | (refine w4 ?_; (intro _)) | (refine w5 ?_; (intro _ _)) | refine w3 ?_ ?_ | fail_if_success skip)
          refine loopQ_n (i + 1) ?_ ?_ ⟨by (first | omega | (dsimp only; omega) | (simp; omega)), Rl.eqTo_step hm (map_at hx) (map_at hy) hk⟩ (by (first | omega | (dsimp only; omega) | (simp; omega)))
          · (repeat (first | exact Sub.nil | refine Sub.cons rfl ?_))
          · (repeat (first | exact List.nil_sublist _ | refine List.Sublist.cons_cons _ ?_ | refine List.Sublist.cons _ ?_))
        | false =>
          rw [hk] at hcv
          rw [Rl.eqTo_no (map_at hx) (map_at hy) hlt hk]
          repeat' (first | ((with_reducible refine is_load ?_); (first | ((refine' ⟨_, Yl_loadA_at rfl ?qa ?qb ?ql ?qc, ?_⟩); (case qa => exact agg_of rfl); (case qb => (repeat (first | exact .head _ | apply List.Mem.tail))); (case qc => (first | exact mE_rE _)); (case ql => rfl)) | ((refine' ⟨_, Yl_loadA_hp rfl ?qa ?qb ?ql ?qc, ?_⟩); (case qa => exact agg_of rfl); (case qb => (first | exact fun _ hp => hp.rd ha fun _ => List.not_mem_nil | exact fun _ hp => hp.rd hb fun _ => List.not_mem_nil)); (case qc => assumption); (case ql => rfl))))     | ((with_reducible refine ie_callv ?_); (first | refine Ef_callVP rfl rfl rfl ent_25 (fun w hp => hcv w (hp.in_old (hia x (mem_of_some hx))) (hp.in_old (hib y (mem_of_some hy)))) ?_))   | refine w1 ?_ | (refine w2 ?_ ?_ <;> intro hc)  | (refine w4 ?_; (intro _)) | (refine w5 ?_; (intro _ _)) | refine w3 ?_ ?_ | fail_if_success skip)
          exact ret_n [] (res1 rfl rfl) (List.nil_sublist _) ⟨rfl, rfl⟩
      · rw [show i = n by omega] at hm
        rw [hm]
        repeat' (first | ((with_reducible refine is_load ?_); (first | ((refine' ⟨_, Yl_loadA_at rfl ?qa ?qb ?ql ?qc, ?_⟩); (case qa => exact agg_of rfl); (case qb => (repeat (first | exact .head _ | apply List.Mem.tail))); (case qc => (first | exact mE_rE _)); (case ql => rfl)) | ((refine' ⟨_, Yl_loadA_hp rfl ?qa ?qb ?ql ?qc, ?_⟩); (case qa => exact agg_of rfl); (case qb => (first | exact fun _ hp => hp.rd ha fun _ => List.not_mem_nil | exact fun _ hp => hp.rd hb fun _ => List.not_mem_nil)); (case qc => assumption); (case ql => rfl))))     | ((with_reducible refine ie_callv ?_); (first | refine Ef_callVP rfl rfl rfl ent_25 (fun w hp => hcv w (hp.in_old (hia x (mem_of_some hx))) (hp.in_old (hib y (mem_of_some hy)))) ?_))   | refine w1 ?_ | (refine w2 ?_ ?_ <;> intro hc)  | (refine w4 ?_; (intro _)) | (refine w5 ?_; (intro _ _)) | refine w3 ?_ ?_ | fail_if_success skip)
        exact ret_n [] (res1 rfl rfl) (List.nil_sublist _) ⟨rfl, rfl⟩
  · rw [decide_eq_false hll, Bool.false_and]
    refine Sp.enter (n := 32) Try.func24 rfl rfl rfl (Hp.refl w) ?_
    repeat' (first | ((with_reducible refine is_load ?_); (first | ((refine' ⟨_, Yl_loadA_at rfl ?qa ?qb ?ql ?qc, ?_⟩); (case qa => exact agg_of rfl); (case qb => (repeat (first | exact .head _ | apply List.Mem.tail))); (case qc => (first | exact mE_rE _)); (case ql => rfl)) | ((refine' ⟨_, Yl_loadA_hp rfl ?qa ?qb ?ql ?qc, ?_⟩); (case qa => exact agg_of rfl); (case qb => (first | exact fun _ hp => hp.rd ha fun _ => List.not_mem_nil | exact fun _ hp => hp.rd hb fun _ => List.not_mem_nil)); (case qc => assumption); (case ql => rfl))))     | ((with_reducible refine ie_callv ?_); (first | refine Ef_callVP rfl rfl rfl ent_25 (fun w hp => hcv w (hp.in_old (hia x (mem_of_some hx))) (hp.in_old (hib y (mem_of_some hy)))) ?_))   | refine w1 ?_ | (refine w2 ?_ ?_ <;> intro hc)  | (refine w4 ?_; (intro _)) | (refine w5 ?_; (intro _ _)) | refine w3 ?_ ?_ | fail_if_success skip)
    exact ret_n [] (res1 rfl rfl) (List.nil_sublist _) ⟨rfl, rfl⟩

theorem same_v (q : Bool) (hres : Rl.same (l.map (·.1)) (m.map (·.1)) = q) : Sp Try.prog 9 [.slice A l.length c, .slice B m.length d] w [] fun v N => v = .bool q ∧ N = [] := by
  have heq := fun w h1 h2 h3 h4 => equalf_v A c l B d m w h1 h2 h3 h4 hle hlk q hres
  refine Sp.enter (n := 8) Try.func9 rfl rfl rfl (Hp.refl w) ?_
  repeat' (first     | ((with_reducible refine ie_callf ?_); (first   | ((with_reducible refine g_call 24 ?_); (first | refine Ef_callP rfl rfl ent_24 (fun w hp => heq w (hp.rd ha fun _ => List.not_mem_nil) (hp.rd hb fun _ => List.not_mem_nil) (hp.ins_old hia) (hp.ins_old hib)) ?_))))    | refine w1 ?_ | (refine w2 ?_ ?_ <;> intro hc)  | (refine w4 ?_; (intro _)) | (refine w5 ?_; (intro _ _)) | refine w3 ?_ ?_ | fail_if_success skip)
  exact ret_n [] (res1 rfl rfl) (List.nil_sublist _) ⟨rfl, rfl⟩

set_option maxHeartbeats 4000000 in
theorem rsame_v (q : Bool) (hres : Rl.same (l.map (·.1)) (m.map (·.1)) = q) : Sp Try.prog 11 [.slice A l.length c, .slice B m.length d] w [] fun v N => v = .bool q ∧ N = [] := by
  subst hres
  unfold Rl.same
  rw [List.length_map, List.length_map]
  generalize hn : l.length = n at ha hle ⊢
  generalize hn2 : m.length = n2 at hb ⊢
  by_cases hll : n = n2
  · subst hll
    rw [decide_eq_true (rfl : n = n), Bool.true_and]
    refine Sp.enter (n := 55) Try.func11 rfl rfl rfl (Hp.refl w) ?_
    repeat' (first
        | ((with_reducible refine is_load ?_); (first | ((refine' ⟨_, Yl_loadA_at rfl ?qa ?qb ?ql ?qc, ?_⟩); (case qa => exact agg_of rfl); (case qb => (repeat (first | exact .head _ | apply List.Mem.tail))); (case qc => (first | exact mE_rE _)); (case ql => rfl)) | ((refine' ⟨_, Yl_loadA_hp rfl ?qa ?qb ?ql ?qc, ?_⟩); (case qa => exact agg_of rfl); (case qb => (first | exact fun _ hp => hp.rd ha fun _ => List.not_mem_nil | exact fun _ hp => hp.rd hb fun _ => List.not_mem_nil)); (case qc => assumption); (case ql => rfl))))
        | ((with_reducible refine ie_callf ?_); (first  | ((with_reducible refine g_call 13 ?_); (first | refine Ef_callP rfl rfl ent_13 (fun w hp => hsr w (hp.in_old (hia x (mem_of_some hx))) (hp.in_old (hib y (mem_of_some hy)))) ?_))))
        | ((with_reducible refine g_draw ?_); (first | (((with_reducible refine' T.drawM (id := 6) [(0, true), (1, true), (2, true), (3, true), (4, true), (5, true), (6, false), (7, false), (8, false), (9, false), (10, false), (11, false), (12, true), (13, true), (14, true), (15, true), (16, true), (17, true), (18, false), (19, false), (20, false), (21, false), (22, false), (23, false), (24, false), (25, true), (26, true), (27, true), (28, true), (29, true), (30, true), (31, false), (32, false), (33, false), (34, false), (35, false), (36, false), (37, false)] mixd ?q1 ?_); (case q1 => kernel_rfl)))))
        | refine w1 ?_
        | (refine w2 ?_ ?_ <;> intro hc)
        | (refine w4 ?_; (intro _))
        | (refine w5 ?_; (intro _ _))
        | refine w3 ?_ ?_
        | fail_if_success skip)
    refine T.loop (α := Nat) (fun i => [(0, .slice A n c), (1, .slice B n d), (5, .int .i64 (i : Int))]) (fun _ => []) (fun i => i ≤ n ∧ Rl.eqTo (l.map (·.1)) (m.map (·.1)) i = true) (fun i => n - i) 0 ?_ ?_ ?_ ?_
    · (repeat (first | exact Sub.nil | refine Sub.cons rfl ?_))
    · (repeat (first | exact List.nil_sublist _ | refine List.Sublist.cons_cons _ ?_ | refine List.Sublist.cons _ ?_))
    · exact ⟨Nat.zero_le _, rfl⟩
    · rintro i ⟨hi, hm⟩
      by_cases hlt : i < n
      · obtain ⟨x, hx⟩ := some_of_lt (l := l) (i := i) (by omega)
        obtain ⟨y, hy⟩ := some_of_lt (l := m) (i := i) (by omega)
        have e0 : (l.flatMap mE)[i * 77 + 0]? = some (.int .i64 x.1.c) := enc_at mE_len hx (j := 0) (by decide)
        have e1 : (l.flatMap mE)[i * 77 + 1]? = some (.int .i64 x.1.id) := enc_at mE_len hx (j := 1) (by decide)
        have g0 : (m.flatMap mE)[i * 77 + 0]? = some (.int .i64 y.1.c) := enc_at mE_len hy (j := 0) (by decide)
        have g1 : (m.flatMap mE)[i * 77 + 1]? = some (.int .i64 y.1.id) := enc_at mE_len hy (j := 1) (by decide)
        have eA := mE_lk hx
        have eB := mE_lk hy
        have hsr := fun w' h1 h2 => rsreply_v x.1.r y.1.r x.2 y.2 w' h1 h2 (hlk x (mem_of_some hx)) _ rfl
        generalize hk : Rl.eqR x.1.r y.1.r = k at hsr
        have hq : (decide (x.1.c = y.1.c) && decide (x.1.id = y.1.id) && k) = Rl.eqA x.1 y.1 := by rw [← hk]; rfl
        by_cases hgo : x.1.c = y.1.c ∧ x.1.id = y.1.id ∧ k = true
        · obtain ⟨h1, h2, rfl⟩ := hgo
          rw [h1, h2] at hq
          simp only [decide_true, Bool.and_self] at hq
          repeat' (first
              | ((with_reducible refine is_load ?_); (first | ((refine' ⟨_, Yl_loadA_at rfl ?qa ?qb ?ql ?qc, ?_⟩); (case qa => exact agg_of rfl); (case qb => (repeat (first | exact .head _ | apply List.Mem.tail))); (case qc => (first | exact mE_rE _)); (case ql => rfl)) | ((refine' ⟨_, Yl_loadA_hp rfl ?qa ?qb ?ql ?qc, ?_⟩); (case qa => exact agg_of rfl); (case qb => (first | exact fun _ hp => hp.rd ha fun _ => List.not_mem_nil | exact fun _ hp => hp.rd hb fun _ => List.not_mem_nil)); (case qc => assumption); (case ql => rfl))))
              | ((with_reducible refine ie_callf ?_); (first  | ((with_reducible refine g_call 13 ?_); (first | refine Ef_callP rfl rfl ent_13 (fun w hp => hsr w (hp.in_old (hia x (mem_of_some hx))) (hp.in_old (hib y (mem_of_some hy)))) ?_))))
              | ((with_reducible refine g_draw ?_); (first | (((with_reducible refine' T.drawM (id := 6) [(0, true), (1, true), (2, true), (3, true), (4, true), (5, true), (6, false), (7, false), (8, false), (9, false), (10, false), (11, false), (12, true), (13, true), (14, true), (15, true), (16, true), (17, true), (18, false), (19, false), (20, false), (21, false), (22, false), (23, false), (24, false), (25, true), (26, true), (27, true), (28, true), (29, true), (30, true), (31, false), (32, false), (33, false), (34, false), (35, false), (36, false), (37, false)] mixd ?q1 ?_); (case q1 => kernel_rfl)))))
              | refine w1 ?_
              | (refine w2 ?_ ?_ <;> intro hc)
              | (refine w4 ?_; (intro _))
              | (refine w5 ?_; (intro _ _))
              | refine w3 ?_ ?_
              | fail_if_success skip)
          refine loopQ_n (i + 1) ?_ ?_ ⟨by (first | omega | (dsimp only; omega) | (simp; omega)), Rl.eqTo_step hm (map_at hx) (map_at hy) hq.symm⟩ (by (first | omega | (dsimp only; omega) | (simp; omega)))
          · (repeat (first | exact Sub.nil | refine Sub.cons rfl ?_))
          · (repeat (first | exact List.nil_sublist _ | refine List.Sublist.cons_cons _ ?_ | refine List.Sublist.cons _ ?_))
        · have hqf : Rl.eqA x.1 y.1 = false := by
            rw [← hq, Bool.eq_false_iff]
            intro hall
            simp only [Bool.and_eq_true, decide_eq_true_eq] at hall
            exact hgo ⟨hall.1.1, hall.1.2, hall.2⟩
          rw [Rl.eqTo_no (map_at hx) (map_at hy) hlt hqf]
          have hgo2 : (¬ x.1.c = y.1.c) ∨ (x.1.c = y.1.c ∧ ¬ x.1.id = y.1.id) ∨ (x.1.c = y.1.c ∧ x.1.id = y.1.id ∧ k = false) := by
            by_cases g1 : x.1.c = y.1.c
            · by_cases g2 : x.1.id = y.1.id
              · cases g4 : k
                · exact .inr (.inr ⟨g1, g2, rfl⟩)
                · exact absurd ⟨g1, g2, g4⟩ hgo
              · exact .inr (.inl ⟨g1, g2⟩)
            · exact .inl g1
          clear hq hgo
          rcases hgo2 with g1 | ⟨g1, g2⟩ | ⟨g1, g2, rfl⟩
          all_goals
            repeat' (first
                | ((with_reducible refine is_load ?_); (first | ((refine' ⟨_, Yl_loadA_at rfl ?qa ?qb ?ql ?qc, ?_⟩); (case qa => exact agg_of rfl); (case qb => (repeat (first | exact .head _ | apply List.Mem.tail))); (case qc => (first | exact mE_rE _)); (case ql => rfl)) | ((refine' ⟨_, Yl_loadA_hp rfl ?qa ?qb ?ql ?qc, ?_⟩); (case qa => exact agg_of rfl); (case qb => (first | exact fun _ hp => hp.rd ha fun _ => List.not_mem_nil | exact fun _ hp => hp.rd hb fun _ => List.not_mem_nil)); (case qc => assumption); (case ql => rfl))))
                | ((with_reducible refine ie_callf ?_); (first  | ((with_reducible refine g_call 13 ?_); (first | refine Ef_callP rfl rfl ent_13 (fun w hp => hsr w (hp.in_old (hia x (mem_of_some hx))) (hp.in_old (hib y (mem_of_some hy)))) ?_))))
                | ((with_reducible refine g_draw ?_); (first | (((with_reducible refine' T.drawM (id := 6) [(0, true), (1, true), (2, true), (3, true), (4, true), (5, true), (6, false), (7, false), (8, false), (9, false), (10, false), (11, false), (12, true), (13, true), (14, true), (15, true), (16, true), (17, true), (18, false), (19, false), (20, false), (21, false), (22, false), (23, false), (24, false), (25, true), (26, true), (27, true), (28, true), (29, true), (30, true), (31, false), (32, false), (33, false), (34, false), (35, false), (36, false), (37, false)] mixd ?q1 ?_); (case q1 => kernel_rfl)))))
                | refine w1 ?_
                | (refine w2 ?_ ?_ <;> intro hc)
                | (refine w4 ?_; (intro _))
                | (refine w5 ?_; (intro _ _))
                | refine w3 ?_ ?_
                | fail_if_success skip)
            exact ret_n [] (res1 rfl rfl) (List.nil_sublist _) ⟨rfl, rfl⟩
      · rw [show i = n by omega] at hm
        rw [hm]
        repeat' (first
            | ((with_reducible refine is_load ?_); (first | ((refine' ⟨_, Yl_loadA_at rfl ?qa ?qb ?ql ?qc, ?_⟩); (case qa => exact agg_of rfl); (case qb => (repeat (first | exact .head _ | apply List.Mem.tail))); (case qc => (first | exact mE_rE _)); (case ql => rfl)) | ((refine' ⟨_, Yl_loadA_hp rfl ?qa ?qb ?ql ?qc, ?_⟩); (case qa => exact agg_of rfl); (case qb => (first | exact fun _ hp => hp.rd ha fun _ => List.not_mem_nil | exact fun _ hp => hp.rd hb fun _ => List.not_mem_nil)); (case qc => assumption); (case ql => rfl))))
            | ((with_reducible refine ie_callf ?_); (first  | ((with_reducible refine g_call 13 ?_); (first | refine Ef_callP rfl rfl ent_13 (fun w hp => hsr w (hp.in_old (hia x (mem_of_some hx))) (hp.in_old (hib y (mem_of_some hy)))) ?_))))
            | ((with_reducible refine g_draw ?_); (first | (((with_reducible refine' T.drawM (id := 6) [(0, true), (1, true), (2, true), (3, true), (4, true), (5, true), (6, false), (7, false), (8, false), (9, false), (10, false), (11, false), (12, true), (13, true), (14, true), (15, true), (16, true), (17, true), (18, false), (19, false), (20, false), (21, false), (22, false), (23, false), (24, false), (25, true), (26, true), (27, true), (28, true), (29, true), (30, true), (31, false), (32, false), (33, false), (34, false), (35, false), (36, false), (37, false)] mixd ?q1 ?_); (case q1 => kernel_rfl)))))
            | refine w1 ?_
            | (refine w2 ?_ ?_ <;> intro hc)
            | (refine w4 ?_; (intro _))
            | (refine w5 ?_; (intro _ _))
            | refine w3 ?_ ?_
            | fail_if_success skip)
        exact ret_n [] (res1 rfl rfl) (List.nil_sublist _) ⟨rfl, rfl⟩
  · rw [decide_eq_false hll, Bool.false_and]
    refine Sp.enter (n := 55) Try.func11 rfl rfl rfl (Hp.refl w) ?_
    repeat' (first
        | ((with_reducible refine is_load ?_); (first | ((refine' ⟨_, Yl_loadA_at rfl ?qa ?qb ?ql ?qc, ?_⟩); (case qa => exact agg_of rfl); (case qb => (repeat (first | exact .head _ | apply List.Mem.tail))); (case qc => (first | exact mE_rE _)); (case ql => rfl)) | ((refine' ⟨_, Yl_loadA_hp rfl ?qa ?qb ?ql ?qc, ?_⟩); (case qa => exact agg_of rfl); (case qb => (first | exact fun _ hp => hp.rd ha fun _ => List.not_mem_nil | exact fun _ hp => hp.rd hb fun _ => List.not_mem_nil)); (case qc => assumption); (case ql => rfl))))
        | ((with_reducible refine ie_callf ?_); (first  | ((with_reducible refine g_call 13 ?_); (first | refine Ef_callP rfl rfl ent_13 (fun w hp => hsr w (hp.in_old (hia x (mem_of_some hx))) (hp.in_old (hib y (mem_of_some hy)))) ?_))))
        | ((with_reducible refine g_draw ?_); (first | (((with_reducible refine' T.drawM (id := 6) [(0, true), (1, true), (2, true), (3, true), (4, true), (5, true), (6, false), (7, false), (8, false), (9, false), (10, false), (11, false), (12, true), (13, true), (14, true), (15, true), (16, true), (17, true), (18, false), (19, false), (20, false), (21, false), (22, false), (23, false), (24, false), (25, true), (26, true), (27, true), (28, true), (29, true), (30, true), (31, false), (32, false), (33, false), (34, false), (35, false), (36, false), (37, false)] mixd ?q1 ?_); (case q1 => kernel_rfl)))))
        | refine w1 ?_
        | (refine w2 ?_ ?_ <;> intro hc)
        | (refine w4 ?_; (intro _))
        | (refine w5 ?_; (intro _ _))
        | refine w3 ?_ ?_
        | fail_if_success skip)
    exact ret_n [] (res1 rfl rfl) (List.nil_sublist _) ⟨rfl, rfl⟩
end

section
variable (A : Option Addr) (c : Nat) (l : List Me) (w : World) (ha : Rd w A l.length 77 (l.flatMap mE)) (hle : l.length ≤ 9223372036854775806) (hlk : ∀ x ∈ l, x.1.r.keys.length ≤ 140737488355328)
include ha hle hlk
set_option maxHeartbeats 4000000 in
theorem great_v (q : Bool) (hres : Rl.big l = q) : Sp Try.prog 8 [.slice A l.length c] w [] fun v N => v = .bool q ∧ N = [] := by
  subst hres
  unfold Rl.big
  obtain ⟨n, hn⟩ : ∃ n, l.length = n := ⟨_, rfl⟩
  rw [hn] at ha hle ⊢
  by_cases h20 : 20 < n
  · rw [decide_eq_true h20, Bool.true_or]
    refine Sp.enter (n := 26) Try.func8 rfl rfl rfl (Hp.refl w) ?_
    repeat' (first | ((with_reducible refine is_load ?_); (first | ((refine' ⟨_, Yl_loadA_at rfl ?qa ?qb ?ql ?qc, ?_⟩); (case qa => exact agg_of rfl); (case qb => (repeat (first | exact .head _ | apply List.Mem.tail))); (case qc => (first | exact mE_rE _)); (case ql => rfl)) | ((refine' ⟨_, Yl_loadA_hp rfl ?qa ?qb ?ql ?qc, ?_⟩); (case qa => exact agg_of rfl); (case qb => (first | exact fun _ hp => hp.rd ha fun _ => List.not_mem_nil | exact fun _ hp => hp.rd hb fun _ => List.not_mem_nil)); (case qc => assumption); (case ql => rfl))))        | refine w1 ?_ | (refine w2 ?_ ?_ <;> intro hc)  | (refine w4 ?_; (intro _)) | (refine w5 ?_; (intro _ _)) | refine w3 ?_ ?_ | fail_if_success skip)
    exact ret_n [] (res1 rfl rfl) (List.nil_sublist _) ⟨rfl, rfl⟩
  · rw [decide_eq_false h20, Bool.false_or]
    refine Sp.enter (n := 26) Try.func8 rfl rfl rfl (Hp.refl w) ?_
    repeat' (first | ((with_reducible refine is_load ?_); (first | ((refine' ⟨_, Yl_loadA_at rfl ?qa ?qb ?ql ?qc, ?_⟩); (case qa => exact agg_of rfl); (case qb => (repeat (first | exact .head _ | apply List.Mem.tail))); (case qc => (first | exact mE_rE _)); (case ql => rfl)) | ((refine' ⟨_, Yl_loadA_hp rfl ?qa ?qb ?ql ?qc, ?_⟩); (case qa => exact agg_of rfl); (case qb => (first | exact fun _ hp => hp.rd ha fun _ => List.not_mem_nil | exact fun _ hp => hp.rd hb fun _ => List.not_mem_nil)); (case qc => assumption); (case ql => rfl))))        | refine w1 ?_ | (refine w2 ?_ ?_ <;> intro hc)  | (refine w4 ?_; (intro _)) | (refine w5 ?_; (intro _ _)) | refine w3 ?_ ?_ | fail_if_success skip)
    refine T.loop (α := Nat × Nat) (fun z => [(0, .slice A n c), (3, .int .i64 (z.2 : Int)), (4, .int .i64 (z.1 : Int))]) (fun _ => []) (fun z => z.1 ≤ n ∧ z.2 ≤ 400 ∧ Rl.bigs z.2 (l.drop z.1) = Rl.bigs n l) (fun z => n - z.1) (0, n) ?_ ?_ ?_ ?_
    · (repeat (first | exact Sub.nil | refine Sub.cons rfl ?_))
    · (repeat (first | exact List.nil_sublist _ | refine List.Sublist.cons_cons _ ?_ | refine List.Sublist.cons _ ?_))
    · exact ⟨Nat.zero_le _, by (first | omega | (dsimp only; omega) | (simp; omega)), rfl⟩
    · rintro ⟨i, s⟩ ⟨hi, hs, hb⟩
      dsimp only at hi hs hb ⊢
      by_cases hlt : i < n
      · obtain ⟨x, hx⟩ := some_of_lt (l := l) (i := i) (by omega)
        have e4 : (l.flatMap mE)[i * 77 + 2 + 2]? = some (.slice x.2.1 x.1.r.keys.length x.2.2) := enc_at mE_len hx (j := 4) (by decide)
        have hkl := hlk x (mem_of_some hx)
        rw [Rl.drop_at hx] at hb
        rw [Rl.bigs_cons] at hb
        generalize x.1.r.keys.length = k at e4 hkl hb
        by_cases h4 : 400 < s + k
        · rw [decide_eq_true h4, Bool.true_or] at hb
          rw [← hb]
          repeat' (first | ((with_reducible refine is_load ?_); (first | ((refine' ⟨_, Yl_loadA_at rfl ?qa ?qb ?ql ?qc, ?_⟩); (case qa => exact agg_of rfl); (case qb => (repeat (first | exact .head _ | apply List.Mem.tail))); (case qc => (first | exact mE_rE _)); (case ql => rfl)) | ((refine' ⟨_, Yl_loadA_hp rfl ?qa ?qb ?ql ?qc, ?_⟩); (case qa => exact agg_of rfl); (case qb => (first | exact fun _ hp => hp.rd ha fun _ => List.not_mem_nil | exact fun _ hp => hp.rd hb fun _ => List.not_mem_nil)); (case qc => assumption); (case ql => rfl))))        | refine w1 ?_ | (refine w2 ?_ ?_ <;> intro hc)  | (refine w4 ?_; (intro _)) | (refine w5 ?_; (intro _ _)) | refine w3 ?_ ?_ | fail_if_success skip)
          exact ret_n [] (res1 rfl rfl) (List.nil_sublist _) ⟨rfl, rfl⟩
        · rw [decide_eq_false h4, Bool.false_or] at hb
          repeat' (first | ((with_reducible refine is_load ?_); (first | ((refine' ⟨_, Yl_loadA_at rfl ?qa ?qb ?ql ?qc, ?_⟩); (case qa => exact agg_of rfl); (case qb => (repeat (first | exact .head _ | apply List.Mem.tail))); (case qc => (first | exact mE_rE _)); (case ql => rfl)) | ((refine' ⟨_, Yl_loadA_hp rfl ?qa ?qb ?ql ?qc, ?_⟩); (case qa => exact agg_of rfl); (case qb => (first | exact fun _ hp => hp.rd ha fun _ => List.not_mem_nil | exact fun _ hp => hp.rd hb fun _ => List.not_mem_nil)); (case qc => assumption); (case ql => rfl))))        | refine w1 ?_ | (refine w2 ?_ ?_ <;> intro hc)  | (refine w4 ?_; (intro _)) | (refine w5 ?_; (intro _ _)) | refine w3 ?_ ?_ | fail_if_success skip)
          refine loopQ_n (i + 1, s + k) ?_ ?_ ⟨by (first | omega | (dsimp only; omega) | (simp; omega)), by (first | omega | (dsimp only; omega) | (simp; omega)), hb⟩ (by (first | omega | (dsimp only; omega) | (simp; omega)))
          · (repeat (first | exact Sub.nil | refine Sub.cons rfl ?_))
          · (repeat (first | exact List.nil_sublist _ | refine List.Sublist.cons_cons _ ?_ | refine List.Sublist.cons _ ?_))
      · rw [List.drop_of_length_le (by omega)] at hb
        rw [← hb]
        repeat' (first | ((with_reducible refine is_load ?_); (first | ((refine' ⟨_, Yl_loadA_at rfl ?qa ?qb ?ql ?qc, ?_⟩); (case qa => exact agg_of rfl); (case qb => (repeat (first | exact .head _ | apply List.Mem.tail))); (case qc => (first | exact mE_rE _)); (case ql => rfl)) | ((refine' ⟨_, Yl_loadA_hp rfl ?qa ?qb ?ql ?qc, ?_⟩); (case qa => exact agg_of rfl); (case qb => (first | exact fun _ hp => hp.rd ha fun _ => List.not_mem_nil | exact fun _ hp => hp.rd hb fun _ => List.not_mem_nil)); (case qc => assumption); (case ql => rfl))))        | refine w1 ?_ | (refine w2 ?_ ?_ <;> intro hc)  | (refine w4 ?_; (intro _)) | (refine w5 ?_; (intro _ _)) | refine w3 ?_ ?_ | fail_if_success skip)
        exact ret_n [] (res1 rfl rfl) (List.nil_sublist _) ⟨rfl, rfl⟩
end
end Go.Proofs.Ythiacfpfgdoliaa
