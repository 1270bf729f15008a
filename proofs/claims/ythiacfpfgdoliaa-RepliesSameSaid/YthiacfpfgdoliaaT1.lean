/- Whether replies are the same: what a call comes to. -/
import Derived.Test.YthiacfpfgdoliaaRl
import Derived.Test.YthiacfpfgdoliaaFacts
namespace Go.Proofs.Ythiacfpfgdoliaa
open Go.RowKit
set_option maxRecDepth 20000

theorem ext_7 (a : Nat → Int) : (lkv a).toArray.extract 7 (7 + 32) = ((List.range 32).map fun i => Value.int .u8 (a (7 + i))).toArray := by
  rw [List.extract_toArray]
  exact congrArg List.toArray (by rfl)
theorem ext_39 (a : Nat → Int) : (lkv a).toArray.extract 39 (39 + 32) = ((List.range 32).map fun i => Value.int .u8 (a (39 + i))).toArray := by
  rw [List.extract_toArray]
  exact congrArg List.toArray (by rfl)
theorem part_7 (a : Nat → Int) (w : World) : (part 26 (lkv a).toArray 7).run Try.prog w = .ok (.agg ((List.range 32).map fun i => Value.int .u8 (a (7 + i))).toArray) w := by
  rw [← ext_7]
  exact part_agg (k := 32) (by exact agg_of rfl) w
theorem part_39 (a : Nat → Int) (w : World) : (part 26 (lkv a).toArray 39).run Try.prog w = .ok (.agg ((List.range 32).map fun i => Value.int .u8 (a (39 + i))).toArray) w := by
  rw [← ext_39]
  exact part_agg (k := 32) (by exact agg_of rfl) w
theorem link_eq (a b : Nat → Int) : EqR Try.prog 10000 28 (.agg (lkv a).toArray) (.agg (lkv b).toArray) (Rl.eqL a b) := by
  have e : Rl.eqL a b = (decide (a 0 = b 0) && (decide (a 1 = b 1) && (decide (a 2 = b 2) && (decide (a 3 = b 3) && (decide (a 4 = b 4) && (decide (a 5 = b 5) && (decide (a 6 = b 6) && ((List.range 32).all (fun i => decide (a (7 + i) = b (7 + i))) && ((List.range 32).all (fun i => decide (a (39 + i) = b (39 + i))) && true))))))))) := by
    unfold Rl.eqL
    rw [show List.range 71 = [0, 1, 2, 3, 4, 5, 6] ++ ((List.range 32).map (7 + ·) ++ (List.range 32).map (39 + ·)) by decide +kernel]
    simp only [List.all_append, List.all_cons, List.all_nil, List.all_map, Bool.and_true, Bool.and_assoc, Function.comp_def]
  rw [e]
  refine EqR_struct str_28 (sto_of rfl) fls_28 ?_
  refine .cons (part_one (by exact one_of rfl) rfl) (part_one (by exact one_of rfl) rfl) (EqR_int (by exact und_of rfl)) ?_
  refine .cons (part_one (by exact one_of rfl) rfl) (part_one (by exact one_of rfl) rfl) (EqR_int (by exact und_of rfl)) ?_
  refine .cons (part_one (by exact one_of rfl) rfl) (part_one (by exact one_of rfl) rfl) (EqR_int (by exact und_of rfl)) ?_
  refine .cons (part_one (by exact one_of rfl) rfl) (part_one (by exact one_of rfl) rfl) (EqR_int (by exact und_of rfl)) ?_
  refine .cons (part_one (by exact one_of rfl) rfl) (part_one (by exact one_of rfl) rfl) (EqR_int (by exact und_of rfl)) ?_
  refine .cons (part_one (by exact one_of rfl) rfl) (part_one (by exact one_of rfl) rfl) (EqR_int (by exact und_of rfl)) ?_
  refine .cons (part_one (by exact one_of rfl) rfl) (part_one (by exact one_of rfl) rfl) (EqR_int (by exact und_of rfl)) ?_
  refine .cons (part_7 a) (part_7 b) (EqR_ints (P := Try.prog) (t := 26) (d := 9997) (m := 32) (k := .u8) (e := 5) (by exact und_of rfl) (by exact und_of rfl) (by exact siz_of rfl) (fun i => a (7 + i)) (fun i => b (7 + i))) ?_
  refine .cons (part_39 a) (part_39 b) (EqR_ints (P := Try.prog) (t := 26) (d := 9997) (m := 32) (k := .u8) (e := 5) (by exact und_of rfl) (by exact und_of rfl) (by exact siz_of rfl) (fun i => a (39 + i)) (fun i => b (39 + i))) ?_
  exact .nil

section
variable (A : Option Addr) (c : Nat) (l : List ByteArray) (B : Option Addr) (d : Nat) (m : List ByteArray) (w : World) (ha : Rd w A l.length 1 (l.flatMap kE)) (hb : Rd w B m.length 1 (m.flatMap kE)) (hle : l.length ≤ 9223372036854775806)
include ha hb hle
set_option maxHeartbeats 2000000 in
theorem equal_v (r : Bool) (hres : decide (l = m) = r) : Sp Try.prog 26 [.slice A l.length c, .slice B m.length d] w [] fun v N => v = .bool r ∧ N = [] := by
  subst hres
  generalize hn : l.length = n at ha hle ⊢
  generalize hn2 : m.length = n2 at hb ⊢
  by_cases hll : n = n2
  · subst hll
    refine Sp.enter (n := 26) Try.func26 rfl rfl rfl (Hp.refl w) ?_
    repeat' (first | ((with_reducible refine is_load ?_); (first | ((refine' ⟨_, Yl_loadA_at rfl ?qa ?qb ?ql ?qc, ?_⟩); (case qa => exact agg_of rfl); (case qb => (repeat (first | exact .head _ | apply List.Mem.tail))); (case qc => (first | exact rE_lk _ _ | exact mE_rE _)); (case ql => rfl))))       | ((with_reducible refine g_draw ?_); (first | (((with_reducible refine' T.drawM (id := 6) [(0, true), (1, true), (2, true), (3, true), (4, true), (5, false), (6, false), (7, false), (8, false)] mixd ?q1 ?_); (case q1 => kernel_rfl))))) | refine w1 ?_ | (refine w2 ?_ ?_ <;> intro hc) | (first | refine ⟨_, Yl_eqlA rfl rfl (eqg_of rfl) hlk.run, ?_⟩ | refine ⟨_, Yl_neqA rfl rfl (eqg_of rfl) hlk.run, ?_⟩) | (refine w4 ?_; (intro _)) | (refine w5 ?_; (intro _ _)) | refine w3 ?_ ?_ | fail_if_success skip)
    refine T.loop (α := Nat) (fun i => [(0, .slice A n c), (1, .slice B n d), (12, .int .i64 (n : Int)), (13, .int .i64 (i : Int))]) (fun _ => []) (fun i => i ≤ n ∧ l.take i = m.take i) (fun i => n - i) 0 ?_ ?_ ?_ ?_
    · (repeat (first | exact Sub.nil | refine Sub.cons rfl ?_))
    · (repeat (first | exact List.nil_sublist _ | refine List.Sublist.cons_cons _ ?_ | refine List.Sublist.cons _ ?_))
    · exact ⟨Nat.zero_le _, by simp⟩
    · rintro i ⟨hi, hm⟩
      by_cases hlt : i < n
      · obtain ⟨x, hx⟩ := some_of_lt (l := l) (i := i) (by omega)
        obtain ⟨y, hy⟩ := some_of_lt (l := m) (i := i) (by omega)
        have e0 : (l.flatMap kE)[i * 1]? = some (.string x) := enc_at kE_len hx (j := 0) (by decide)
        have e1 : (m.flatMap kE)[i * 1]? = some (.string y) := enc_at kE_len hy (j := 0) (by decide)
        by_cases hxy : x = y
        · repeat' (first | ((with_reducible refine is_load ?_); (first | ((refine' ⟨_, Yl_loadA_at rfl ?qa ?qb ?ql ?qc, ?_⟩); (case qa => exact agg_of rfl); (case qb => (repeat (first | exact .head _ | apply List.Mem.tail))); (case qc => (first | exact rE_lk _ _ | exact mE_rE _)); (case ql => rfl))))       | ((with_reducible refine g_draw ?_); (first | (((with_reducible refine' T.drawM (id := 6) [(0, true), (1, true), (2, true), (3, true), (4, true), (5, false), (6, false), (7, false), (8, false)] mixd ?q1 ?_); (case q1 => kernel_rfl))))) | refine w1 ?_ | (refine w2 ?_ ?_ <;> intro hc) | (first | refine ⟨_, Yl_eqlA rfl rfl (eqg_of rfl) hlk.run, ?_⟩ | refine ⟨_, Yl_neqA rfl rfl (eqg_of rfl) hlk.run, ?_⟩) | (refine w4 ?_; (intro _)) | (refine w5 ?_; (intro _ _)) | refine w3 ?_ ?_ | fail_if_success skip)
          refine loopQ_n (i + 1) ?_ ?_ ⟨by (first | omega | (dsimp only; omega) | (simp; omega)), by rw [take_snoc hx, take_snoc hy, hm, hxy]⟩ (by (first | omega | (dsimp only; omega) | (simp; omega)))
          · (repeat (first | exact Sub.nil | refine Sub.cons rfl ?_))
          · (repeat (first | exact List.nil_sublist _ | refine List.Sublist.cons_cons _ ?_ | refine List.Sublist.cons _ ?_))
        · rw [decide_eq_false (fun e => by subst e; rw [hx] at hy; exact hxy (Option.some.inj hy))]
          repeat' (first | ((with_reducible refine is_load ?_); (first | ((refine' ⟨_, Yl_loadA_at rfl ?qa ?qb ?ql ?qc, ?_⟩); (case qa => exact agg_of rfl); (case qb => (repeat (first | exact .head _ | apply List.Mem.tail))); (case qc => (first | exact rE_lk _ _ | exact mE_rE _)); (case ql => rfl))))       | ((with_reducible refine g_draw ?_); (first | (((with_reducible refine' T.drawM (id := 6) [(0, true), (1, true), (2, true), (3, true), (4, true), (5, false), (6, false), (7, false), (8, false)] mixd ?q1 ?_); (case q1 => kernel_rfl))))) | refine w1 ?_ | (refine w2 ?_ ?_ <;> intro hc) | (first | refine ⟨_, Yl_eqlA rfl rfl (eqg_of rfl) hlk.run, ?_⟩ | refine ⟨_, Yl_neqA rfl rfl (eqg_of rfl) hlk.run, ?_⟩) | (refine w4 ?_; (intro _)) | (refine w5 ?_; (intro _ _)) | refine w3 ?_ ?_ | fail_if_success skip)
          exact ret_n [] (res1 rfl rfl) (List.nil_sublist _) ⟨rfl, rfl⟩
      · rw [List.take_of_length_le (by omega), List.take_of_length_le (by omega)] at hm
        rw [decide_eq_true hm]
        repeat' (first | ((with_reducible refine is_load ?_); (first | ((refine' ⟨_, Yl_loadA_at rfl ?qa ?qb ?ql ?qc, ?_⟩); (case qa => exact agg_of rfl); (case qb => (repeat (first | exact .head _ | apply List.Mem.tail))); (case qc => (first | exact rE_lk _ _ | exact mE_rE _)); (case ql => rfl))))       | ((with_reducible refine g_draw ?_); (first | (((with_reducible refine' T.drawM (id := 6) [(0, true), (1, true), (2, true), (3, true), (4, true), (5, false), (6, false), (7, false), (8, false)] mixd ?q1 ?_); (case q1 => kernel_rfl))))) | refine w1 ?_ | (refine w2 ?_ ?_ <;> intro hc) | (first | refine ⟨_, Yl_eqlA rfl rfl (eqg_of rfl) hlk.run, ?_⟩ | refine ⟨_, Yl_neqA rfl rfl (eqg_of rfl) hlk.run, ?_⟩) | (refine w4 ?_; (intro _)) | (refine w5 ?_; (intro _ _)) | refine w3 ?_ ?_ | fail_if_success skip)
        exact ret_n [] (res1 rfl rfl) (List.nil_sublist _) ⟨rfl, rfl⟩
  · rw [decide_eq_false (fun e => hll (by rw [← hn, ← hn2, e]))]
    refine Sp.enter (n := 26) Try.func26 rfl rfl rfl (Hp.refl w) ?_
    repeat' (first | ((with_reducible refine is_load ?_); (first | ((refine' ⟨_, Yl_loadA_at rfl ?qa ?qb ?ql ?qc, ?_⟩); (case qa => exact agg_of rfl); (case qb => (repeat (first | exact .head _ | apply List.Mem.tail))); (case qc => (first | exact rE_lk _ _ | exact mE_rE _)); (case ql => rfl))))       | ((with_reducible refine g_draw ?_); (first | (((with_reducible refine' T.drawM (id := 6) [(0, true), (1, true), (2, true), (3, true), (4, true), (5, false), (6, false), (7, false), (8, false)] mixd ?q1 ?_); (case q1 => kernel_rfl))))) | refine w1 ?_ | (refine w2 ?_ ?_ <;> intro hc) | (first | refine ⟨_, Yl_eqlA rfl rfl (eqg_of rfl) hlk.run, ?_⟩ | refine ⟨_, Yl_neqA rfl rfl (eqg_of rfl) hlk.run, ?_⟩) | (refine w4 ?_; (intro _)) | (refine w5 ?_; (intro _ _)) | refine w3 ?_ ?_ | fail_if_success skip)
    exact ret_n [] (res1 rfl rfl) (List.nil_sublist _) ⟨rfl, rfl⟩
end

section
variable (r s : Rp) (h g : Hd) (w : World) (ha : In w r h) (hb : In w s g) (hle : r.keys.length ≤ 9223372036854775806)
include ha hb hle
set_option maxHeartbeats 4000000 in
theorem sreply_v (q : Bool) (hres : Rl.eqR r s = q) : Sp Try.prog 12 [.agg (rE r h).toArray, .agg (rE s g).toArray] w [] fun v N => v = .bool q ∧ N = [] := by
  have hlk := link_eq r.lk s.lk
  generalize hk : Rl.eqL r.lk s.lk = lk at hlk
  have heq := fun w h1 h2 => equal_v h.1 h.2 r.keys g.1 g.2 s.keys w h1 h2 hle _ rfl
  generalize hkk : decide (r.keys = s.keys) = kk at heq
  have hq : (decide (r.err = s.err) && decide (r.val = s.val) && kk && decide (r.n = s.n) && lk) = q := by rw [← hk, ← hkk]; exact hres
  clear hres hk hkk
  subst hq
  cases kk <;> cases lk
  all_goals
    refine Sp.enter (n := 38) Try.func12 rfl rfl rfl (Hp.refl w) ?_
    repeat' (first | ((with_reducible refine is_load ?_); (first | ((refine' ⟨_, Yl_loadA_at rfl ?qa ?qb ?ql ?qc, ?_⟩); (case qa => exact agg_of rfl); (case qb => (repeat (first | exact .head _ | apply List.Mem.tail))); (case qc => (first | exact rE_lk _ _ | exact mE_rE _)); (case ql => rfl))))    | ((with_reducible refine ie_callf ?_); (first | ((with_reducible refine g_call 26 ?_); (first | refine Ef_callP rfl rfl ent_26 (fun w hp => heq w (hp.in_old ha) (hp.in_old hb)) ?_))))    | refine w1 ?_ | (refine w2 ?_ ?_ <;> intro hc) | (first | refine ⟨_, Yl_eqlA rfl rfl (eqg_of rfl) hlk.run, ?_⟩ | refine ⟨_, Yl_neqA rfl rfl (eqg_of rfl) hlk.run, ?_⟩) | (refine w4 ?_; (intro _)) | (refine w5 ?_; (intro _ _)) | refine w3 ?_ ?_ | fail_if_success skip)
    all_goals exact ret_n [] (res1 rfl rfl) (List.nil_sublist _) ⟨by simp [*], rfl⟩

set_option maxHeartbeats 4000000 in
theorem rsreply_v (q : Bool) (hres : Rl.eqR r s = q) : Sp Try.prog 13 [.agg (rE r h).toArray, .agg (rE s g).toArray] w [] fun v N => v = .bool q ∧ N = [] := by
  have hlk := link_eq r.lk s.lk
  generalize hk : Rl.eqL r.lk s.lk = lk at hlk
  have hq : (decide (r.err = s.err) && decide (r.val = s.val) && decide (r.keys = s.keys) && decide (r.n = s.n) && lk) = q := by rw [← hk]; exact hres
  clear hres hk
  unfold In at ha hb
  obtain ⟨rn, hrn⟩ : ∃ rn, r.keys.length = rn := ⟨_, rfl⟩
  obtain ⟨sn, hsn⟩ : ∃ sn, s.keys.length = sn := ⟨_, rfl⟩
  have hkl : ¬ rn = sn → decide (r.keys = s.keys) = false := fun hne => decide_eq_false fun e => hne (by rw [← hrn, ← hsn, e])
  by_cases hgo : r.err = s.err ∧ r.val = s.val ∧ r.n = s.n ∧ lk = true ∧ rn = sn
  · obtain ⟨h1, h2, h3, rfl, rfl⟩ := hgo
    refine Sp.enter (n := 59) Try.func13 rfl rfl rfl (Hp.refl w) ?_
    repeat' (first | ((with_reducible refine is_load ?_); (first | ((refine' ⟨_, Yl_loadA_at rfl ?qa ?qb ?ql ?qc, ?_⟩); (case qa => exact agg_of rfl); (case qb => (repeat (first | exact .head _ | apply List.Mem.tail))); (case qc => (first | exact rE_lk _ _ | exact mE_rE _)); (case ql => rfl))))       | ((with_reducible refine g_draw ?_); (first  | (((with_reducible refine' T.drawM (id := 6) [(0, true), (1, true), (2, true), (3, true), (4, true), (5, true), (6, true), (7, false), (8, false), (9, false), (10, false)] mixd ?q1 ?_); (case q1 => kernel_rfl))))) | refine w1 ?_ | (refine w2 ?_ ?_ <;> intro hc) | (first | refine ⟨_, Yl_eqlA rfl rfl (eqg_of rfl) hlk.run, ?_⟩ | refine ⟨_, Yl_neqA rfl rfl (eqg_of rfl) hlk.run, ?_⟩) | (refine w4 ?_; (first | ((fail_if_success have := b1); intro b1) | ((fail_if_success have := b2); intro b2) | intro _)) | (refine w5 ?_; (intro _ _)) | refine w3 ?_ ?_ | fail_if_success skip)
    refine T.loop (α := Nat) (fun i => [(2, .pointer (some ⟨b1, 0, none⟩)), (3, .pointer (some ⟨b2, 0, none⟩)), (5, .int .i64 (i : Int))]) (fun _ => [.blk b2 (.cells (rE s g).toArray 30 (0, 0)), .blk b1 (.cells (rE r h).toArray 30 (0, 0))]) (fun i => i ≤ r.keys.length ∧ r.keys.take i = s.keys.take i) (fun i => r.keys.length - i) 0 ?_ ?_ ?_ ?_
    · (repeat (first | exact Sub.nil | refine Sub.cons rfl ?_))
    · (repeat (first | exact List.nil_sublist _ | refine List.Sublist.cons_cons _ ?_ | refine List.Sublist.cons _ ?_))
    · exact ⟨Nat.zero_le _, by simp⟩
    · rintro i ⟨hi, hm⟩
      by_cases hlt : i < r.keys.length
      · obtain ⟨x, hx⟩ := some_of_lt (l := r.keys) (i := i) hlt
        obtain ⟨y, hy⟩ := some_of_lt (l := s.keys) (i := i) (by omega)
        have e0 : (r.keys.flatMap kE)[i * 1]? = some (.string x) := enc_at kE_len hx (j := 0) (by decide)
        have e1 : (s.keys.flatMap kE)[i * 1]? = some (.string y) := enc_at kE_len hy (j := 0) (by decide)
        by_cases hxy : x = y
        · repeat' (first | ((with_reducible refine is_load ?_); (first | ((refine' ⟨_, Yl_loadA_at rfl ?qa ?qb ?ql ?qc, ?_⟩); (case qa => exact agg_of rfl); (case qb => (repeat (first | exact .head _ | apply List.Mem.tail))); (case qc => (first | exact rE_lk _ _ | exact mE_rE _)); (case ql => rfl))))       | ((with_reducible refine g_draw ?_); (first  | (((with_reducible refine' T.drawM (id := 6) [(0, true), (1, true), (2, true), (3, true), (4, true), (5, true), (6, true), (7, false), (8, false), (9, false), (10, false)] mixd ?q1 ?_); (case q1 => kernel_rfl))))) | refine w1 ?_ | (refine w2 ?_ ?_ <;> intro hc) | (first | refine ⟨_, Yl_eqlA rfl rfl (eqg_of rfl) hlk.run, ?_⟩ | refine ⟨_, Yl_neqA rfl rfl (eqg_of rfl) hlk.run, ?_⟩) | (refine w4 ?_; (first | ((fail_if_success have := b1); intro b1) | ((fail_if_success have := b2); intro b2) | intro _)) | (refine w5 ?_; (intro _ _)) | refine w3 ?_ ?_ | fail_if_success skip)
          refine loopQ_n (i + 1) ?_ ?_ ⟨by (first | omega | (dsimp only; omega) | (simp; omega)), by rw [take_snoc hx, take_snoc hy, hm, hxy]⟩ (by (first | omega | (dsimp only; omega) | (simp; omega)))
          · (repeat (first | exact Sub.nil | refine Sub.cons rfl ?_))
          · (repeat (first | exact List.nil_sublist _ | refine List.Sublist.cons_cons _ ?_ | refine List.Sublist.cons _ ?_))
        · rw [show decide (r.keys = s.keys) = false from decide_eq_false (fun e => by rw [e, hy] at hx; exact hxy (Option.some.inj hx).symm)] at hq
          simp only [Bool.and_false, Bool.false_and] at hq
          subst hq
          repeat' (first | ((with_reducible refine is_load ?_); (first | ((refine' ⟨_, Yl_loadA_at rfl ?qa ?qb ?ql ?qc, ?_⟩); (case qa => exact agg_of rfl); (case qb => (repeat (first | exact .head _ | apply List.Mem.tail))); (case qc => (first | exact rE_lk _ _ | exact mE_rE _)); (case ql => rfl))))       | ((with_reducible refine g_draw ?_); (first  | (((with_reducible refine' T.drawM (id := 6) [(0, true), (1, true), (2, true), (3, true), (4, true), (5, true), (6, true), (7, false), (8, false), (9, false), (10, false)] mixd ?q1 ?_); (case q1 => kernel_rfl))))) | refine w1 ?_ | (refine w2 ?_ ?_ <;> intro hc) | (first | refine ⟨_, Yl_eqlA rfl rfl (eqg_of rfl) hlk.run, ?_⟩ | refine ⟨_, Yl_neqA rfl rfl (eqg_of rfl) hlk.run, ?_⟩) | (refine w4 ?_; (first | ((fail_if_success have := b1); intro b1) | ((fail_if_success have := b2); intro b2) | intro _)) | (refine w5 ?_; (intro _ _)) | refine w3 ?_ ?_ | fail_if_success skip)
          exact ret_n [] (res1 rfl rfl) (List.nil_sublist _) ⟨rfl, rfl⟩
      · rw [List.take_of_length_le (by omega), List.take_of_length_le (by omega)] at hm
        rw [decide_eq_true hm, decide_eq_true h1, decide_eq_true h2, decide_eq_true h3] at hq
        simp only [Bool.and_self] at hq
        subst hq
        repeat' (first | ((with_reducible refine is_load ?_); (first | ((refine' ⟨_, Yl_loadA_at rfl ?qa ?qb ?ql ?qc, ?_⟩); (case qa => exact agg_of rfl); (case qb => (repeat (first | exact .head _ | apply List.Mem.tail))); (case qc => (first | exact rE_lk _ _ | exact mE_rE _)); (case ql => rfl))))       | ((with_reducible refine g_draw ?_); (first  | (((with_reducible refine' T.drawM (id := 6) [(0, true), (1, true), (2, true), (3, true), (4, true), (5, true), (6, true), (7, false), (8, false), (9, false), (10, false)] mixd ?q1 ?_); (case q1 => kernel_rfl))))) | refine w1 ?_ | (refine w2 ?_ ?_ <;> intro hc) | (first | refine ⟨_, Yl_eqlA rfl rfl (eqg_of rfl) hlk.run, ?_⟩ | refine ⟨_, Yl_neqA rfl rfl (eqg_of rfl) hlk.run, ?_⟩) | (refine w4 ?_; (first | ((fail_if_success have := b1); intro b1) | ((fail_if_success have := b2); intro b2) | intro _)) | (refine w5 ?_; (intro _ _)) | refine w3 ?_ ?_ | fail_if_success skip)
        exact ret_n [] (res1 rfl rfl) (List.nil_sublist _) ⟨rfl, rfl⟩
  · have hqf : q = false := by
      rw [← hq, Bool.eq_false_iff]
      intro hall
      simp only [Bool.and_eq_true, decide_eq_true_eq] at hall
      exact hgo ⟨hall.1.1.1.1, hall.1.1.1.2, hall.1.2, hall.2, by rw [← hrn, ← hsn, hall.1.1.2]⟩
    subst hqf
    clear hq hkl
    have hgo2 : (¬ r.err = s.err) ∨ (r.err = s.err ∧ ¬ r.val = s.val) ∨ (r.err = s.err ∧ r.val = s.val ∧ ¬ r.n = s.n) ∨ (r.err = s.err ∧ r.val = s.val ∧ r.n = s.n ∧ lk = false) ∨ (r.err = s.err ∧ r.val = s.val ∧ r.n = s.n ∧ lk = true ∧ ¬ r.keys.length = s.keys.length) := by
      by_cases g1 : r.err = s.err
      · by_cases g2 : r.val = s.val
        · by_cases g3 : r.n = s.n
          · cases g4 : lk
            · exact .inr (.inr (.inr (.inl ⟨g1, g2, g3, rfl⟩)))
            · exact .inr (.inr (.inr (.inr ⟨g1, g2, g3, rfl, fun e => hgo ⟨g1, g2, g3, g4, by omega⟩⟩)))
          · exact .inr (.inr (.inl ⟨g1, g2, g3⟩))
        · exact .inr (.inl ⟨g1, g2⟩)
      · exact .inl g1
    clear hgo
    rcases hgo2 with g1 | ⟨g1, g2⟩ | ⟨g1, g2, g3⟩ | ⟨g1, g2, g3, rfl⟩ | ⟨g1, g2, g3, rfl, g4⟩
    all_goals
      refine Sp.enter (n := 59) Try.func13 rfl rfl rfl (Hp.refl w) ?_
      repeat' (first | ((with_reducible refine is_load ?_); (first | ((refine' ⟨_, Yl_loadA_at rfl ?qa ?qb ?ql ?qc, ?_⟩); (case qa => exact agg_of rfl); (case qb => (repeat (first | exact .head _ | apply List.Mem.tail))); (case qc => (first | exact rE_lk _ _ | exact mE_rE _)); (case ql => rfl))))       | ((with_reducible refine g_draw ?_); (first  | (((with_reducible refine' T.drawM (id := 6) [(0, true), (1, true), (2, true), (3, true), (4, true), (5, true), (6, true), (7, false), (8, false), (9, false), (10, false)] mixd ?q1 ?_); (case q1 => kernel_rfl))))) | refine w1 ?_ | (refine w2 ?_ ?_ <;> intro hc) | (first | refine ⟨_, Yl_eqlA rfl rfl (eqg_of rfl) hlk.run, ?_⟩ | refine ⟨_, Yl_neqA rfl rfl (eqg_of rfl) hlk.run, ?_⟩) | (refine w4 ?_; (first | ((fail_if_success have := b1); intro b1) | ((fail_if_success have := b2); intro b2) | intro _)) | (refine w5 ?_; (intro _ _)) | refine w3 ?_ ?_ | fail_if_success skip)
      all_goals exact ret_n [] (res1 rfl rfl) (List.nil_sublist _) ⟨rfl, rfl⟩
end
end Go.Proofs.Ythiacfpfgdoliaa
