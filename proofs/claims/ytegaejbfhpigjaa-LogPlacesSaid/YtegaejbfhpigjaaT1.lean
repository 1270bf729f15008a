/- Whether bodies, entries, rows of entries are the same, and how much acts hold: what a call of each comes to. -/
import Derived.Test.YtegaejbfhpigjaaLg
import Derived.Test.YtegaejbfhpigjaaFacts
namespace Go.Proofs.Ytegaejbfhpigjaa
open Go.RowKit
set_option maxRecDepth 20000

theorem map_at {l : List Me} {i : Nat} {x : Me} (hx : l[i]? = some x) : (l.map (·.1))[i]? = some x.1 := by rw [List.getElem?_map, hx]; rfl
section
variable (A : Option Addr) (c : Nat) (l : List UInt8) (B : Option Addr) (d : Nat) (m : List UInt8) (w : World) (ha : Rd w A l.length 1 (l.flatMap eU)) (hb : Rd w B m.length 1 (m.flatMap eU)) (q : Bool) (hres : decide (l = m) = q)
include ha hb hres
theorem bequal_v : Sp Try.prog 45 [.slice A l.length c, .slice B m.length d] w [] fun v N => v = .bool q ∧ N = [] := by
  by_cases h : l = m
  · subst h
    rw [← hres, decide_eq_true rfl]
    refine Sp.enter (n := 10) Try.func45 rfl rfl rfl (Hp.refl w) ?_
    repeat' (first  | refine w1 ?_ | (refine w2 ?_ ?_ <;> intro hc) | (first | ((refine' ⟨_, Yl_str_hp rfl ?q1 ?q2 ?q3 (fun _ hp => hp.rd ha fun _ => List.not_mem_nil), ?_⟩); (case q1 => exact und_of rfl); (case q2 => exact und_of rfl); (case q3 => exact und_of rfl)) | ((refine' ⟨_, Yl_str_hp rfl ?q1 ?q2 ?q3 (fun _ hp => hp.rd hb fun _ => List.not_mem_nil), ?_⟩); (case q1 => exact und_of rfl); (case q2 => exact und_of rfl); (case q3 => exact und_of rfl)) | refine ⟨_, Yl_eql_str rfl rfl, ?_⟩ | ((refine' ⟨_, Yl_sl_h (h := l.length) rfl rfl ?q1 ?q2 ?q3, ?_⟩); (case q1 => exact und_of rfl); (case q2 => exact siz_of rfl); (case q3 => omega))) | (refine w4 ?_; (intro _)) | (refine w5 ?_; (intro _ _)) | refine w3 ?_ ?_ | fail_if_success skip)
    exact ret_n [] (res1 rfl rfl) (List.nil_sublist _) ⟨rfl, rfl⟩
  · have hne : ¬ (⟨l.toArray⟩ : ByteArray) = ⟨m.toArray⟩ := fun e => h (Lg.str_iff.1 e)
    rw [← hres, decide_eq_false h]
    refine Sp.enter (n := 10) Try.func45 rfl rfl rfl (Hp.refl w) ?_
    repeat' (first  | refine w1 ?_ | (refine w2 ?_ ?_ <;> intro hc) | (first | ((refine' ⟨_, Yl_str_hp rfl ?q1 ?q2 ?q3 (fun _ hp => hp.rd ha fun _ => List.not_mem_nil), ?_⟩); (case q1 => exact und_of rfl); (case q2 => exact und_of rfl); (case q3 => exact und_of rfl)) | ((refine' ⟨_, Yl_str_hp rfl ?q1 ?q2 ?q3 (fun _ hp => hp.rd hb fun _ => List.not_mem_nil), ?_⟩); (case q1 => exact und_of rfl); (case q2 => exact und_of rfl); (case q3 => exact und_of rfl)) | refine ⟨_, Yl_eql_str rfl rfl, ?_⟩ | ((refine' ⟨_, Yl_sl_h (h := l.length) rfl rfl ?q1 ?q2 ?q3, ?_⟩); (case q1 => exact und_of rfl); (case q2 => exact siz_of rfl); (case q3 => omega))) | (refine w4 ?_; (intro _)) | (refine w5 ?_; (intro _ _)) | refine w3 ?_ ?_ | fail_if_success skip)
    exact ret_n [] (res1 rfl rfl) (List.nil_sublist _) ⟨rfl, rfl⟩
variable (hle : l.length ≤ 9223372036854775806)
include hle
set_option maxHeartbeats 2000000 in
theorem bsame_v : Sp Try.prog 41 [.slice A l.length c, .slice B m.length d] w [] fun v N => v = .bool q ∧ N = [] := by
  subst hres
  generalize hn : l.length = n at ha hle ⊢
  generalize hn2 : m.length = n2 at hb ⊢
  by_cases hll : n = n2
  · subst hll
    refine Sp.enter (n := 26) Try.func41 rfl rfl rfl (Hp.refl w) ?_
    repeat' (first
        | ((with_reducible refine is_load ?_); (first | ((refine' ⟨_, Yl_loadA_hp rfl ?qa ?qb ?ql ?qc, ?_⟩); (case qa => exact agg_of rfl); (case qb => (first | exact fun _ hp => hp.rd ha fun _ => List.not_mem_nil | exact fun _ hp => hp.rd hb fun _ => List.not_mem_nil)); (case qc => assumption); (case ql => rfl))))
        | ((with_reducible refine g_draw ?_); (first | (((with_reducible refine' T.drawM (id := 6) [(0, true), (1, true), (2, true), (3, true), (4, true), (5, false), (6, false), (7, false), (8, false)] mixd ?q1 ?_); (case q1 => kernel_rfl)))))
        | refine w1 ?_
        | (refine w2 ?_ ?_ <;> intro hc)
        | (first | ((refine' ⟨_, Yl_str_hp rfl ?q1 ?q2 ?q3 (fun _ hp => hp.rd ha fun _ => List.not_mem_nil), ?_⟩); (case q1 => exact und_of rfl); (case q2 => exact und_of rfl); (case q3 => exact und_of rfl)) | ((refine' ⟨_, Yl_str_hp rfl ?q1 ?q2 ?q3 (fun _ hp => hp.rd hb fun _ => List.not_mem_nil), ?_⟩); (case q1 => exact und_of rfl); (case q2 => exact und_of rfl); (case q3 => exact und_of rfl)) | refine ⟨_, Yl_eql_str rfl rfl, ?_⟩ | ((refine' ⟨_, Yl_sl_h (h := l.length) rfl rfl ?q1 ?q2 ?q3, ?_⟩); (case q1 => exact und_of rfl); (case q2 => exact siz_of rfl); (case q3 => omega)))
        | (refine w4 ?_; (intro _))
        | (refine w5 ?_; (intro _ _))
        | refine w3 ?_ ?_
        | fail_if_success skip)
    refine T.loop (α := Nat) (fun i => [(0, .slice A n c), (1, .slice B n d), (5, .int .i64 (i : Int))]) (fun _ => []) (fun i => i ≤ n ∧ l.take i = m.take i) (fun i => n - i) 0 ?_ ?_ ?_ ?_
    · (repeat (first | exact Sub.nil | refine Sub.cons rfl ?_))
    · (repeat (first | exact List.nil_sublist _ | refine List.Sublist.cons_cons _ ?_ | refine List.Sublist.cons _ ?_))
    · exact ⟨Nat.zero_le _, by simp⟩
    · rintro i ⟨hi, hm⟩
      by_cases hlt : i < n
      · obtain ⟨x, hx⟩ := some_of_lt (l := l) (i := i) (by omega)
        obtain ⟨y, hy⟩ := some_of_lt (l := m) (i := i) (by omega)
        have e0 : (l.flatMap eU)[i * 1]? = some (.int .u8 (x.toNat : Int)) := enc_at eU_len hx (j := 0) (by decide)
        have e1 : (m.flatMap eU)[i * 1]? = some (.int .u8 (y.toNat : Int)) := enc_at eU_len hy (j := 0) (by decide)
        by_cases hxy : x = y
        · subst hxy
          repeat' (first
              | ((with_reducible refine is_load ?_); (first | ((refine' ⟨_, Yl_loadA_hp rfl ?qa ?qb ?ql ?qc, ?_⟩); (case qa => exact agg_of rfl); (case qb => (first | exact fun _ hp => hp.rd ha fun _ => List.not_mem_nil | exact fun _ hp => hp.rd hb fun _ => List.not_mem_nil)); (case qc => assumption); (case ql => rfl))))
              | ((with_reducible refine g_draw ?_); (first | (((with_reducible refine' T.drawM (id := 6) [(0, true), (1, true), (2, true), (3, true), (4, true), (5, false), (6, false), (7, false), (8, false)] mixd ?q1 ?_); (case q1 => kernel_rfl)))))
              | refine w1 ?_
              | (refine w2 ?_ ?_ <;> intro hc)
              | (first | ((refine' ⟨_, Yl_str_hp rfl ?q1 ?q2 ?q3 (fun _ hp => hp.rd ha fun _ => List.not_mem_nil), ?_⟩); (case q1 => exact und_of rfl); (case q2 => exact und_of rfl); (case q3 => exact und_of rfl)) | ((refine' ⟨_, Yl_str_hp rfl ?q1 ?q2 ?q3 (fun _ hp => hp.rd hb fun _ => List.not_mem_nil), ?_⟩); (case q1 => exact und_of rfl); (case q2 => exact und_of rfl); (case q3 => exact und_of rfl)) | refine ⟨_, Yl_eql_str rfl rfl, ?_⟩ | ((refine' ⟨_, Yl_sl_h (h := l.length) rfl rfl ?q1 ?q2 ?q3, ?_⟩); (case q1 => exact und_of rfl); (case q2 => exact siz_of rfl); (case q3 => omega)))
              | (refine w4 ?_; (intro _))
              | (refine w5 ?_; (intro _ _))
              | refine w3 ?_ ?_
              | fail_if_success skip)
          refine loopQ_n (i + 1) ?_ ?_ ⟨by (first | omega | (dsimp only; omega) | (simp; omega)), by rw [take_snoc hx, take_snoc hy, hm]⟩ (by (first | omega | (dsimp only; omega) | (simp; omega)))
          · (repeat (first | exact Sub.nil | refine Sub.cons rfl ?_))
          · (repeat (first | exact List.nil_sublist _ | refine List.Sublist.cons_cons _ ?_ | refine List.Sublist.cons _ ?_))
        · have hne : ¬ (x.toNat : Int) = (y.toNat : Int) := fun h => hxy (UInt8.toNat_inj.1 (by omega))
          rw [decide_eq_false (fun e => by subst e; rw [hx] at hy; exact hxy (Option.some.inj hy))]
          repeat' (first
              | ((with_reducible refine is_load ?_); (first | ((refine' ⟨_, Yl_loadA_hp rfl ?qa ?qb ?ql ?qc, ?_⟩); (case qa => exact agg_of rfl); (case qb => (first | exact fun _ hp => hp.rd ha fun _ => List.not_mem_nil | exact fun _ hp => hp.rd hb fun _ => List.not_mem_nil)); (case qc => assumption); (case ql => rfl))))
              | ((with_reducible refine g_draw ?_); (first | (((with_reducible refine' T.drawM (id := 6) [(0, true), (1, true), (2, true), (3, true), (4, true), (5, false), (6, false), (7, false), (8, false)] mixd ?q1 ?_); (case q1 => kernel_rfl)))))
              | refine w1 ?_
              | (refine w2 ?_ ?_ <;> intro hc)
              | (first | ((refine' ⟨_, Yl_str_hp rfl ?q1 ?q2 ?q3 (fun _ hp => hp.rd ha fun _ => List.not_mem_nil), ?_⟩); (case q1 => exact und_of rfl); (case q2 => exact und_of rfl); (case q3 => exact und_of rfl)) | ((refine' ⟨_, Yl_str_hp rfl ?q1 ?q2 ?q3 (fun _ hp => hp.rd hb fun _ => List.not_mem_nil), ?_⟩); (case q1 => exact und_of rfl); (case q2 => exact und_of rfl); (case q3 => exact und_of rfl)) | refine ⟨_, Yl_eql_str rfl rfl, ?_⟩ | ((refine' ⟨_, Yl_sl_h (h := l.length) rfl rfl ?q1 ?q2 ?q3, ?_⟩); (case q1 => exact und_of rfl); (case q2 => exact siz_of rfl); (case q3 => omega)))
              | (refine w4 ?_; (intro _))
              | (refine w5 ?_; (intro _ _))
              | refine w3 ?_ ?_
              | fail_if_success skip)
          exact ret_n [] (res1 rfl rfl) (List.nil_sublist _) ⟨rfl, rfl⟩
      · rw [List.take_of_length_le (by omega), List.take_of_length_le (by omega)] at hm
        rw [decide_eq_true hm]
        repeat' (first
            | ((with_reducible refine is_load ?_); (first | ((refine' ⟨_, Yl_loadA_hp rfl ?qa ?qb ?ql ?qc, ?_⟩); (case qa => exact agg_of rfl); (case qb => (first | exact fun _ hp => hp.rd ha fun _ => List.not_mem_nil | exact fun _ hp => hp.rd hb fun _ => List.not_mem_nil)); (case qc => assumption); (case ql => rfl))))
            | ((with_reducible refine g_draw ?_); (first | (((with_reducible refine' T.drawM (id := 6) [(0, true), (1, true), (2, true), (3, true), (4, true), (5, false), (6, false), (7, false), (8, false)] mixd ?q1 ?_); (case q1 => kernel_rfl)))))
            | refine w1 ?_
            | (refine w2 ?_ ?_ <;> intro hc)
            | (first | ((refine' ⟨_, Yl_str_hp rfl ?q1 ?q2 ?q3 (fun _ hp => hp.rd ha fun _ => List.not_mem_nil), ?_⟩); (case q1 => exact und_of rfl); (case q2 => exact und_of rfl); (case q3 => exact und_of rfl)) | ((refine' ⟨_, Yl_str_hp rfl ?q1 ?q2 ?q3 (fun _ hp => hp.rd hb fun _ => List.not_mem_nil), ?_⟩); (case q1 => exact und_of rfl); (case q2 => exact und_of rfl); (case q3 => exact und_of rfl)) | refine ⟨_, Yl_eql_str rfl rfl, ?_⟩ | ((refine' ⟨_, Yl_sl_h (h := l.length) rfl rfl ?q1 ?q2 ?q3, ?_⟩); (case q1 => exact und_of rfl); (case q2 => exact siz_of rfl); (case q3 => omega)))
            | (refine w4 ?_; (intro _))
            | (refine w5 ?_; (intro _ _))
            | refine w3 ?_ ?_
            | fail_if_success skip)
        exact ret_n [] (res1 rfl rfl) (List.nil_sublist _) ⟨rfl, rfl⟩
  · rw [decide_eq_false (fun e => hll (by rw [← hn, ← hn2, e]))]
    refine Sp.enter (n := 26) Try.func41 rfl rfl rfl (Hp.refl w) ?_
    repeat' (first
        | ((with_reducible refine is_load ?_); (first | ((refine' ⟨_, Yl_loadA_hp rfl ?qa ?qb ?ql ?qc, ?_⟩); (case qa => exact agg_of rfl); (case qb => (first | exact fun _ hp => hp.rd ha fun _ => List.not_mem_nil | exact fun _ hp => hp.rd hb fun _ => List.not_mem_nil)); (case qc => assumption); (case ql => rfl))))
        | ((with_reducible refine g_draw ?_); (first | (((with_reducible refine' T.drawM (id := 6) [(0, true), (1, true), (2, true), (3, true), (4, true), (5, false), (6, false), (7, false), (8, false)] mixd ?q1 ?_); (case q1 => kernel_rfl)))))
        | refine w1 ?_
        | (refine w2 ?_ ?_ <;> intro hc)
        | (first | ((refine' ⟨_, Yl_str_hp rfl ?q1 ?q2 ?q3 (fun _ hp => hp.rd ha fun _ => List.not_mem_nil), ?_⟩); (case q1 => exact und_of rfl); (case q2 => exact und_of rfl); (case q3 => exact und_of rfl)) | ((refine' ⟨_, Yl_str_hp rfl ?q1 ?q2 ?q3 (fun _ hp => hp.rd hb fun _ => List.not_mem_nil), ?_⟩); (case q1 => exact und_of rfl); (case q2 => exact und_of rfl); (case q3 => exact und_of rfl)) | refine ⟨_, Yl_eql_str rfl rfl, ?_⟩ | ((refine' ⟨_, Yl_sl_h (h := l.length) rfl rfl ?q1 ?q2 ?q3, ?_⟩); (case q1 => exact und_of rfl); (case q2 => exact siz_of rfl); (case q3 => omega)))
        | (refine w4 ?_; (intro _))
        | (refine w5 ?_; (intro _ _))
        | refine w3 ?_ ?_
        | fail_if_success skip)
    exact ret_n [] (res1 rfl rfl) (List.nil_sublist _) ⟨rfl, rfl⟩
end

section
variable (x y : Me) (w : World) (ha : In w x) (hb : In w y) (q : Bool) (hres : Lg.eqE x.1 y.1 = q)
include ha hb hres
set_option maxHeartbeats 2000000 in
theorem esame_v : Sp Try.prog 32 [.agg (mE x).toArray, .agg (mE y).toArray] w [] fun v N => v = .bool q ∧ N = [] := by
  have hbe := fun w h1 h2 => bequal_v x.2.1 x.2.2 x.1.body y.2.1 y.2.2 y.1.body w h1 h2 _ rfl
  generalize hk : decide (x.1.body = y.1.body) = k at hbe
  have hq : (decide (x.1.pos = y.1.pos) && decide (x.1.stamp = y.1.stamp) && decide (x.1.client = y.1.client) && decide (x.1.id = y.1.id) && k) = q := by rw [← hk]; exact hres
  clear hres hk
  subst hq
  cases k
  all_goals
    refine Sp.enter (n := 38) Try.func32 rfl rfl rfl (Hp.refl w) ?_
    repeat' (first
        | ((with_reducible refine is_load ?_); (first | ((refine' ⟨_, Yl_loadA_hp rfl ?qa ?qb ?ql ?qc, ?_⟩); (case qa => exact agg_of rfl); (case qb => (first | exact fun _ hp => hp.rd ha fun _ => List.not_mem_nil | exact fun _ hp => hp.rd hb fun _ => List.not_mem_nil)); (case qc => assumption); (case ql => rfl))))
        | ((with_reducible refine ie_callf ?_); (first | ((with_reducible refine g_call 45 ?_); (first | refine Ef_callP rfl rfl ent_45 (fun w hp => hbe w (hp.in_old ha) (hp.in_old hb)) ?_))))
        | refine w1 ?_
        | (refine w2 ?_ ?_ <;> intro hc)
        | (first | ((refine' ⟨_, Yl_str_hp rfl ?q1 ?q2 ?q3 (fun _ hp => hp.rd ha fun _ => List.not_mem_nil), ?_⟩); (case q1 => exact und_of rfl); (case q2 => exact und_of rfl); (case q3 => exact und_of rfl)) | ((refine' ⟨_, Yl_str_hp rfl ?q1 ?q2 ?q3 (fun _ hp => hp.rd hb fun _ => List.not_mem_nil), ?_⟩); (case q1 => exact und_of rfl); (case q2 => exact und_of rfl); (case q3 => exact und_of rfl)) | refine ⟨_, Yl_eql_str rfl rfl, ?_⟩ | ((refine' ⟨_, Yl_sl_h (h := l.length) rfl rfl ?q1 ?q2 ?q3, ?_⟩); (case q1 => exact und_of rfl); (case q2 => exact siz_of rfl); (case q3 => omega)))
        | (refine w4 ?_; (intro _))
        | (refine w5 ?_; (intro _ _))
        | refine w3 ?_ ?_
        | fail_if_success skip)
    all_goals exact ret_n [] (res1 rfl rfl) (List.nil_sublist _) ⟨by simp [*], rfl⟩
variable (hle : x.1.body.length ≤ 9223372036854775806)
include hle
set_option maxHeartbeats 2000000 in
theorem rsame1_v : Sp Try.prog 23 [.agg (mE x).toArray, .agg (mE y).toArray] w [] fun v N => v = .bool q ∧ N = [] := by
  have hbe := fun w h1 h2 => bsame_v x.2.1 x.2.2 x.1.body y.2.1 y.2.2 y.1.body w h1 h2 _ rfl hle
  generalize hk : decide (x.1.body = y.1.body) = k at hbe
  have hq : (decide (x.1.pos = y.1.pos) && decide (x.1.stamp = y.1.stamp) && decide (x.1.client = y.1.client) && decide (x.1.id = y.1.id) && k) = q := by rw [← hk]; exact hres
  clear hres hk
  subst hq
  cases k
  all_goals
    refine Sp.enter (n := 38) Try.func23 rfl rfl rfl (Hp.refl w) ?_
    repeat' (first
        | ((with_reducible refine is_load ?_); (first | ((refine' ⟨_, Yl_loadA_hp rfl ?qa ?qb ?ql ?qc, ?_⟩); (case qa => exact agg_of rfl); (case qb => (first | exact fun _ hp => hp.rd ha fun _ => List.not_mem_nil | exact fun _ hp => hp.rd hb fun _ => List.not_mem_nil)); (case qc => assumption); (case ql => rfl))))
        | ((with_reducible refine ie_callf ?_); (first  | ((with_reducible refine g_call 41 ?_); (first | refine Ef_callP rfl rfl ent_41 (fun w hp => hbe w (hp.in_old ha) (hp.in_old hb)) ?_))))
        | refine w1 ?_
        | (refine w2 ?_ ?_ <;> intro hc)
        | (first | ((refine' ⟨_, Yl_str_hp rfl ?q1 ?q2 ?q3 (fun _ hp => hp.rd ha fun _ => List.not_mem_nil), ?_⟩); (case q1 => exact und_of rfl); (case q2 => exact und_of rfl); (case q3 => exact und_of rfl)) | ((refine' ⟨_, Yl_str_hp rfl ?q1 ?q2 ?q3 (fun _ hp => hp.rd hb fun _ => List.not_mem_nil), ?_⟩); (case q1 => exact und_of rfl); (case q2 => exact und_of rfl); (case q3 => exact und_of rfl)) | refine ⟨_, Yl_eql_str rfl rfl, ?_⟩ | ((refine' ⟨_, Yl_sl_h (h := l.length) rfl rfl ?q1 ?q2 ?q3, ?_⟩); (case q1 => exact und_of rfl); (case q2 => exact siz_of rfl); (case q3 => omega)))
        | (refine w4 ?_; (intro _))
        | (refine w5 ?_; (intro _ _))
        | refine w3 ?_ ?_
        | fail_if_success skip)
    all_goals exact ret_n [] (res1 rfl rfl) (List.nil_sublist _) ⟨by simp [*], rfl⟩
end

section
variable (A : Option Addr) (c : Nat) (l : List Me) (B : Option Addr) (d : Nat) (m : List Me) (w : World) (ha : Rd w A l.length 5 (l.flatMap mE)) (hb : Rd w B m.length 5 (m.flatMap mE)) (hia : Ins w l) (hib : Ins w m)
  (hle : l.length ≤ 9223372036854775806) (hlk : ∀ x ∈ l, x.1.body.length ≤ 9223372036854775806)
include ha hb hia hib hle hlk
section
variable (q : Bool) (hres : decide (l.map (·.1) = m.map (·.1)) = q)
include hres
omit hlk in
set_option maxHeartbeats 4000000 in
theorem equalf_v : Sp Try.prog 31 [.slice A l.length c, .slice B m.length d, .func (.func 32) #[] #[]] w [] fun v N => v = .bool q ∧ N = [] := by
  subst hres
  generalize hn : l.length = n at ha hle ⊢
  generalize hn2 : m.length = n2 at hb ⊢
  by_cases hll : n = n2
  · subst hll
    refine Sp.enter (n := 32) Try.func31 rfl rfl rfl (Hp.refl w) ?_
    repeat' (first
        | ((with_reducible refine is_load ?_); (first | ((refine' ⟨_, Yl_loadA_hp rfl ?qa ?qb ?ql ?qc, ?_⟩); (case qa => exact agg_of rfl); (case qb => (first | exact fun _ hp => hp.rd ha fun _ => List.not_mem_nil | exact fun _ hp => hp.rd hb fun _ => List.not_mem_nil)); (case qc => assumption); (case ql => rfl))))
        | ((with_reducible refine ie_callv ?_); (first | refine Ef_callVP rfl rfl rfl ent_32 (fun w hp => hsr w (hp.in_old (hia x (mem_of_some hx))) (hp.in_old (hib y (mem_of_some hy)))) ?_))
        | refine w1 ?_
        | (refine w2 ?_ ?_ <;> intro hc)
        | (first | ((refine' ⟨_, Yl_str_hp rfl ?q1 ?q2 ?q3 (fun _ hp => hp.rd ha fun _ => List.not_mem_nil), ?_⟩); (case q1 => exact und_of rfl); (case q2 => exact und_of rfl); (case q3 => exact und_of rfl)) | ((refine' ⟨_, Yl_str_hp rfl ?q1 ?q2 ?q3 (fun _ hp => hp.rd hb fun _ => List.not_mem_nil), ?_⟩); (case q1 => exact und_of rfl); (case q2 => exact und_of rfl); (case q3 => exact und_of rfl)) | refine ⟨_, Yl_eql_str rfl rfl, ?_⟩ | ((refine' ⟨_, Yl_sl_h (h := l.length) rfl rfl ?q1 ?q2 ?q3, ?_⟩); (case q1 => exact und_of rfl); (case q2 => exact siz_of rfl); (case q3 => omega)))
        | (refine w4 ?_; (intro _))
        | (refine w5 ?_; (intro _ _))
        | refine w3 ?_ ?_
        | fail_if_success skip)
    refine T.loop (α := Nat) (fun i => [(1, .slice B n d), (2, .func (.func 32) #[] #[]), (15, .slice A n c), (16, .int .i64 (n : Int)), (17, .int .i64 (i : Int))]) (fun _ => []) (fun i => i ≤ n ∧ (l.map (·.1)).take i = (m.map (·.1)).take i) (fun i => n - i) 0 ?_ ?_ ?_ ?_
    · (repeat (first | exact Sub.nil | refine Sub.cons rfl ?_))
    · (repeat (first | exact List.nil_sublist _ | refine List.Sublist.cons_cons _ ?_ | refine List.Sublist.cons _ ?_))
    · exact ⟨Nat.zero_le _, rfl⟩
    · rintro i ⟨hi, hm⟩
      by_cases hlt : i < n
      · obtain ⟨x, hx⟩ := some_of_lt (l := l) (i := i) (by omega)
        obtain ⟨y, hy⟩ := some_of_lt (l := m) (i := i) (by omega)
        have eA := enc_atA mE_len hx
        have eB := enc_atA mE_len hy
        have oX := mE_one x
        have oY := mE_one y
        have hsr := fun w' h1 h2 => esame_v x y w' h1 h2 _ (Lg.eqE_iff _ _)
        by_cases hk : x.1 = y.1
        · rw [decide_eq_true hk] at hsr
          repeat' (first
              | ((with_reducible refine is_load ?_); (first | ((refine' ⟨_, Yl_loadA_hp rfl ?qa ?qb ?ql ?qc, ?_⟩); (case qa => exact agg_of rfl); (case qb => (first | exact fun _ hp => hp.rd ha fun _ => List.not_mem_nil | exact fun _ hp => hp.rd hb fun _ => List.not_mem_nil)); (case qc => assumption); (case ql => rfl))))
              | ((with_reducible refine ie_callv ?_); (first | refine Ef_callVP rfl rfl rfl ent_32 (fun w hp => hsr w (hp.in_old (hia x (mem_of_some hx))) (hp.in_old (hib y (mem_of_some hy)))) ?_))
              | refine w1 ?_
              | (refine w2 ?_ ?_ <;> intro hc)
              | (first | ((refine' ⟨_, Yl_str_hp rfl ?q1 ?q2 ?q3 (fun _ hp => hp.rd ha fun _ => List.not_mem_nil), ?_⟩); (case q1 => exact und_of rfl); (case q2 => exact und_of rfl); (case q3 => exact und_of rfl)) | ((refine' ⟨_, Yl_str_hp rfl ?q1 ?q2 ?q3 (fun _ hp => hp.rd hb fun _ => List.not_mem_nil), ?_⟩); (case q1 => exact und_of rfl); (case q2 => exact und_of rfl); (case q3 => exact und_of rfl)) | refine ⟨_, Yl_eql_str rfl rfl, ?_⟩ | ((refine' ⟨_, Yl_sl_h (h := l.length) rfl rfl ?q1 ?q2 ?q3, ?_⟩); (case q1 => exact und_of rfl); (case q2 => exact siz_of rfl); (case q3 => omega)))
              | (refine w4 ?_; (intro _))
              | (refine w5 ?_; (intro _ _))
              | refine w3 ?_ ?_
              | fail_if_success skip)
          refine loopQ_n (i + 1) ?_ ?_ ⟨by (first | omega | (dsimp only; omega) | (simp; omega)), by rw [take_snoc (map_at hx), take_snoc (map_at hy), hm, hk]⟩ (by (first | omega | (dsimp only; omega) | (simp; omega)))
          · (repeat (first | exact Sub.nil | refine Sub.cons rfl ?_))
          · (repeat (first | exact List.nil_sublist _ | refine List.Sublist.cons_cons _ ?_ | refine List.Sublist.cons _ ?_))
        · rw [decide_eq_false hk] at hsr
          rw [decide_eq_false (fun e => hk (Option.some.inj ((map_at hx).symm.trans (by rw [e]; exact map_at hy))))]
          repeat' (first
              | ((with_reducible refine is_load ?_); (first | ((refine' ⟨_, Yl_loadA_hp rfl ?qa ?qb ?ql ?qc, ?_⟩); (case qa => exact agg_of rfl); (case qb => (first | exact fun _ hp => hp.rd ha fun _ => List.not_mem_nil | exact fun _ hp => hp.rd hb fun _ => List.not_mem_nil)); (case qc => assumption); (case ql => rfl))))
              | ((with_reducible refine ie_callv ?_); (first | refine Ef_callVP rfl rfl rfl ent_32 (fun w hp => hsr w (hp.in_old (hia x (mem_of_some hx))) (hp.in_old (hib y (mem_of_some hy)))) ?_))
              | refine w1 ?_
              | (refine w2 ?_ ?_ <;> intro hc)
              | (first | ((refine' ⟨_, Yl_str_hp rfl ?q1 ?q2 ?q3 (fun _ hp => hp.rd ha fun _ => List.not_mem_nil), ?_⟩); (case q1 => exact und_of rfl); (case q2 => exact und_of rfl); (case q3 => exact und_of rfl)) | ((refine' ⟨_, Yl_str_hp rfl ?q1 ?q2 ?q3 (fun _ hp => hp.rd hb fun _ => List.not_mem_nil), ?_⟩); (case q1 => exact und_of rfl); (case q2 => exact und_of rfl); (case q3 => exact und_of rfl)) | refine ⟨_, Yl_eql_str rfl rfl, ?_⟩ | ((refine' ⟨_, Yl_sl_h (h := l.length) rfl rfl ?q1 ?q2 ?q3, ?_⟩); (case q1 => exact und_of rfl); (case q2 => exact siz_of rfl); (case q3 => omega)))
              | (refine w4 ?_; (intro _))
              | (refine w5 ?_; (intro _ _))
              | refine w3 ?_ ?_
              | fail_if_success skip)
          exact ret_n [] (res1 rfl rfl) (List.nil_sublist _) ⟨rfl, rfl⟩
      · rw [List.take_of_length_le (by rw [List.length_map]; omega), List.take_of_length_le (by rw [List.length_map]; omega)] at hm
        rw [decide_eq_true hm]
        repeat' (first
            | ((with_reducible refine is_load ?_); (first | ((refine' ⟨_, Yl_loadA_hp rfl ?qa ?qb ?ql ?qc, ?_⟩); (case qa => exact agg_of rfl); (case qb => (first | exact fun _ hp => hp.rd ha fun _ => List.not_mem_nil | exact fun _ hp => hp.rd hb fun _ => List.not_mem_nil)); (case qc => assumption); (case ql => rfl))))
            | ((with_reducible refine ie_callv ?_); (first | refine Ef_callVP rfl rfl rfl ent_32 (fun w hp => hsr w (hp.in_old (hia x (mem_of_some hx))) (hp.in_old (hib y (mem_of_some hy)))) ?_))
            | refine w1 ?_
            | (refine w2 ?_ ?_ <;> intro hc)
            | (first | ((refine' ⟨_, Yl_str_hp rfl ?q1 ?q2 ?q3 (fun _ hp => hp.rd ha fun _ => List.not_mem_nil), ?_⟩); (case q1 => exact und_of rfl); (case q2 => exact und_of rfl); (case q3 => exact und_of rfl)) | ((refine' ⟨_, Yl_str_hp rfl ?q1 ?q2 ?q3 (fun _ hp => hp.rd hb fun _ => List.not_mem_nil), ?_⟩); (case q1 => exact und_of rfl); (case q2 => exact und_of rfl); (case q3 => exact und_of rfl)) | refine ⟨_, Yl_eql_str rfl rfl, ?_⟩ | ((refine' ⟨_, Yl_sl_h (h := l.length) rfl rfl ?q1 ?q2 ?q3, ?_⟩); (case q1 => exact und_of rfl); (case q2 => exact siz_of rfl); (case q3 => omega)))
            | (refine w4 ?_; (intro _))
            | (refine w5 ?_; (intro _ _))
            | refine w3 ?_ ?_
            | fail_if_success skip)
        exact ret_n [] (res1 rfl rfl) (List.nil_sublist _) ⟨rfl, rfl⟩
  · rw [decide_eq_false (fun e => hll (by have := congrArg List.length e; simpa [hn, hn2] using this))]
    refine Sp.enter (n := 32) Try.func31 rfl rfl rfl (Hp.refl w) ?_
    repeat' (first
        | ((with_reducible refine is_load ?_); (first | ((refine' ⟨_, Yl_loadA_hp rfl ?qa ?qb ?ql ?qc, ?_⟩); (case qa => exact agg_of rfl); (case qb => (first | exact fun _ hp => hp.rd ha fun _ => List.not_mem_nil | exact fun _ hp => hp.rd hb fun _ => List.not_mem_nil)); (case qc => assumption); (case ql => rfl))))
        | ((with_reducible refine ie_callv ?_); (first | refine Ef_callVP rfl rfl rfl ent_32 (fun w hp => hsr w (hp.in_old (hia x (mem_of_some hx))) (hp.in_old (hib y (mem_of_some hy)))) ?_))
        | refine w1 ?_
        | (refine w2 ?_ ?_ <;> intro hc)
        | (first | ((refine' ⟨_, Yl_str_hp rfl ?q1 ?q2 ?q3 (fun _ hp => hp.rd ha fun _ => List.not_mem_nil), ?_⟩); (case q1 => exact und_of rfl); (case q2 => exact und_of rfl); (case q3 => exact und_of rfl)) | ((refine' ⟨_, Yl_str_hp rfl ?q1 ?q2 ?q3 (fun _ hp => hp.rd hb fun _ => List.not_mem_nil), ?_⟩); (case q1 => exact und_of rfl); (case q2 => exact und_of rfl); (case q3 => exact und_of rfl)) | refine ⟨_, Yl_eql_str rfl rfl, ?_⟩ | ((refine' ⟨_, Yl_sl_h (h := l.length) rfl rfl ?q1 ?q2 ?q3, ?_⟩); (case q1 => exact und_of rfl); (case q2 => exact siz_of rfl); (case q3 => omega)))
        | (refine w4 ?_; (intro _))
        | (refine w5 ?_; (intro _ _))
        | refine w3 ?_ ?_
        | fail_if_success skip)
    exact ret_n [] (res1 rfl rfl) (List.nil_sublist _) ⟨rfl, rfl⟩
set_option maxHeartbeats 4000000 in
theorem rsames_v : Sp Try.prog 20 [.slice A l.length c, .slice B m.length d] w [] fun v N => v = .bool q ∧ N = [] := by
  subst hres
  generalize hn : l.length = n at ha hle ⊢
  generalize hn2 : m.length = n2 at hb ⊢
  by_cases hll : n = n2
  · subst hll
    refine Sp.enter (n := 27) Try.func20 rfl rfl rfl (Hp.refl w) ?_
    repeat' (first
        | ((with_reducible refine is_load ?_); (first | ((refine' ⟨_, Yl_loadA_hp rfl ?qa ?qb ?ql ?qc, ?_⟩); (case qa => exact agg_of rfl); (case qb => (first | exact fun _ hp => hp.rd ha fun _ => List.not_mem_nil | exact fun _ hp => hp.rd hb fun _ => List.not_mem_nil)); (case qc => assumption); (case ql => rfl))))
        | ((with_reducible refine ie_callf ?_); (first   | ((with_reducible refine g_call 23 ?_); (first | refine Ef_callP rfl rfl ent_23 (fun w hp => hsr w (hp.in_old (hia x (mem_of_some hx))) (hp.in_old (hib y (mem_of_some hy)))) ?_))))
        | ((with_reducible refine g_draw ?_); (first  | (((with_reducible refine' T.drawM (id := 6) [(0, true), (1, true), (2, true), (3, true), (4, true), (5, false), (6, false), (7, false), (8, false), (9, false)] mixd ?q1 ?_); (case q1 => kernel_rfl)))))
        | refine w1 ?_
        | (refine w2 ?_ ?_ <;> intro hc)
        | (first | ((refine' ⟨_, Yl_str_hp rfl ?q1 ?q2 ?q3 (fun _ hp => hp.rd ha fun _ => List.not_mem_nil), ?_⟩); (case q1 => exact und_of rfl); (case q2 => exact und_of rfl); (case q3 => exact und_of rfl)) | ((refine' ⟨_, Yl_str_hp rfl ?q1 ?q2 ?q3 (fun _ hp => hp.rd hb fun _ => List.not_mem_nil), ?_⟩); (case q1 => exact und_of rfl); (case q2 => exact und_of rfl); (case q3 => exact und_of rfl)) | refine ⟨_, Yl_eql_str rfl rfl, ?_⟩ | ((refine' ⟨_, Yl_sl_h (h := l.length) rfl rfl ?q1 ?q2 ?q3, ?_⟩); (case q1 => exact und_of rfl); (case q2 => exact siz_of rfl); (case q3 => omega)))
        | (refine w4 ?_; (intro _))
        | (refine w5 ?_; (intro _ _))
        | refine w3 ?_ ?_
        | fail_if_success skip)
    refine T.loop (α := Nat) (fun i => [(0, .slice A n c), (1, .slice B n d), (5, .int .i64 (i : Int))]) (fun _ => []) (fun i => i ≤ n ∧ (l.map (·.1)).take i = (m.map (·.1)).take i) (fun i => n - i) 0 ?_ ?_ ?_ ?_
    · (repeat (first | exact Sub.nil | refine Sub.cons rfl ?_))
    · (repeat (first | exact List.nil_sublist _ | refine List.Sublist.cons_cons _ ?_ | refine List.Sublist.cons _ ?_))
    · exact ⟨Nat.zero_le _, rfl⟩
    · rintro i ⟨hi, hm⟩
      by_cases hlt : i < n
      · obtain ⟨x, hx⟩ := some_of_lt (l := l) (i := i) (by omega)
        obtain ⟨y, hy⟩ := some_of_lt (l := m) (i := i) (by omega)
        have eA := enc_atA mE_len hx
        have eB := enc_atA mE_len hy
        have hsr := fun w' h1 h2 => rsame1_v x y w' h1 h2 _ (Lg.eqE_iff _ _) (hlk x (mem_of_some hx))
        by_cases hk : x.1 = y.1
        · rw [decide_eq_true hk] at hsr
          repeat' (first
              | ((with_reducible refine is_load ?_); (first | ((refine' ⟨_, Yl_loadA_hp rfl ?qa ?qb ?ql ?qc, ?_⟩); (case qa => exact agg_of rfl); (case qb => (first | exact fun _ hp => hp.rd ha fun _ => List.not_mem_nil | exact fun _ hp => hp.rd hb fun _ => List.not_mem_nil)); (case qc => assumption); (case ql => rfl))))
              | ((with_reducible refine ie_callf ?_); (first   | ((with_reducible refine g_call 23 ?_); (first | refine Ef_callP rfl rfl ent_23 (fun w hp => hsr w (hp.in_old (hia x (mem_of_some hx))) (hp.in_old (hib y (mem_of_some hy)))) ?_))))
              | ((with_reducible refine g_draw ?_); (first  | (((with_reducible refine' T.drawM (id := 6) [(0, true), (1, true), (2, true), (3, true), (4, true), (5, false), (6, false), (7, false), (8, false), (9, false)] mixd ?q1 ?_); (case q1 => kernel_rfl)))))
              | refine w1 ?_
              | (refine w2 ?_ ?_ <;> intro hc)
              | (first | ((refine' ⟨_, Yl_str_hp rfl ?q1 ?q2 ?q3 (fun _ hp => hp.rd ha fun _ => List.not_mem_nil), ?_⟩); (case q1 => exact und_of rfl); (case q2 => exact und_of rfl); (case q3 => exact und_of rfl)) | ((refine' ⟨_, Yl_str_hp rfl ?q1 ?q2 ?q3 (fun _ hp => hp.rd hb fun _ => List.not_mem_nil), ?_⟩); (case q1 => exact und_of rfl); (case q2 => exact und_of rfl); (case q3 => exact und_of rfl)) | refine ⟨_, Yl_eql_str rfl rfl, ?_⟩ | ((refine' ⟨_, Yl_sl_h (h := l.length) rfl rfl ?q1 ?q2 ?q3, ?_⟩); (case q1 => exact und_of rfl); (case q2 => exact siz_of rfl); (case q3 => omega)))
              | (refine w4 ?_; (intro _))
              | (refine w5 ?_; (intro _ _))
              | refine w3 ?_ ?_
              | fail_if_success skip)
          refine loopQ_n (i + 1) ?_ ?_ ⟨by (first | omega | (dsimp only; omega) | (simp; omega)), by rw [take_snoc (map_at hx), take_snoc (map_at hy), hm, hk]⟩ (by (first | omega | (dsimp only; omega) | (simp; omega)))
          · (repeat (first | exact Sub.nil | refine Sub.cons rfl ?_))
          · (repeat (first | exact List.nil_sublist _ | refine List.Sublist.cons_cons _ ?_ | refine List.Sublist.cons _ ?_))
        · rw [decide_eq_false hk] at hsr
          rw [decide_eq_false (fun e => hk (Option.some.inj ((map_at hx).symm.trans (by rw [e]; exact map_at hy))))]
          repeat' (first
              | ((with_reducible refine is_load ?_); (first | ((refine' ⟨_, Yl_loadA_hp rfl ?qa ?qb ?ql ?qc, ?_⟩); (case qa => exact agg_of rfl); (case qb => (first | exact fun _ hp => hp.rd ha fun _ => List.not_mem_nil | exact fun _ hp => hp.rd hb fun _ => List.not_mem_nil)); (case qc => assumption); (case ql => rfl))))
              | ((with_reducible refine ie_callf ?_); (first   | ((with_reducible refine g_call 23 ?_); (first | refine Ef_callP rfl rfl ent_23 (fun w hp => hsr w (hp.in_old (hia x (mem_of_some hx))) (hp.in_old (hib y (mem_of_some hy)))) ?_))))
              | ((with_reducible refine g_draw ?_); (first  | (((with_reducible refine' T.drawM (id := 6) [(0, true), (1, true), (2, true), (3, true), (4, true), (5, false), (6, false), (7, false), (8, false), (9, false)] mixd ?q1 ?_); (case q1 => kernel_rfl)))))
              | refine w1 ?_
              | (refine w2 ?_ ?_ <;> intro hc)
              | (first | ((refine' ⟨_, Yl_str_hp rfl ?q1 ?q2 ?q3 (fun _ hp => hp.rd ha fun _ => List.not_mem_nil), ?_⟩); (case q1 => exact und_of rfl); (case q2 => exact und_of rfl); (case q3 => exact und_of rfl)) | ((refine' ⟨_, Yl_str_hp rfl ?q1 ?q2 ?q3 (fun _ hp => hp.rd hb fun _ => List.not_mem_nil), ?_⟩); (case q1 => exact und_of rfl); (case q2 => exact und_of rfl); (case q3 => exact und_of rfl)) | refine ⟨_, Yl_eql_str rfl rfl, ?_⟩ | ((refine' ⟨_, Yl_sl_h (h := l.length) rfl rfl ?q1 ?q2 ?q3, ?_⟩); (case q1 => exact und_of rfl); (case q2 => exact siz_of rfl); (case q3 => omega)))
              | (refine w4 ?_; (intro _))
              | (refine w5 ?_; (intro _ _))
              | refine w3 ?_ ?_
              | fail_if_success skip)
          exact ret_n [] (res1 rfl rfl) (List.nil_sublist _) ⟨rfl, rfl⟩
      · rw [List.take_of_length_le (by rw [List.length_map]; omega), List.take_of_length_le (by rw [List.length_map]; omega)] at hm
        rw [decide_eq_true hm]
        repeat' (first
            | ((with_reducible refine is_load ?_); (first | ((refine' ⟨_, Yl_loadA_hp rfl ?qa ?qb ?ql ?qc, ?_⟩); (case qa => exact agg_of rfl); (case qb => (first | exact fun _ hp => hp.rd ha fun _ => List.not_mem_nil | exact fun _ hp => hp.rd hb fun _ => List.not_mem_nil)); (case qc => assumption); (case ql => rfl))))
            | ((with_reducible refine ie_callf ?_); (first   | ((with_reducible refine g_call 23 ?_); (first | refine Ef_callP rfl rfl ent_23 (fun w hp => hsr w (hp.in_old (hia x (mem_of_some hx))) (hp.in_old (hib y (mem_of_some hy)))) ?_))))
            | ((with_reducible refine g_draw ?_); (first  | (((with_reducible refine' T.drawM (id := 6) [(0, true), (1, true), (2, true), (3, true), (4, true), (5, false), (6, false), (7, false), (8, false), (9, false)] mixd ?q1 ?_); (case q1 => kernel_rfl)))))
            | refine w1 ?_
            | (refine w2 ?_ ?_ <;> intro hc)
            | (first | ((refine' ⟨_, Yl_str_hp rfl ?q1 ?q2 ?q3 (fun _ hp => hp.rd ha fun _ => List.not_mem_nil), ?_⟩); (case q1 => exact und_of rfl); (case q2 => exact und_of rfl); (case q3 => exact und_of rfl)) | ((refine' ⟨_, Yl_str_hp rfl ?q1 ?q2 ?q3 (fun _ hp => hp.rd hb fun _ => List.not_mem_nil), ?_⟩); (case q1 => exact und_of rfl); (case q2 => exact und_of rfl); (case q3 => exact und_of rfl)) | refine ⟨_, Yl_eql_str rfl rfl, ?_⟩ | ((refine' ⟨_, Yl_sl_h (h := l.length) rfl rfl ?q1 ?q2 ?q3, ?_⟩); (case q1 => exact und_of rfl); (case q2 => exact siz_of rfl); (case q3 => omega)))
            | (refine w4 ?_; (intro _))
            | (refine w5 ?_; (intro _ _))
            | refine w3 ?_ ?_
            | fail_if_success skip)
        exact ret_n [] (res1 rfl rfl) (List.nil_sublist _) ⟨rfl, rfl⟩
  · rw [decide_eq_false (fun e => hll (by have := congrArg List.length e; simpa [hn, hn2] using this))]
    refine Sp.enter (n := 27) Try.func20 rfl rfl rfl (Hp.refl w) ?_
    repeat' (first
        | ((with_reducible refine is_load ?_); (first | ((refine' ⟨_, Yl_loadA_hp rfl ?qa ?qb ?ql ?qc, ?_⟩); (case qa => exact agg_of rfl); (case qb => (first | exact fun _ hp => hp.rd ha fun _ => List.not_mem_nil | exact fun _ hp => hp.rd hb fun _ => List.not_mem_nil)); (case qc => assumption); (case ql => rfl))))
        | ((with_reducible refine ie_callf ?_); (first   | ((with_reducible refine g_call 23 ?_); (first | refine Ef_callP rfl rfl ent_23 (fun w hp => hsr w (hp.in_old (hia x (mem_of_some hx))) (hp.in_old (hib y (mem_of_some hy)))) ?_))))
        | ((with_reducible refine g_draw ?_); (first  | (((with_reducible refine' T.drawM (id := 6) [(0, true), (1, true), (2, true), (3, true), (4, true), (5, false), (6, false), (7, false), (8, false), (9, false)] mixd ?q1 ?_); (case q1 => kernel_rfl)))))
        | refine w1 ?_
        | (refine w2 ?_ ?_ <;> intro hc)
        | (first | ((refine' ⟨_, Yl_str_hp rfl ?q1 ?q2 ?q3 (fun _ hp => hp.rd ha fun _ => List.not_mem_nil), ?_⟩); (case q1 => exact und_of rfl); (case q2 => exact und_of rfl); (case q3 => exact und_of rfl)) | ((refine' ⟨_, Yl_str_hp rfl ?q1 ?q2 ?q3 (fun _ hp => hp.rd hb fun _ => List.not_mem_nil), ?_⟩); (case q1 => exact und_of rfl); (case q2 => exact und_of rfl); (case q3 => exact und_of rfl)) | refine ⟨_, Yl_eql_str rfl rfl, ?_⟩ | ((refine' ⟨_, Yl_sl_h (h := l.length) rfl rfl ?q1 ?q2 ?q3, ?_⟩); (case q1 => exact und_of rfl); (case q2 => exact siz_of rfl); (case q3 => omega)))
        | (refine w4 ?_; (intro _))
        | (refine w5 ?_; (intro _ _))
        | refine w3 ?_ ?_
        | fail_if_success skip)
    exact ret_n [] (res1 rfl rfl) (List.nil_sublist _) ⟨rfl, rfl⟩
end

variable (hcap : m.length ≤ d) (q : Bool) (hres : Lg.beg (l.map (·.1)) (m.map (·.1)) = q)
include hcap hres
omit hlk in
set_option maxHeartbeats 2000000 in
theorem begins_v : Sp Try.prog 11 [.slice A l.length c, .slice B m.length d] w [] fun v N => v = .bool q ∧ N = [] := by
  subst hres
  unfold Lg.beg
  rw [List.length_map, List.length_map]
  by_cases hll : l.length ≤ m.length
  · have hbt := hb.upto mE_len hll
    have hibt : Ins w (m.take l.length) := fun x hx => hib x (List.mem_of_mem_take hx)
    have heq := fun w h1 h2 h3 h4 => equalf_v A c l B d (m.take l.length) w h1 h2 h3 h4 hle _ rfl
    rw [List.length_take, Nat.min_eq_left hll] at heq
    rw [decide_eq_true hll, Bool.true_and, ← List.map_take]
    refine Sp.enter (n := 18) Try.func11 rfl rfl rfl (Hp.refl w) ?_
    repeat' (first
        | ((with_reducible refine ie_callf ?_); (first    | ((with_reducible refine g_call 31 ?_); (first | refine Ef_callP rfl rfl ent_31 (fun w hp => heq w (hp.rd ha fun _ => List.not_mem_nil) (hp.rd hbt fun _ => List.not_mem_nil) (hp.ins_old hia) (hp.ins_old hibt)) ?_))))
        | refine w1 ?_
        | (refine w2 ?_ ?_ <;> intro hc)
        | (first | ((refine' ⟨_, Yl_str_hp rfl ?q1 ?q2 ?q3 (fun _ hp => hp.rd ha fun _ => List.not_mem_nil), ?_⟩); (case q1 => exact und_of rfl); (case q2 => exact und_of rfl); (case q3 => exact und_of rfl)) | ((refine' ⟨_, Yl_str_hp rfl ?q1 ?q2 ?q3 (fun _ hp => hp.rd hb fun _ => List.not_mem_nil), ?_⟩); (case q1 => exact und_of rfl); (case q2 => exact und_of rfl); (case q3 => exact und_of rfl)) | refine ⟨_, Yl_eql_str rfl rfl, ?_⟩ | ((refine' ⟨_, Yl_sl_h (h := l.length) rfl rfl ?q1 ?q2 ?q3, ?_⟩); (case q1 => exact und_of rfl); (case q2 => exact siz_of rfl); (case q3 => omega)))
        | (refine w4 ?_; (intro _))
        | (refine w5 ?_; (intro _ _))
        | refine w3 ?_ ?_
        | fail_if_success skip)
    exact ret_n [] (res1 rfl rfl) (List.nil_sublist _) ⟨rfl, rfl⟩
  · rw [decide_eq_false hll, Bool.false_and]
    refine Sp.enter (n := 18) Try.func11 rfl rfl rfl (Hp.refl w) ?_
    repeat' (first
        | ((with_reducible refine ie_callf ?_); (first    | ((with_reducible refine g_call 31 ?_); (first | refine Ef_callP rfl rfl ent_31 (fun w hp => heq w (hp.rd ha fun _ => List.not_mem_nil) (hp.rd hbt fun _ => List.not_mem_nil) (hp.ins_old hia) (hp.ins_old hibt)) ?_))))
        | refine w1 ?_
        | (refine w2 ?_ ?_ <;> intro hc)
        | (first | ((refine' ⟨_, Yl_str_hp rfl ?q1 ?q2 ?q3 (fun _ hp => hp.rd ha fun _ => List.not_mem_nil), ?_⟩); (case q1 => exact und_of rfl); (case q2 => exact und_of rfl); (case q3 => exact und_of rfl)) | ((refine' ⟨_, Yl_str_hp rfl ?q1 ?q2 ?q3 (fun _ hp => hp.rd hb fun _ => List.not_mem_nil), ?_⟩); (case q1 => exact und_of rfl); (case q2 => exact und_of rfl); (case q3 => exact und_of rfl)) | refine ⟨_, Yl_eql_str rfl rfl, ?_⟩ | ((refine' ⟨_, Yl_sl_h (h := l.length) rfl rfl ?q1 ?q2 ?q3, ?_⟩); (case q1 => exact und_of rfl); (case q2 => exact siz_of rfl); (case q3 => omega)))
        | (refine w4 ?_; (intro _))
        | (refine w5 ?_; (intro _ _))
        | refine w3 ?_ ?_
        | fail_if_success skip)
    exact ret_n [] (res1 rfl rfl) (List.nil_sublist _) ⟨rfl, rfl⟩
set_option maxHeartbeats 2000000 in
theorem rbegins_v : Sp Try.prog 12 [.slice A l.length c, .slice B m.length d] w [] fun v N => v = .bool q ∧ N = [] := by
  subst hres
  unfold Lg.beg
  rw [List.length_map, List.length_map]
  by_cases hll : l.length ≤ m.length
  · have hbt := hb.upto mE_len hll
    have hibt : Ins w (m.take l.length) := fun x hx => hib x (List.mem_of_mem_take hx)
    have heq := fun w h1 h2 h3 h4 => rsames_v A c l B d (m.take l.length) w h1 h2 h3 h4 hle hlk _ rfl
    rw [List.length_take, Nat.min_eq_left hll] at heq
    rw [decide_eq_true hll, Bool.true_and, ← List.map_take]
    refine Sp.enter (n := 16) Try.func12 rfl rfl rfl (Hp.refl w) ?_
    repeat' (first
        | ((with_reducible refine ie_callf ?_); (first     | ((with_reducible refine g_call 20 ?_); (first | refine Ef_callP rfl rfl ent_20 (fun w hp => heq w (hp.rd ha fun _ => List.not_mem_nil) (hp.rd hbt fun _ => List.not_mem_nil) (hp.ins_old hia) (hp.ins_old hibt)) ?_))))
        | refine w1 ?_
        | (refine w2 ?_ ?_ <;> intro hc)
        | (first | ((refine' ⟨_, Yl_str_hp rfl ?q1 ?q2 ?q3 (fun _ hp => hp.rd ha fun _ => List.not_mem_nil), ?_⟩); (case q1 => exact und_of rfl); (case q2 => exact und_of rfl); (case q3 => exact und_of rfl)) | ((refine' ⟨_, Yl_str_hp rfl ?q1 ?q2 ?q3 (fun _ hp => hp.rd hb fun _ => List.not_mem_nil), ?_⟩); (case q1 => exact und_of rfl); (case q2 => exact und_of rfl); (case q3 => exact und_of rfl)) | refine ⟨_, Yl_eql_str rfl rfl, ?_⟩ | ((refine' ⟨_, Yl_sl_h (h := l.length) rfl rfl ?q1 ?q2 ?q3, ?_⟩); (case q1 => exact und_of rfl); (case q2 => exact siz_of rfl); (case q3 => omega)))
        | (refine w4 ?_; (intro _))
        | (refine w5 ?_; (intro _ _))
        | refine w3 ?_ ?_
        | fail_if_success skip)
    exact ret_n [] (res1 rfl rfl) (List.nil_sublist _) ⟨rfl, rfl⟩
  · rw [decide_eq_false hll, Bool.false_and]
    refine Sp.enter (n := 16) Try.func12 rfl rfl rfl (Hp.refl w) ?_
    repeat' (first
        | ((with_reducible refine ie_callf ?_); (first     | ((with_reducible refine g_call 20 ?_); (first | refine Ef_callP rfl rfl ent_20 (fun w hp => heq w (hp.rd ha fun _ => List.not_mem_nil) (hp.rd hbt fun _ => List.not_mem_nil) (hp.ins_old hia) (hp.ins_old hibt)) ?_))))
        | refine w1 ?_
        | (refine w2 ?_ ?_ <;> intro hc)
        | (first | ((refine' ⟨_, Yl_str_hp rfl ?q1 ?q2 ?q3 (fun _ hp => hp.rd ha fun _ => List.not_mem_nil), ?_⟩); (case q1 => exact und_of rfl); (case q2 => exact und_of rfl); (case q3 => exact und_of rfl)) | ((refine' ⟨_, Yl_str_hp rfl ?q1 ?q2 ?q3 (fun _ hp => hp.rd hb fun _ => List.not_mem_nil), ?_⟩); (case q1 => exact und_of rfl); (case q2 => exact und_of rfl); (case q3 => exact und_of rfl)) | refine ⟨_, Yl_eql_str rfl rfl, ?_⟩ | ((refine' ⟨_, Yl_sl_h (h := l.length) rfl rfl ?q1 ?q2 ?q3, ?_⟩); (case q1 => exact und_of rfl); (case q2 => exact siz_of rfl); (case q3 => omega)))
        | (refine w4 ?_; (intro _))
        | (refine w5 ?_; (intro _ _))
        | refine w3 ?_ ?_
        | fail_if_success skip)
    exact ret_n [] (res1 rfl rfl) (List.nil_sublist _) ⟨rfl, rfl⟩
end

section
variable (A : Option Addr) (c : Nat) (l : List Ac) (w : World) (ha : Rd w A l.length 7 (l.flatMap aE)) (hle : l.length ≤ 9223372036854775806) (hlk : ∀ a ∈ l, a.e.1.body.length ≤ 140737488355328)
include ha hle hlk
set_option maxHeartbeats 4000000 in
theorem great_v (q : Bool) (hres : Lg.great 0 l = q) : Sp Try.prog 10 [.slice A l.length c] w [] fun v N => v = .bool q ∧ N = [] := by
  subst hres
  obtain ⟨n, hn⟩ : ∃ n, l.length = n := ⟨_, rfl⟩
  rw [hn] at ha hle ⊢
  refine Sp.enter (n := 23) Try.func10 rfl rfl rfl (Hp.refl w) ?_
  repeat' (first
      | ((with_reducible refine is_load ?_); (first | ((refine' ⟨_, Yl_loadA_hp rfl ?qa ?qb ?ql ?qc, ?_⟩); (case qa => exact agg_of rfl); (case qb => (first | exact fun _ hp => hp.rd ha fun _ => List.not_mem_nil | exact fun _ hp => hp.rd hb fun _ => List.not_mem_nil)); (case qc => assumption); (case ql => rfl))))
      | refine w1 ?_
      | (refine w2 ?_ ?_ <;> intro hc)
      | (first | ((refine' ⟨_, Yl_str_hp rfl ?q1 ?q2 ?q3 (fun _ hp => hp.rd ha fun _ => List.not_mem_nil), ?_⟩); (case q1 => exact und_of rfl); (case q2 => exact und_of rfl); (case q3 => exact und_of rfl)) | ((refine' ⟨_, Yl_str_hp rfl ?q1 ?q2 ?q3 (fun _ hp => hp.rd hb fun _ => List.not_mem_nil), ?_⟩); (case q1 => exact und_of rfl); (case q2 => exact und_of rfl); (case q3 => exact und_of rfl)) | refine ⟨_, Yl_eql_str rfl rfl, ?_⟩ | ((refine' ⟨_, Yl_sl_h (h := l.length) rfl rfl ?q1 ?q2 ?q3, ?_⟩); (case q1 => exact und_of rfl); (case q2 => exact siz_of rfl); (case q3 => omega)))
      | (refine w4 ?_; (intro _))
      | (refine w5 ?_; (intro _ _))
      | refine w3 ?_ ?_
      | fail_if_success skip)
  refine T.loop (α := Nat × Nat) (fun z => [(0, .slice A n c), (3, .int .i64 (z.2 : Int)), (4, .int .i64 (z.1 : Int))]) (fun _ => []) (fun z => z.1 ≤ n ∧ z.2 ≤ 5000 ∧ Lg.great z.2 (l.drop z.1) = Lg.great 0 l) (fun z => n - z.1) (0, 0) ?_ ?_ ?_ ?_
  · (repeat (first | exact Sub.nil | refine Sub.cons rfl ?_))
  · (repeat (first | exact List.nil_sublist _ | refine List.Sublist.cons_cons _ ?_ | refine List.Sublist.cons _ ?_))
  · exact ⟨Nat.zero_le _, by (first | omega | (dsimp only; omega) | (simp; omega)), rfl⟩
  · rintro ⟨i, s⟩ ⟨hi, hs, hb⟩
    dsimp only at hi hs hb ⊢
    by_cases hlt : i < n
    · obtain ⟨x, hx⟩ := some_of_lt (l := l) (i := i) (by omega)
      have e4 : (l.flatMap aE)[i * 7 + 2 + 4]? = some (.slice x.e.2.1 x.e.1.body.length x.e.2.2) := enc_at aE_len hx (j := 6) (by decide)
      have hkl := hlk x (mem_of_some hx)
      rw [Lg.drop_at hx, Lg.great_cons] at hb
      generalize x.e.1.body.length = k at e4 hkl hb
      by_cases h4 : 5000 < s + k + 50
      · rw [decide_eq_true h4, Bool.true_or] at hb
        rw [← hb]
        repeat' (first
            | ((with_reducible refine is_load ?_); (first | ((refine' ⟨_, Yl_loadA_hp rfl ?qa ?qb ?ql ?qc, ?_⟩); (case qa => exact agg_of rfl); (case qb => (first | exact fun _ hp => hp.rd ha fun _ => List.not_mem_nil | exact fun _ hp => hp.rd hb fun _ => List.not_mem_nil)); (case qc => assumption); (case ql => rfl))))
            | refine w1 ?_
            | (refine w2 ?_ ?_ <;> intro hc)
            | (first | ((refine' ⟨_, Yl_str_hp rfl ?q1 ?q2 ?q3 (fun _ hp => hp.rd ha fun _ => List.not_mem_nil), ?_⟩); (case q1 => exact und_of rfl); (case q2 => exact und_of rfl); (case q3 => exact und_of rfl)) | ((refine' ⟨_, Yl_str_hp rfl ?q1 ?q2 ?q3 (fun _ hp => hp.rd hb fun _ => List.not_mem_nil), ?_⟩); (case q1 => exact und_of rfl); (case q2 => exact und_of rfl); (case q3 => exact und_of rfl)) | refine ⟨_, Yl_eql_str rfl rfl, ?_⟩ | ((refine' ⟨_, Yl_sl_h (h := l.length) rfl rfl ?q1 ?q2 ?q3, ?_⟩); (case q1 => exact und_of rfl); (case q2 => exact siz_of rfl); (case q3 => omega)))
            | (refine w4 ?_; (intro _))
            | (refine w5 ?_; (intro _ _))
            | refine w3 ?_ ?_
            | fail_if_success skip)
        exact ret_n [] (res1 rfl rfl) (List.nil_sublist _) ⟨rfl, rfl⟩
      · rw [decide_eq_false h4, Bool.false_or] at hb
        repeat' (first
            | ((with_reducible refine is_load ?_); (first | ((refine' ⟨_, Yl_loadA_hp rfl ?qa ?qb ?ql ?qc, ?_⟩); (case qa => exact agg_of rfl); (case qb => (first | exact fun _ hp => hp.rd ha fun _ => List.not_mem_nil | exact fun _ hp => hp.rd hb fun _ => List.not_mem_nil)); (case qc => assumption); (case ql => rfl))))
            | refine w1 ?_
            | (refine w2 ?_ ?_ <;> intro hc)
            | (first | ((refine' ⟨_, Yl_str_hp rfl ?q1 ?q2 ?q3 (fun _ hp => hp.rd ha fun _ => List.not_mem_nil), ?_⟩); (case q1 => exact und_of rfl); (case q2 => exact und_of rfl); (case q3 => exact und_of rfl)) | ((refine' ⟨_, Yl_str_hp rfl ?q1 ?q2 ?q3 (fun _ hp => hp.rd hb fun _ => List.not_mem_nil), ?_⟩); (case q1 => exact und_of rfl); (case q2 => exact und_of rfl); (case q3 => exact und_of rfl)) | refine ⟨_, Yl_eql_str rfl rfl, ?_⟩ | ((refine' ⟨_, Yl_sl_h (h := l.length) rfl rfl ?q1 ?q2 ?q3, ?_⟩); (case q1 => exact und_of rfl); (case q2 => exact siz_of rfl); (case q3 => omega)))
            | (refine w4 ?_; (intro _))
            | (refine w5 ?_; (intro _ _))
            | refine w3 ?_ ?_
            | fail_if_success skip)
        refine loopQ_n (i + 1, s + k + 50) ?_ ?_ ⟨by (first | omega | (dsimp only; omega) | (simp; omega)), by (first | omega | (dsimp only; omega) | (simp; omega)), hb⟩ (by (first | omega | (dsimp only; omega) | (simp; omega)))
        · (repeat (first | exact Sub.nil | refine Sub.cons rfl ?_))
        · (repeat (first | exact List.nil_sublist _ | refine List.Sublist.cons_cons _ ?_ | refine List.Sublist.cons _ ?_))
    · rw [List.drop_of_length_le (by omega)] at hb
      rw [← hb]
      repeat' (first
          | ((with_reducible refine is_load ?_); (first | ((refine' ⟨_, Yl_loadA_hp rfl ?qa ?qb ?ql ?qc, ?_⟩); (case qa => exact agg_of rfl); (case qb => (first | exact fun _ hp => hp.rd ha fun _ => List.not_mem_nil | exact fun _ hp => hp.rd hb fun _ => List.not_mem_nil)); (case qc => assumption); (case ql => rfl))))
          | refine w1 ?_
          | (refine w2 ?_ ?_ <;> intro hc)
          | (first | ((refine' ⟨_, Yl_str_hp rfl ?q1 ?q2 ?q3 (fun _ hp => hp.rd ha fun _ => List.not_mem_nil), ?_⟩); (case q1 => exact und_of rfl); (case q2 => exact und_of rfl); (case q3 => exact und_of rfl)) | ((refine' ⟨_, Yl_str_hp rfl ?q1 ?q2 ?q3 (fun _ hp => hp.rd hb fun _ => List.not_mem_nil), ?_⟩); (case q1 => exact und_of rfl); (case q2 => exact und_of rfl); (case q3 => exact und_of rfl)) | refine ⟨_, Yl_eql_str rfl rfl, ?_⟩ | ((refine' ⟨_, Yl_sl_h (h := l.length) rfl rfl ?q1 ?q2 ?q3, ?_⟩); (case q1 => exact und_of rfl); (case q2 => exact siz_of rfl); (case q3 => omega)))
          | (refine w4 ?_; (intro _))
          | (refine w5 ?_; (intro _ _))
          | refine w3 ?_ ?_
          | fail_if_success skip)
      exact ret_n [] (res1 rfl rfl) (List.nil_sublist _) ⟨rfl, rfl⟩
end
end Go.Proofs.Ytegaejbfhpigjaa
