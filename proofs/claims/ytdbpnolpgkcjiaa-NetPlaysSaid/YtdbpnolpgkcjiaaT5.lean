/- The document's net: Send, place, Take, Double; Same; how much acts hold; how often bytes are in a list: what a call of each comes to. -/
import Derived.Test.YtdbpnolpgkcjiaaT3
namespace Go.Proofs.Ytdbpnolpgkcjiaa
open Go.RowKit Go.Conc

section
variable (A : Option Addr) (cc : Nat) (l : List UInt8) (B : Option Addr) (d : Nat) (m : List UInt8) (w : World) (ha : Rd w A l.length 1 (l.flatMap eU)) (hb : Rd w B m.length 1 (m.flatMap eU)) (q : Bool) (hres : decide (l = m) = q) (hle : l.length ≤ 9223372036854775806)
include ha hb hres hle
set_option maxHeartbeats 2000000 in
theorem bsame_v : Sp Try.prog 31 [.slice A l.length cc, .slice B m.length d] w [] fun v N => v = .bool q ∧ N = [] := by
  subst hres
  generalize hn : l.length = n at ha hle ⊢
  generalize hn2 : m.length = n2 at hb ⊢
  by_cases hll : n = n2
  · subst hll
    refine Sp.enter (n := 26) Try.func31 rfl rfl rfl (Hp.refl w) ?_
    repeat' (first
        | ((with_reducible refine is_load ?_); (first | ((refine' ⟨_, Yl_load_old rfl ?q1 hb List.not_mem_nil rfl, ?_⟩); (case q1 => exact one_of rfl)) | ((refine' ⟨_, Yl_load_rd rfl ?q1 ha haR ?q2, ?_⟩); (case q1 => exact one_of rfl); (case q2 => assumption)) | ((refine' ⟨_, Yl_load_hp rfl ?q1 (fun w hp => hp.rd ha fun _ => List.not_mem_nil) ?q2, ?_⟩); (case q1 => exact one_of rfl); (case q2 => assumption)) | ((refine' ⟨_, Yl_load_hp rfl ?q1 (fun w hp => hp.rd hbb fun _ => List.not_mem_nil) ?q2, ?_⟩); (case q1 => exact one_of rfl); (case q2 => assumption))))
        | ((with_reducible refine g_draw ?_); (first | (((with_reducible refine' T.drawM (id := 6) [(0, true), (1, true), (2, true), (3, true), (4, true), (5, false), (6, false), (7, false), (8, false)] mixd ?q1 ?_); (case q1 => kernel_rfl)))))
        | refine w1 ?_
        | (refine w2 ?_ ?_ <;> intro hc)
        | (first | ((refine' ⟨_, Yl_remE (r := (p : Int)) rfl rfl ?q1 ?q2 hpl, ?_⟩); (case q1 => omega); (case q2 => omega)) | ((refine' ⟨_, Yl_rem_t rfl rfl ?q1, ?_⟩); (case q1 => omega)))
        | (refine w4 ?_; (intro _))
        | (refine w5 ?_; (intro _ _))
        | refine w3 ?_ ?_
        | fail_if_success skip)
    refine T.loop (α := Nat) (fun i => [(0, .slice A n cc), (1, .slice B n d), (5, .int .i64 (i : Int))]) (fun _ => []) (fun i => i ≤ n ∧ l.take i = m.take i) (fun i => n - i) 0 ?_ ?_ ?_ ?_
    · (repeat (first | exact Sub.nil | refine Sub.cons rfl ?_))
    · (repeat (first | exact List.nil_sublist _ | refine List.Sublist.cons_cons _ ?_ | refine List.Sublist.cons _ ?_))
    · exact ⟨Nat.zero_le _, by simp⟩
    · rintro i ⟨hi, hm⟩
      by_cases hlt : i < n
      · obtain ⟨x, hx⟩ := some_of_lt (l := l) (i := i) (by omega)
        obtain ⟨y, hy⟩ := some_of_lt (l := m) (i := i) (by omega)
        have e0 : (l.flatMap eU)[i * 1]? = some (.int .u8 (x.toNat : Int)) := enc_at eU_len hx (j := 0) (by decide)
        have e1 : (m.flatMap eU)[i * 1]? = some (.int .u8 (y.toNat : Int)) := enc_at eU_len hy (j := 0) (by decide)
        by_cases hxy : x = y
        · subst hxy
          repeat' (first
              | ((with_reducible refine is_load ?_); (first | ((refine' ⟨_, Yl_load_old rfl ?q1 hb List.not_mem_nil rfl, ?_⟩); (case q1 => exact one_of rfl)) | ((refine' ⟨_, Yl_load_rd rfl ?q1 ha haR ?q2, ?_⟩); (case q1 => exact one_of rfl); (case q2 => assumption)) | ((refine' ⟨_, Yl_load_hp rfl ?q1 (fun w hp => hp.rd ha fun _ => List.not_mem_nil) ?q2, ?_⟩); (case q1 => exact one_of rfl); (case q2 => assumption)) | ((refine' ⟨_, Yl_load_hp rfl ?q1 (fun w hp => hp.rd hbb fun _ => List.not_mem_nil) ?q2, ?_⟩); (case q1 => exact one_of rfl); (case q2 => assumption))))
              | ((with_reducible refine g_draw ?_); (first | (((with_reducible refine' T.drawM (id := 6) [(0, true), (1, true), (2, true), (3, true), (4, true), (5, false), (6, false), (7, false), (8, false)] mixd ?q1 ?_); (case q1 => kernel_rfl)))))
              | refine w1 ?_
              | (refine w2 ?_ ?_ <;> intro hc)
              | (first | ((refine' ⟨_, Yl_remE (r := (p : Int)) rfl rfl ?q1 ?q2 hpl, ?_⟩); (case q1 => omega); (case q2 => omega)) | ((refine' ⟨_, Yl_rem_t rfl rfl ?q1, ?_⟩); (case q1 => omega)))
              | (refine w4 ?_; (intro _))
              | (refine w5 ?_; (intro _ _))
              | refine w3 ?_ ?_
              | fail_if_success skip)
          refine loopQ_n (i + 1) ?_ ?_ ⟨by (first | omega | (dsimp only; omega) | (simp; omega)), by rw [take_snoc hx, take_snoc hy, hm]⟩ (by (first | omega | (dsimp only; omega) | (simp; omega)))
          · (repeat (first | exact Sub.nil | refine Sub.cons rfl ?_))
          · (repeat (first | exact List.nil_sublist _ | refine List.Sublist.cons_cons _ ?_ | refine List.Sublist.cons _ ?_))
        · have hne : ¬ (x.toNat : Int) = (y.toNat : Int) := fun h => hxy (UInt8.toNat_inj.1 (by omega))
          rw [decide_eq_false (fun e => by subst e; rw [hx] at hy; exact hxy (Option.some.inj hy))]
          repeat' (first
              | ((with_reducible refine is_load ?_); (first | ((refine' ⟨_, Yl_load_old rfl ?q1 hb List.not_mem_nil rfl, ?_⟩); (case q1 => exact one_of rfl)) | ((refine' ⟨_, Yl_load_rd rfl ?q1 ha haR ?q2, ?_⟩); (case q1 => exact one_of rfl); (case q2 => assumption)) | ((refine' ⟨_, Yl_load_hp rfl ?q1 (fun w hp => hp.rd ha fun _ => List.not_mem_nil) ?q2, ?_⟩); (case q1 => exact one_of rfl); (case q2 => assumption)) | ((refine' ⟨_, Yl_load_hp rfl ?q1 (fun w hp => hp.rd hbb fun _ => List.not_mem_nil) ?q2, ?_⟩); (case q1 => exact one_of rfl); (case q2 => assumption))))
              | ((with_reducible refine g_draw ?_); (first | (((with_reducible refine' T.drawM (id := 6) [(0, true), (1, true), (2, true), (3, true), (4, true), (5, false), (6, false), (7, false), (8, false)] mixd ?q1 ?_); (case q1 => kernel_rfl)))))
              | refine w1 ?_
              | (refine w2 ?_ ?_ <;> intro hc)
              | (first | ((refine' ⟨_, Yl_remE (r := (p : Int)) rfl rfl ?q1 ?q2 hpl, ?_⟩); (case q1 => omega); (case q2 => omega)) | ((refine' ⟨_, Yl_rem_t rfl rfl ?q1, ?_⟩); (case q1 => omega)))
              | (refine w4 ?_; (intro _))
              | (refine w5 ?_; (intro _ _))
              | refine w3 ?_ ?_
              | fail_if_success skip)
          exact ret_n [] (res1 rfl rfl) (List.nil_sublist _) ⟨rfl, rfl⟩
      · rw [List.take_of_length_le (by omega), List.take_of_length_le (by omega)] at hm
        rw [decide_eq_true hm]
        repeat' (first
            | ((with_reducible refine is_load ?_); (first | ((refine' ⟨_, Yl_load_old rfl ?q1 hb List.not_mem_nil rfl, ?_⟩); (case q1 => exact one_of rfl)) | ((refine' ⟨_, Yl_load_rd rfl ?q1 ha haR ?q2, ?_⟩); (case q1 => exact one_of rfl); (case q2 => assumption)) | ((refine' ⟨_, Yl_load_hp rfl ?q1 (fun w hp => hp.rd ha fun _ => List.not_mem_nil) ?q2, ?_⟩); (case q1 => exact one_of rfl); (case q2 => assumption)) | ((refine' ⟨_, Yl_load_hp rfl ?q1 (fun w hp => hp.rd hbb fun _ => List.not_mem_nil) ?q2, ?_⟩); (case q1 => exact one_of rfl); (case q2 => assumption))))
            | ((with_reducible refine g_draw ?_); (first | (((with_reducible refine' T.drawM (id := 6) [(0, true), (1, true), (2, true), (3, true), (4, true), (5, false), (6, false), (7, false), (8, false)] mixd ?q1 ?_); (case q1 => kernel_rfl)))))
            | refine w1 ?_
            | (refine w2 ?_ ?_ <;> intro hc)
            | (first | ((refine' ⟨_, Yl_remE (r := (p : Int)) rfl rfl ?q1 ?q2 hpl, ?_⟩); (case q1 => omega); (case q2 => omega)) | ((refine' ⟨_, Yl_rem_t rfl rfl ?q1, ?_⟩); (case q1 => omega)))
            | (refine w4 ?_; (intro _))
            | (refine w5 ?_; (intro _ _))
            | refine w3 ?_ ?_
            | fail_if_success skip)
        exact ret_n [] (res1 rfl rfl) (List.nil_sublist _) ⟨rfl, rfl⟩
  · rw [decide_eq_false (fun e => hll (by rw [← hn, ← hn2, e]))]
    refine Sp.enter (n := 26) Try.func31 rfl rfl rfl (Hp.refl w) ?_
    repeat' (first
        | ((with_reducible refine is_load ?_); (first | ((refine' ⟨_, Yl_load_old rfl ?q1 hb List.not_mem_nil rfl, ?_⟩); (case q1 => exact one_of rfl)) | ((refine' ⟨_, Yl_load_rd rfl ?q1 ha haR ?q2, ?_⟩); (case q1 => exact one_of rfl); (case q2 => assumption)) | ((refine' ⟨_, Yl_load_hp rfl ?q1 (fun w hp => hp.rd ha fun _ => List.not_mem_nil) ?q2, ?_⟩); (case q1 => exact one_of rfl); (case q2 => assumption)) | ((refine' ⟨_, Yl_load_hp rfl ?q1 (fun w hp => hp.rd hbb fun _ => List.not_mem_nil) ?q2, ?_⟩); (case q1 => exact one_of rfl); (case q2 => assumption))))
        | ((with_reducible refine g_draw ?_); (first | (((with_reducible refine' T.drawM (id := 6) [(0, true), (1, true), (2, true), (3, true), (4, true), (5, false), (6, false), (7, false), (8, false)] mixd ?q1 ?_); (case q1 => kernel_rfl)))))
        | refine w1 ?_
        | (refine w2 ?_ ?_ <;> intro hc)
        | (first | ((refine' ⟨_, Yl_remE (r := (p : Int)) rfl rfl ?q1 ?q2 hpl, ?_⟩); (case q1 => omega); (case q2 => omega)) | ((refine' ⟨_, Yl_rem_t rfl rfl ?q1, ?_⟩); (case q1 => omega)))
        | (refine w4 ?_; (intro _))
        | (refine w5 ?_; (intro _ _))
        | refine w3 ?_ ?_
        | fail_if_success skip)
    exact ret_n [] (res1 rfl rfl) (List.nil_sublist _) ⟨rfl, rfl⟩
end
section
variable (A : Option Addr) (cc : Nat) (l : List Pk) (B : Option Addr) (d : Nat) (m : List Pk) (w : World) (ha : Rd w A l.length 1 (l.flatMap pE)) (hbb : Rd w B m.length 1 (m.flatMap pE)) (hia : Ins w l) (hib : Ins w m) (hle : l.length ≤ 9223372036854775806) (hlk : ∀ x ∈ l, x.1.length ≤ 9223372036854775806)
include ha hbb hia hib hle hlk
set_option maxHeartbeats 4000000 in
/-- Two lists of the same packets are the same. -/
theorem same_v (hs : l.map (·.1) = m.map (·.1)) : Sp Try.prog 18 [.slice A l.length cc, .slice B m.length d] w [] fun v N => v = .bool true ∧ N = [] := by
  have hll : m.length = l.length := by have := congrArg List.length hs; simpa using this.symm
  rw [hll] at hbb ⊢
  obtain ⟨n, hn⟩ : ∃ n, l.length = n := ⟨_, rfl⟩
  rw [hn] at ha hbb hle ⊢
  refine Sp.enter (n := 27) Try.func18 rfl rfl rfl (Hp.refl w) ?_
  repeat' (first
      | ((with_reducible refine is_load ?_); (first | ((refine' ⟨_, Yl_load_old rfl ?q1 hb List.not_mem_nil rfl, ?_⟩); (case q1 => exact one_of rfl)) | ((refine' ⟨_, Yl_load_rd rfl ?q1 ha haR ?q2, ?_⟩); (case q1 => exact one_of rfl); (case q2 => assumption)) | ((refine' ⟨_, Yl_load_hp rfl ?q1 (fun w hp => hp.rd ha fun _ => List.not_mem_nil) ?q2, ?_⟩); (case q1 => exact one_of rfl); (case q2 => assumption)) | ((refine' ⟨_, Yl_load_hp rfl ?q1 (fun w hp => hp.rd hbb fun _ => List.not_mem_nil) ?q2, ?_⟩); (case q1 => exact one_of rfl); (case q2 => assumption))))
      | ((with_reducible refine ie_callf ?_); (first   | ((with_reducible refine g_call 31 ?_); (first | refine Ef_callP rfl rfl ent_31 (fun w hp => hbs w (hp.in_old (hia x (mem_of_some hx))) (hp.in_old (hib y (mem_of_some hy)))) ?_))))
      | ((with_reducible refine g_draw ?_); (first  | (((with_reducible refine' T.drawM (id := 6) [(0, true), (1, true), (2, true), (3, true), (4, true), (5, false), (6, false), (7, false), (8, false), (9, false)] mixd ?q1 ?_); (case q1 => kernel_rfl)))))
      | refine w1 ?_
      | (refine w2 ?_ ?_ <;> intro hc)
      | (first | ((refine' ⟨_, Yl_remE (r := (p : Int)) rfl rfl ?q1 ?q2 hpl, ?_⟩); (case q1 => omega); (case q2 => omega)) | ((refine' ⟨_, Yl_rem_t rfl rfl ?q1, ?_⟩); (case q1 => omega)))
      | (refine w4 ?_; (intro _))
      | (refine w5 ?_; (intro _ _))
      | refine w3 ?_ ?_
      | fail_if_success skip)
  refine T.loop (α := Nat) (fun i => [(0, .slice A n cc), (1, .slice B n d), (5, .int .i64 (i : Int))]) (fun _ => []) (fun i => i ≤ n) (fun i => n - i) 0 ?_ ?_ ?_ ?_
  · (repeat (first | exact Sub.nil | refine Sub.cons rfl ?_))
  · (repeat (first | exact List.nil_sublist _ | refine List.Sublist.cons_cons _ ?_ | refine List.Sublist.cons _ ?_))
  · exact Nat.zero_le _
  · rintro i hi
    by_cases hlt : i < n
    · obtain ⟨x, hx⟩ := some_of_lt (l := l) (i := i) (by omega)
      obtain ⟨y, hy⟩ := some_of_lt (l := m) (i := i) (by omega)
      have e0 : (l.flatMap pE)[i * 1]? = some (pV x) := enc_at pE_len hx (j := 0) (by decide)
      have e1 : (m.flatMap pE)[i * 1]? = some (pV y) := enc_at pE_len hy (j := 0) (by decide)
      have hxy : x.1 = y.1 := by
        have h1 : (l.map (·.1))[i]? = some x.1 := by rw [List.getElem?_map, hx]; rfl
        rw [hs, List.getElem?_map, hy] at h1
        exact (Option.some.inj h1).symm
      have hbs := fun w' h1 h2 => bsame_v x.2.1 x.2.2 x.1 y.2.1 y.2.2 y.1 w' h1 h2 true (decide_eq_true hxy) (hlk x (mem_of_some hx))
      repeat' (first
          | ((with_reducible refine is_load ?_); (first | ((refine' ⟨_, Yl_load_old rfl ?q1 hb List.not_mem_nil rfl, ?_⟩); (case q1 => exact one_of rfl)) | ((refine' ⟨_, Yl_load_rd rfl ?q1 ha haR ?q2, ?_⟩); (case q1 => exact one_of rfl); (case q2 => assumption)) | ((refine' ⟨_, Yl_load_hp rfl ?q1 (fun w hp => hp.rd ha fun _ => List.not_mem_nil) ?q2, ?_⟩); (case q1 => exact one_of rfl); (case q2 => assumption)) | ((refine' ⟨_, Yl_load_hp rfl ?q1 (fun w hp => hp.rd hbb fun _ => List.not_mem_nil) ?q2, ?_⟩); (case q1 => exact one_of rfl); (case q2 => assumption))))
          | ((with_reducible refine ie_callf ?_); (first   | ((with_reducible refine g_call 31 ?_); (first | refine Ef_callP rfl rfl ent_31 (fun w hp => hbs w (hp.in_old (hia x (mem_of_some hx))) (hp.in_old (hib y (mem_of_some hy)))) ?_))))
          | ((with_reducible refine g_draw ?_); (first  | (((with_reducible refine' T.drawM (id := 6) [(0, true), (1, true), (2, true), (3, true), (4, true), (5, false), (6, false), (7, false), (8, false), (9, false)] mixd ?q1 ?_); (case q1 => kernel_rfl)))))
          | refine w1 ?_
          | (refine w2 ?_ ?_ <;> intro hc)
          | (first | ((refine' ⟨_, Yl_remE (r := (p : Int)) rfl rfl ?q1 ?q2 hpl, ?_⟩); (case q1 => omega); (case q2 => omega)) | ((refine' ⟨_, Yl_rem_t rfl rfl ?q1, ?_⟩); (case q1 => omega)))
          | (refine w4 ?_; (intro _))
          | (refine w5 ?_; (intro _ _))
          | refine w3 ?_ ?_
          | fail_if_success skip)
      refine loopQ_n (i + 1) ?_ ?_ (by (first | omega | (dsimp only; omega) | (simp; omega))) (by (first | omega | (dsimp only; omega) | (simp; omega)))
      · (repeat (first | exact Sub.nil | refine Sub.cons rfl ?_))
      · (repeat (first | exact List.nil_sublist _ | refine List.Sublist.cons_cons _ ?_ | refine List.Sublist.cons _ ?_))
    · repeat' (first
        | ((with_reducible refine is_load ?_); (first | ((refine' ⟨_, Yl_load_old rfl ?q1 hb List.not_mem_nil rfl, ?_⟩); (case q1 => exact one_of rfl)) | ((refine' ⟨_, Yl_load_rd rfl ?q1 ha haR ?q2, ?_⟩); (case q1 => exact one_of rfl); (case q2 => assumption)) | ((refine' ⟨_, Yl_load_hp rfl ?q1 (fun w hp => hp.rd ha fun _ => List.not_mem_nil) ?q2, ?_⟩); (case q1 => exact one_of rfl); (case q2 => assumption)) | ((refine' ⟨_, Yl_load_hp rfl ?q1 (fun w hp => hp.rd hbb fun _ => List.not_mem_nil) ?q2, ?_⟩); (case q1 => exact one_of rfl); (case q2 => assumption))))
        | ((with_reducible refine ie_callf ?_); (first   | ((with_reducible refine g_call 31 ?_); (first | refine Ef_callP rfl rfl ent_31 (fun w hp => hbs w (hp.in_old (hia x (mem_of_some hx))) (hp.in_old (hib y (mem_of_some hy)))) ?_))))
        | ((with_reducible refine g_draw ?_); (first  | (((with_reducible refine' T.drawM (id := 6) [(0, true), (1, true), (2, true), (3, true), (4, true), (5, false), (6, false), (7, false), (8, false), (9, false)] mixd ?q1 ?_); (case q1 => kernel_rfl)))))
        | refine w1 ?_
        | (refine w2 ?_ ?_ <;> intro hc)
        | (first | ((refine' ⟨_, Yl_remE (r := (p : Int)) rfl rfl ?q1 ?q2 hpl, ?_⟩); (case q1 => omega); (case q2 => omega)) | ((refine' ⟨_, Yl_rem_t rfl rfl ?q1, ?_⟩); (case q1 => omega)))
        | (refine w4 ?_; (intro _))
        | (refine w5 ?_; (intro _ _))
        | refine w3 ?_ ?_
        | fail_if_success skip)
      exact ret_n [] (res1 rfl rfl) (List.nil_sublist _) ⟨rfl, rfl⟩
end

/-! ### The document's net -/
abbrev yO (b : Nat) (z : Hd) (m : Nat) : Asrt := .blk b (.cells #[.slice z.1 m z.2] 45 (0, 0))
section
variable (b : Nat) (z : Hd) (l : List Pk) (w : World)
theorem place_v (hb : w.heap[b]? = some (.cells #[.slice z.1 l.length z.2] 45 (0, 0))) (hl : l.length ≤ 5000) (k : Int) (q : Int) (hq : (if l.length = 0 then (-1 : Int) else (plc k l.length : Int)) = q) : Sp Try.prog 34 [.pointer (some ⟨b, 0, none⟩), .int .i64 k] w [] fun v N => v = .int .i64 q ∧ N = [] := by
  subst hq
  by_cases h0 : l.length = 0
  · rw [if_pos h0]
    refine Sp.enter (n := 28) Try.func34 rfl rfl rfl (Hp.refl w) ?_
    repeat' (first | ((with_reducible refine is_load ?_); (first | ((refine' ⟨_, Yl_load_old rfl ?q1 hb List.not_mem_nil rfl, ?_⟩); (case q1 => exact one_of rfl)) | ((refine' ⟨_, Yl_load_rd rfl ?q1 ha haR ?q2, ?_⟩); (case q1 => exact one_of rfl); (case q2 => assumption)) | ((refine' ⟨_, Yl_load_hp rfl ?q1 (fun w hp => hp.rd ha fun _ => List.not_mem_nil) ?q2, ?_⟩); (case q1 => exact one_of rfl); (case q2 => assumption)) | ((refine' ⟨_, Yl_load_hp rfl ?q1 (fun w hp => hp.rd hbb fun _ => List.not_mem_nil) ?q2, ?_⟩); (case q1 => exact one_of rfl); (case q2 => assumption))))        | refine w1 ?_ | (refine w2 ?_ ?_ <;> intro hc) | (first | ((refine' ⟨_, Yl_remE (r := (p : Int)) rfl rfl ?q1 ?q2 hpl, ?_⟩); (case q1 => omega); (case q2 => omega)) | ((refine' ⟨_, Yl_rem_t rfl rfl ?q1, ?_⟩); (case q1 => omega))) | (refine w4 ?_; (intro _)) | (refine w5 ?_; (intro _ _)) | refine w3 ?_ ?_ | fail_if_success skip)
    exact ret_n [] (res1 rfl rfl) (List.nil_sublist _) ⟨rfl, rfl⟩
  · rw [if_neg h0]
    have hl0 : 0 < l.length := by omega
    have htr := tmod_rng k hl0
    have hpc := tmod_plc k hl0
    have hlt := plc_lt (k := k) hl0
    by_cases hneg : k.tmod (l.length : Int) < 0
    · have he : k.tmod (l.length : Int) + (l.length : Int) = (plc k l.length : Int) := by
        rw [← hpc, Int.emod_eq_of_lt (by omega) (by omega)]
      refine Sp.enter (n := 28) Try.func34 rfl rfl rfl (Hp.refl w) ?_
      repeat' (first | ((with_reducible refine is_load ?_); (first | ((refine' ⟨_, Yl_load_old rfl ?q1 hb List.not_mem_nil rfl, ?_⟩); (case q1 => exact one_of rfl)) | ((refine' ⟨_, Yl_load_rd rfl ?q1 ha haR ?q2, ?_⟩); (case q1 => exact one_of rfl); (case q2 => assumption)) | ((refine' ⟨_, Yl_load_hp rfl ?q1 (fun w hp => hp.rd ha fun _ => List.not_mem_nil) ?q2, ?_⟩); (case q1 => exact one_of rfl); (case q2 => assumption)) | ((refine' ⟨_, Yl_load_hp rfl ?q1 (fun w hp => hp.rd hbb fun _ => List.not_mem_nil) ?q2, ?_⟩); (case q1 => exact one_of rfl); (case q2 => assumption))))        | refine w1 ?_ | (refine w2 ?_ ?_ <;> intro hc) | (first | ((refine' ⟨_, Yl_remE (r := (p : Int)) rfl rfl ?q1 ?q2 hpl, ?_⟩); (case q1 => omega); (case q2 => omega)) | ((refine' ⟨_, Yl_rem_t rfl rfl ?q1, ?_⟩); (case q1 => omega))) | (refine w4 ?_; (intro _)) | (refine w5 ?_; (intro _ _)) | refine w3 ?_ ?_ | fail_if_success skip)
      exact ret_n [] (res1 rfl rfl) (List.nil_sublist _) ⟨by rw [he], rfl⟩
    · have he : k.tmod (l.length : Int) = (plc k l.length : Int) := by
        rw [← hpc, Int.add_emod_right, Int.emod_eq_of_lt (by omega) (by omega)]
      refine Sp.enter (n := 28) Try.func34 rfl rfl rfl (Hp.refl w) ?_
      repeat' (first | ((with_reducible refine is_load ?_); (first | ((refine' ⟨_, Yl_load_old rfl ?q1 hb List.not_mem_nil rfl, ?_⟩); (case q1 => exact one_of rfl)) | ((refine' ⟨_, Yl_load_rd rfl ?q1 ha haR ?q2, ?_⟩); (case q1 => exact one_of rfl); (case q2 => assumption)) | ((refine' ⟨_, Yl_load_hp rfl ?q1 (fun w hp => hp.rd ha fun _ => List.not_mem_nil) ?q2, ?_⟩); (case q1 => exact one_of rfl); (case q2 => assumption)) | ((refine' ⟨_, Yl_load_hp rfl ?q1 (fun w hp => hp.rd hbb fun _ => List.not_mem_nil) ?q2, ?_⟩); (case q1 => exact one_of rfl); (case q2 => assumption))))        | refine w1 ?_ | (refine w2 ?_ ?_ <;> intro hc) | (first | ((refine' ⟨_, Yl_remE (r := (p : Int)) rfl rfl ?q1 ?q2 hpl, ?_⟩); (case q1 => omega); (case q2 => omega)) | ((refine' ⟨_, Yl_rem_t rfl rfl ?q1, ?_⟩); (case q1 => omega))) | (refine w4 ?_; (intro _)) | (refine w5 ?_; (intro _ _)) | refine w3 ?_ ?_ | fail_if_success skip)
      exact ret_n [] (res1 rfl rfl) (List.nil_sublist _) ⟨by rw [he], rfl⟩
end
end Go.Proofs.Ytdbpnolpgkcjiaa
