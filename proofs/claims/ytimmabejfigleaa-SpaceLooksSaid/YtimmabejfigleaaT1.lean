/- What may be a pair, limits, a space; how many bytes pairs have: what a call of each comes to. -/
import Derived.Test.YtimmabejfigleaaRows
import Derived.Test.YtimmabejfigleaaKs
import Derived.Test.YtimmabejfigleaaFacts
namespace Go.Proofs.Ytimmabejfigleaa
open Go.RowKit
set_option maxRecDepth 20000

section
variable {P : Program} {n : Nat} {w0 : World} {R : List Nat} {L : List (Nat × Value)} {M : List Asrt} {ty t yt : TypeId} {x y : Operand} {a b : ByteArray}
theorem Yl_lss_strT (hx : evl L x = some (.string a)) (hy : evl L y = some (.string b)) (h : Ks.lt a b = true) : Yl P n w0 R (.binOp .lss t x y yt) ty L M (.bool true) := .mk fun ac w hk _ => by
  have h' : Op.bytesLess a.toList b.toList = true := h
  simp [execOp, hk.ev hx, hk.ev hy, eqGuard, binOp, Op.stringOp, h']
theorem Yl_lss_strF (hx : evl L x = some (.string a)) (hy : evl L y = some (.string b)) (h : Ks.lt a b = false) : Yl P n w0 R (.binOp .lss t x y yt) ty L M (.bool false) := .mk fun ac w hk _ => by
  have h' : Op.bytesLess a.toList b.toList = false := h
  simp [execOp, hk.ev hx, hk.ev hy, eqGuard, binOp, Op.stringOp, h']
theorem Yl_geq_strT (hx : evl L x = some (.string a)) (hy : evl L y = some (.string b)) (h : Ks.lt a b = false) : Yl P n w0 R (.binOp .geq t x y yt) ty L M (.bool true) := .mk fun ac w hk _ => by
  have h' : Op.bytesLess a.toList b.toList = false := h
  simp [execOp, hk.ev hx, hk.ev hy, eqGuard, binOp, Op.stringOp, h']
theorem Yl_geq_strF (hx : evl L x = some (.string a)) (hy : evl L y = some (.string b)) (h : Ks.lt a b = true) : Yl P n w0 R (.binOp .geq t x y yt) ty L M (.bool false) := .mk fun ac w hk _ => by
  have h' : Op.bytesLess a.toList b.toList = true := h
  simp [execOp, hk.ev hx, hk.ev hy, eqGuard, binOp, Op.stringOp, h']
theorem leq_str (a b : ByteArray) : (Op.bytesLess a.toList b.toList || a.toList == b.toList) = !Ks.lt b a := by
  rcases Ks.lt_tri a b with h | h | h
  · rw [Ks.lt_as h, show Op.bytesLess a.toList b.toList = true from h]; rfl
  · subst h
    rw [Ks.lt_irr]; simp
  · rw [h, show Op.bytesLess a.toList b.toList = false from Ks.lt_as h, str_beq, decide_eq_false fun e => Ks.lt_ne h e.symm]; rfl
theorem Yl_leq_strT (hx : evl L x = some (.string a)) (hy : evl L y = some (.string b)) (h : Ks.lt b a = false) : Yl P n w0 R (.binOp .leq t x y yt) ty L M (.bool true) := .mk fun ac w hk _ => by
  have h' := leq_str a b
  rw [h] at h'
  simp only [execOp, hk.ev hx, hk.ev hy, eqGuard, binOp, Op.stringOp, h']
  simp
theorem Yl_leq_strF (hx : evl L x = some (.string a)) (hy : evl L y = some (.string b)) (h : Ks.lt b a = true) : Yl P n w0 R (.binOp .leq t x y yt) ty L M (.bool false) := .mk fun ac w hk _ => by
  have h' := leq_str a b
  rw [h] at h'
  simp only [execOp, hk.ev hx, hk.ev hy, eqGuard, binOp, Op.stringOp, h']
  simp
theorem Yl_gtr_strT (hx : evl L x = some (.string a)) (hy : evl L y = some (.string b)) (h : Ks.lt b a = true) : Yl P n w0 R (.binOp .gtr t x y yt) ty L M (.bool true) := .mk fun ac w hk _ => by
  have h' := leq_str a b
  rw [h] at h'
  simp only [execOp, hk.ev hx, hk.ev hy, eqGuard, binOp, Op.stringOp, h']
  simp
theorem Yl_gtr_strF (hx : evl L x = some (.string a)) (hy : evl L y = some (.string b)) (h : Ks.lt b a = false) : Yl P n w0 R (.binOp .gtr t x y yt) ty L M (.bool false) := .mk fun ac w hk _ => by
  have h' := leq_str a b
  rw [h] at h'
  simp only [execOp, hk.ev hx, hk.ev hy, eqGuard, binOp, Op.stringOp, h']
  simp
end

def pE (p : Pr) : List Value := [.string p.1, .string p.2]
theorem pE_len (x : Pr) : (pE x).length = 2 := rfl
theorem pE_one (x : Pr) : ∀ u ∈ pE x, u.oneCell' = true := fun u hu => by
  simp [pE] at hu
  rcases hu with rfl | rfl <;> rfl
/-- A space's value. -/
def sV (k y : Int) (z : Option Addr × Nat) (n : Nat) : Array Value := #[.int .i64 k, .int .i64 y, .slice z.1 n z.2]

theorem pair_v (p : Pr) (b : Bool) (w : World) (h : Ks.pr p = b) : Sp Try.prog 43 [.agg (pE p).toArray] w [] fun v N => v = .bool b ∧ N = [] := by
  subst h
  unfold Ks.pr
  refine Sp.enter (n := Try.f43.ntmps) Try.func43 rfl rfl rfl (Hp.refl w) ?_
  repeat' (first   | refine w1 ?_ | (refine w2 ?_ ?_ <;> intro hc)  | (refine w4 ?_; (intro _)) | (refine w5 ?_; (intro _ _)) | refine w3 ?_ ?_ | fail_if_success skip)
  all_goals first
    | exact ret_n [] (res1 rfl rfl) (List.nil_sublist _) ⟨by rw [decide_eq_true (by omega)], rfl⟩
    | exact ret_n [] (res1 rfl rfl) (List.nil_sublist _) ⟨by rw [decide_eq_false (by omega)], rfl⟩
theorem key_v (s : ByteArray) (b : Bool) (w : World) (h : decide (1 ≤ s.size ∧ s.size ≤ 24) = b) : Sp Try.prog 40 [.string s] w [] fun v N => v = .bool b ∧ N = [] := by
  subst h
  refine Sp.enter (n := Try.f40.ntmps) Try.func40 rfl rfl rfl (Hp.refl w) ?_
  repeat' (first  | refine w1 ?_ | (refine w2 ?_ ?_ <;> intro hc)  | (refine w4 ?_; (intro _)) | (refine w5 ?_; (intro _ _)) | refine w3 ?_ ?_ | fail_if_success skip)
  all_goals first
    | exact ret_n [] (res1 rfl rfl) (List.nil_sublist _) ⟨by rw [decide_eq_true (by omega)], rfl⟩
    | exact ret_n [] (res1 rfl rfl) (List.nil_sublist _) ⟨by rw [decide_eq_false (by omega)], rfl⟩
theorem val_v (s : ByteArray) (b : Bool) (w : World) (h : decide (s.size ≤ 64) = b) : Sp Try.prog 41 [.string s] w [] fun v N => v = .bool b ∧ N = [] := by
  subst h
  refine Sp.enter (n := Try.f41.ntmps) Try.func41 rfl rfl rfl (Hp.refl w) ?_
  repeat' (first  | refine w1 ?_ | (refine w2 ?_ ?_ <;> intro hc)  | (refine w4 ?_; (intro _)) | (refine w5 ?_; (intro _ _)) | refine w3 ?_ ?_ | fail_if_success skip)
  all_goals first
    | exact ret_n [] (res1 rfl rfl) (List.nil_sublist _) ⟨by rw [decide_eq_true (by omega)], rfl⟩
    | exact ret_n [] (res1 rfl rfl) (List.nil_sublist _) ⟨by rw [decide_eq_false (by omega)], rfl⟩
theorem lim_v (k y : Int) (b : Bool) (w : World) (h : Ks.lim k y = b) : Sp Try.prog 38 [.int .i64 k, .int .i64 y] w [] fun v N => v = .bool b ∧ N = [] := by
  subst h
  unfold Ks.lim
  refine Sp.enter (n := Try.f38.ntmps) Try.func38 rfl rfl rfl (Hp.refl w) ?_
  repeat' (first  | refine w1 ?_ | (refine w2 ?_ ?_ <;> intro hc)  | (refine w4 ?_; (intro _)) | (refine w5 ?_; (intro _ _)) | refine w3 ?_ ?_ | fail_if_success skip)
  all_goals first
    | exact ret_n [] (res1 rfl rfl) (List.nil_sublist _) ⟨by rw [decide_eq_true (by omega)], rfl⟩
    | exact ret_n [] (res1 rfl rfl) (List.nil_sublist _) ⟨by rw [decide_eq_false (by omega)], rfl⟩
theorem rlim_v (k y : Int) (b : Bool) (w : World) (h : Ks.lim k y = b) : Sp Try.prog 20 [.int .i64 k, .int .i64 y] w [] fun v N => v = .bool b ∧ N = [] := by
  subst h
  unfold Ks.lim
  refine Sp.enter (n := Try.f20.ntmps) Try.func20 rfl rfl rfl (Hp.refl w) ?_
  repeat' (first  | refine w1 ?_ | (refine w2 ?_ ?_ <;> intro hc)  | (refine w4 ?_; (intro _)) | (refine w5 ?_; (intro _ _)) | refine w3 ?_ ?_ | fail_if_success skip)
  all_goals first
    | exact ret_n [] (res1 rfl rfl) (List.nil_sublist _) ⟨by rw [decide_eq_true (by omega)], rfl⟩
    | exact ret_n [] (res1 rfl rfl) (List.nil_sublist _) ⟨by rw [decide_eq_false (by omega)], rfl⟩

section
variable (A : Option Addr) (len cap : Nat) (l : List Pr) (w : World) (hr : Rd w A len 2 (l.flatMap pE)) (hl : l.length = len) (hle : len ≤ 1000)
include hr hl hle
theorem count_c (hcn : Ks.cnt l ≤ 1000000) : Sp Try.prog 35 [.slice A len cap] w [] fun v N => v = .int .i64 (Ks.cnt l : Int) ∧ N = [] := by
  refine Sp.enter (n := 23) Try.func35 rfl rfl rfl (Hp.refl w) ?_
  repeat' (first | ((with_reducible refine is_idx ?_); (first | ((refine' ⟨_, Yl_index (j := i - 1) rfl (congrArg (fun z => some (Value.int .i64 z)) ei) ?q1 ?q2 ?q3 (Rd.some_ ?q4 ?q5), ?_⟩); (case q1 => exact und_of rfl); (case q2 => exact siz_of rfl); (case q3 => omega); (case q4 => assumption); (case q5 => omega))))       | refine w1 ?_ | (refine w2 ?_ ?_ <;> intro hc)  | (refine w4 ?_; (intro _)) | (refine w5 ?_; (intro _ _)) | refine w3 ?_ ?_ | fail_if_success skip)
  refine T.loop (α := Nat) (fun i => [(3, .int .i64 (Ks.cnt (l.take i) : Int)), (6, .slice A len cap), (7, .int .i64 (len : Int)), (8, .int .i64 (i : Int))]) (fun _ => []) (fun i => i ≤ len) (fun i => len - i) 0 ?_ ?_ ?_ ?_
  · (repeat (first | exact Sub.nil | refine Sub.cons rfl ?_))
  · (repeat (first | exact List.nil_sublist _ | refine List.Sublist.cons_cons _ ?_ | refine List.Sublist.cons _ ?_))
  · exact Nat.zero_le _
  · intro i hi
    by_cases hlt : i < len
    · obtain ⟨x, hx⟩ := some_of_lt (l := l) (i := i) (by omega)
      have eA := enc_atA pE_len hx
      have hct := Ks.cnt_take hx
      have hcl := Ks.cnt_le l (i + 1)
      have e : ((Ks.cnt (l.take (i + 1)) : Nat) : Int) = (Ks.cnt (l.take i) : Int) + ((x.1.size : Int) + (x.2.size : Int)) := by rw [hct]; omega
      repeat' (first | ((with_reducible refine is_idx ?_); (first | ((refine' ⟨_, Yl_index (j := i - 1) rfl (congrArg (fun z => some (Value.int .i64 z)) ei) ?q1 ?q2 ?q3 (Rd.some_ ?q4 ?q5), ?_⟩); (case q1 => exact und_of rfl); (case q2 => exact siz_of rfl); (case q3 => omega); (case q4 => assumption); (case q5 => omega))))       | refine w1 ?_ | (refine w2 ?_ ?_ <;> intro hc)  | (refine w4 ?_; (intro _)) | (refine w5 ?_; (intro _ _)) | refine w3 ?_ ?_ | fail_if_success skip)
      refine loopQ_n (i + 1) ?_ ?_ (by (first | omega | (dsimp only; omega) | (simp; omega))) (by (first | omega | (dsimp only; omega) | (simp; omega)))
      · rw [e]
        (repeat (first | exact Sub.nil | refine Sub.cons rfl ?_))
      · (repeat (first | exact List.nil_sublist _ | refine List.Sublist.cons_cons _ ?_ | refine List.Sublist.cons _ ?_))
    · rw [List.take_of_length_le (by omega)]
      repeat' (first | ((with_reducible refine is_idx ?_); (first | ((refine' ⟨_, Yl_index (j := i - 1) rfl (congrArg (fun z => some (Value.int .i64 z)) ei) ?q1 ?q2 ?q3 (Rd.some_ ?q4 ?q5), ?_⟩); (case q1 => exact und_of rfl); (case q2 => exact siz_of rfl); (case q3 => omega); (case q4 => assumption); (case q5 => omega))))       | refine w1 ?_ | (refine w2 ?_ ?_ <;> intro hc)  | (refine w4 ?_; (intro _)) | (refine w5 ?_; (intro _ _)) | refine w3 ?_ ?_ | fail_if_success skip)
      exact ret_n [] (res1 rfl rfl) (List.nil_sublist _) ⟨rfl, rfl⟩
theorem rcount_c (hcn : Ks.cnt l ≤ 1000000) : Sp Try.prog 31 [.slice A len cap] w [] fun v N => v = .int .i64 (Ks.cnt l : Int) ∧ N = [] := by
  refine Sp.enter (n := 27) Try.func31 rfl rfl rfl (Hp.refl w) ?_
  repeat' (first | ((with_reducible refine is_idx ?_); (first | ((refine' ⟨_, Yl_index (j := i - 1) rfl (congrArg (fun z => some (Value.int .i64 z)) ei) ?q1 ?q2 ?q3 (Rd.some_ ?q4 ?q5), ?_⟩); (case q1 => exact und_of rfl); (case q2 => exact siz_of rfl); (case q3 => omega); (case q4 => assumption); (case q5 => omega))))      | ((with_reducible refine g_draw ?_); (first   | (((with_reducible refine' T.drawM (id := 5) [(0, true), (1, true), (2, true), (3, true), (4, true), (5, true), (6, true), (7, true), (8, true), (9, false), (10, false), (11, false), (12, false), (13, false), (14, false), (15, false)] mixd ?q1 ?_); (case q1 => kernel_rfl))))) | refine w1 ?_ | (refine w2 ?_ ?_ <;> intro hc)  | (refine w4 ?_; (intro _)) | (refine w5 ?_; (intro _ _)) | refine w3 ?_ ?_ | fail_if_success skip)
  refine T.loop (α := Nat) (fun i => [(0, .slice A len cap), (3, .int .i64 (Ks.cnt (l.take i) : Int)), (4, .int .i64 (i : Int))]) (fun _ => []) (fun i => i ≤ len) (fun i => len - i) 0 ?_ ?_ ?_ ?_
  · (repeat (first | exact Sub.nil | refine Sub.cons rfl ?_))
  · (repeat (first | exact List.nil_sublist _ | refine List.Sublist.cons_cons _ ?_ | refine List.Sublist.cons _ ?_))
  · exact Nat.zero_le _
  · intro i hi
    by_cases hlt : i < len
    · obtain ⟨x, hx⟩ := some_of_lt (l := l) (i := i) (by omega)
      have e0 := enc_at pE_len hx (j := 0) (by decide)
      have e1 := enc_at pE_len hx (j := 1) (by decide)
      have hct := Ks.cnt_take hx
      have hcl := Ks.cnt_le l (i + 1)
      have e : ((Ks.cnt (l.take (i + 1)) : Nat) : Int) = (Ks.cnt (l.take i) : Int) + (x.1.size : Int) + (x.2.size : Int) := by rw [hct]; omega
      repeat' (first | ((with_reducible refine is_idx ?_); (first | ((refine' ⟨_, Yl_index (j := i - 1) rfl (congrArg (fun z => some (Value.int .i64 z)) ei) ?q1 ?q2 ?q3 (Rd.some_ ?q4 ?q5), ?_⟩); (case q1 => exact und_of rfl); (case q2 => exact siz_of rfl); (case q3 => omega); (case q4 => assumption); (case q5 => omega))))      | ((with_reducible refine g_draw ?_); (first   | (((with_reducible refine' T.drawM (id := 5) [(0, true), (1, true), (2, true), (3, true), (4, true), (5, true), (6, true), (7, true), (8, true), (9, false), (10, false), (11, false), (12, false), (13, false), (14, false), (15, false)] mixd ?q1 ?_); (case q1 => kernel_rfl))))) | refine w1 ?_ | (refine w2 ?_ ?_ <;> intro hc)  | (refine w4 ?_; (intro _)) | (refine w5 ?_; (intro _ _)) | refine w3 ?_ ?_ | fail_if_success skip)
      refine loopQ_n (i + 1) ?_ ?_ (by (first | omega | (dsimp only; omega) | (simp; omega))) (by (first | omega | (dsimp only; omega) | (simp; omega)))
      · rw [e]
        (repeat (first | exact Sub.nil | refine Sub.cons rfl ?_))
      · (repeat (first | exact List.nil_sublist _ | refine List.Sublist.cons_cons _ ?_ | refine List.Sublist.cons _ ?_))
    · rw [List.take_of_length_le (by omega)]
      repeat' (first | ((with_reducible refine is_idx ?_); (first | ((refine' ⟨_, Yl_index (j := i - 1) rfl (congrArg (fun z => some (Value.int .i64 z)) ei) ?q1 ?q2 ?q3 (Rd.some_ ?q4 ?q5), ?_⟩); (case q1 => exact und_of rfl); (case q2 => exact siz_of rfl); (case q3 => omega); (case q4 => assumption); (case q5 => omega))))      | ((with_reducible refine g_draw ?_); (first   | (((with_reducible refine' T.drawM (id := 5) [(0, true), (1, true), (2, true), (3, true), (4, true), (5, true), (6, true), (7, true), (8, true), (9, false), (10, false), (11, false), (12, false), (13, false), (14, false), (15, false)] mixd ?q1 ?_); (case q1 => kernel_rfl))))) | refine w1 ?_ | (refine w2 ?_ ?_ <;> intro hc)  | (refine w4 ?_; (intro _)) | (refine w5 ?_; (intro _ _)) | refine w3 ?_ ?_ | fail_if_success skip)
      exact ret_n [] (res1 rfl rfl) (List.nil_sublist _) ⟨rfl, rfl⟩

set_option maxHeartbeats 4000000 in
theorem may_v (k y : Int) (b : Bool) (hb : Ks.may k y l = b) : Sp Try.prog 28 [.agg (sV k y (A, cap) len)] w [] fun v N => v = .bool b ∧ N = [] := by
  subst hb
  cases hlm : Ks.lim k y with
  | false =>
    have hf : Ks.may k y l = false := by unfold Ks.may; rw [hlm]; rfl
    rw [hf]
    have hli := fun w => lim_v k y false w hlm
    refine Sp.enter (n := 53) Try.func28 rfl rfl rfl (Hp.refl w) ?_
    repeat' (first
        | ((with_reducible refine is_idx ?_); (first | ((refine' ⟨_, Yl_index (j := i - 1) rfl (congrArg (fun z => some (Value.int .i64 z)) ei) ?q1 ?q2 ?q3 (Rd.some_ ?q4 ?q5), ?_⟩); (case q1 => exact und_of rfl); (case q2 => exact siz_of rfl); (case q3 => omega); (case q4 => assumption); (case q5 => omega))))
        | ((with_reducible refine ie_callf ?_); (first | ((with_reducible refine g_call 38 ?_); (first | refine Ef_callP rfl rfl ent_38 (fun w _ => hli w) ?_))  | ((with_reducible refine g_call 43 ?_); (first | refine Ef_callP rfl rfl ent_43 (fun w _ => hpr w) ?_))   | ((with_reducible refine g_call 35 ?_); (first | refine Ef_callP rfl rfl ent_35 (fun w hp => hcn w (hp.rd hr fun _ => List.not_mem_nil)) ?_))))
        | ((with_reducible refine g_draw ?_); (first | (((with_reducible refine' T.drawM (id := 6) [(0, false), (1, false), (2, false), (3, false), (4, false), (5, false), (6, false), (7, true), (8, true), (9, true), (10, true), (11, true), (12, true), (13, true), (14, false), (15, false), (16, false), (17, false), (18, false)] mixd ?q1 ?_); (case q1 => kernel_rfl))) | (((with_reducible refine' T.drawM (id := 9) [(0, true), (1, true), (3, true), (4, true), (2, false), (5, false), (6, false)] mixd ?q1 ?_); (case q1 => kernel_rfl)))))
        | refine w1 ?_
        | (refine w2 ?_ ?_ <;> intro hc)
        | (refine w4 ?_; (first | ((fail_if_success have := b1); intro b1) | intro _))
        | (refine w5 ?_; (intro _ _))
        | refine w3 ?_ ?_
        | fail_if_success skip)
    all_goals exact ret_n [] (res1 rfl rfl) (List.nil_sublist _) ⟨rfl, rfl⟩
  | true =>
    have hli := fun w => lim_v k y true w hlm
    by_cases hlk : (len : Int) ≤ k
    · refine Sp.enter (n := 53) Try.func28 rfl rfl rfl (Hp.refl w) ?_
      repeat' (first
          | ((with_reducible refine is_idx ?_); (first | ((refine' ⟨_, Yl_index (j := i - 1) rfl (congrArg (fun z => some (Value.int .i64 z)) ei) ?q1 ?q2 ?q3 (Rd.some_ ?q4 ?q5), ?_⟩); (case q1 => exact und_of rfl); (case q2 => exact siz_of rfl); (case q3 => omega); (case q4 => assumption); (case q5 => omega))))
          | ((with_reducible refine ie_callf ?_); (first | ((with_reducible refine g_call 38 ?_); (first | refine Ef_callP rfl rfl ent_38 (fun w _ => hli w) ?_))  | ((with_reducible refine g_call 43 ?_); (first | refine Ef_callP rfl rfl ent_43 (fun w _ => hpr w) ?_))   | ((with_reducible refine g_call 35 ?_); (first | refine Ef_callP rfl rfl ent_35 (fun w hp => hcn w (hp.rd hr fun _ => List.not_mem_nil)) ?_))))
          | ((with_reducible refine g_draw ?_); (first | (((with_reducible refine' T.drawM (id := 6) [(0, false), (1, false), (2, false), (3, false), (4, false), (5, false), (6, false), (7, true), (8, true), (9, true), (10, true), (11, true), (12, true), (13, true), (14, false), (15, false), (16, false), (17, false), (18, false)] mixd ?q1 ?_); (case q1 => kernel_rfl))) | (((with_reducible refine' T.drawM (id := 9) [(0, true), (1, true), (3, true), (4, true), (2, false), (5, false), (6, false)] mixd ?q1 ?_); (case q1 => kernel_rfl)))))
          | refine w1 ?_
          | (refine w2 ?_ ?_ <;> intro hc)
          | (refine w4 ?_; (first | ((fail_if_success have := b1); intro b1) | intro _))
          | (refine w5 ?_; (intro _ _))
          | refine w3 ?_ ?_
          | fail_if_success skip)
      refine T.loop (α := Nat) (fun i => [(1, .pointer (some ⟨b1, 0, none⟩)), (20, .slice A len cap), (21, .int .i64 (len : Int)), (22, .int .i64 (i : Int))]) (fun _ => [.blk b1 (.cells (sV k y (A, cap) len) 30 (0, 0))]) (fun i => i ≤ len ∧ Ks.okAll l i = true) (fun i => len - i) 0 ?_ ?_ ?_ ?_
      · (repeat (first | exact Sub.nil | refine Sub.cons rfl ?_))
      · (repeat (first | exact List.nil_sublist _ | refine List.Sublist.cons_cons _ ?_ | refine List.Sublist.cons _ ?_))
      · exact ⟨Nat.zero_le _, rfl⟩
      · rintro i ⟨hi, hm⟩
        by_cases hlt : i < len
        · obtain ⟨x, hx⟩ := some_of_lt (l := l) (i := i) (by omega)
          have eA := enc_atA pE_len hx
          cases hp : Ks.pr x with
          | false =>
            have hpr := fun w => pair_v x false w hp
            rw [Ks.may_no hx (by unfold Ks.okB; rw [hp]; rfl)]
            repeat' (first
                | ((with_reducible refine is_idx ?_); (first | ((refine' ⟨_, Yl_index (j := i - 1) rfl (congrArg (fun z => some (Value.int .i64 z)) ei) ?q1 ?q2 ?q3 (Rd.some_ ?q4 ?q5), ?_⟩); (case q1 => exact und_of rfl); (case q2 => exact siz_of rfl); (case q3 => omega); (case q4 => assumption); (case q5 => omega))))
                | ((with_reducible refine ie_callf ?_); (first | ((with_reducible refine g_call 38 ?_); (first | refine Ef_callP rfl rfl ent_38 (fun w _ => hli w) ?_))  | ((with_reducible refine g_call 43 ?_); (first | refine Ef_callP rfl rfl ent_43 (fun w _ => hpr w) ?_))   | ((with_reducible refine g_call 35 ?_); (first | refine Ef_callP rfl rfl ent_35 (fun w hp => hcn w (hp.rd hr fun _ => List.not_mem_nil)) ?_))))
                | ((with_reducible refine g_draw ?_); (first | (((with_reducible refine' T.drawM (id := 6) [(0, false), (1, false), (2, false), (3, false), (4, false), (5, false), (6, false), (7, true), (8, true), (9, true), (10, true), (11, true), (12, true), (13, true), (14, false), (15, false), (16, false), (17, false), (18, false)] mixd ?q1 ?_); (case q1 => kernel_rfl))) | (((with_reducible refine' T.drawM (id := 9) [(0, true), (1, true), (3, true), (4, true), (2, false), (5, false), (6, false)] mixd ?q1 ?_); (case q1 => kernel_rfl)))))
                | refine w1 ?_
                | (refine w2 ?_ ?_ <;> intro hc)
                | (refine w4 ?_; (first | ((fail_if_success have := b1); intro b1) | intro _))
                | (refine w5 ?_; (intro _ _))
                | refine w3 ?_ ?_
                | fail_if_success skip)
            all_goals exact ret_n [] (res1 rfl rfl) (List.nil_sublist _) ⟨rfl, rfl⟩
          | true =>
            have hpr := fun w => pair_v x true w hp
            by_cases hi0 : i = 0
            · subst hi0
              have hok : Ks.okB l 0 x = true := by unfold Ks.okB; rw [hp]; rfl
              repeat' (first
                  | ((with_reducible refine is_idx ?_); (first | ((refine' ⟨_, Yl_index (j := i - 1) rfl (congrArg (fun z => some (Value.int .i64 z)) ei) ?q1 ?q2 ?q3 (Rd.some_ ?q4 ?q5), ?_⟩); (case q1 => exact und_of rfl); (case q2 => exact siz_of rfl); (case q3 => omega); (case q4 => assumption); (case q5 => omega))))
                  | ((with_reducible refine ie_callf ?_); (first | ((with_reducible refine g_call 38 ?_); (first | refine Ef_callP rfl rfl ent_38 (fun w _ => hli w) ?_))  | ((with_reducible refine g_call 43 ?_); (first | refine Ef_callP rfl rfl ent_43 (fun w _ => hpr w) ?_))   | ((with_reducible refine g_call 35 ?_); (first | refine Ef_callP rfl rfl ent_35 (fun w hp => hcn w (hp.rd hr fun _ => List.not_mem_nil)) ?_))))
                  | ((with_reducible refine g_draw ?_); (first | (((with_reducible refine' T.drawM (id := 6) [(0, false), (1, false), (2, false), (3, false), (4, false), (5, false), (6, false), (7, true), (8, true), (9, true), (10, true), (11, true), (12, true), (13, true), (14, false), (15, false), (16, false), (17, false), (18, false)] mixd ?q1 ?_); (case q1 => kernel_rfl))) | (((with_reducible refine' T.drawM (id := 9) [(0, true), (1, true), (3, true), (4, true), (2, false), (5, false), (6, false)] mixd ?q1 ?_); (case q1 => kernel_rfl)))))
                  | refine w1 ?_
                  | (refine w2 ?_ ?_ <;> intro hc)
                  | (refine w4 ?_; (first | ((fail_if_success have := b1); intro b1) | intro _))
                  | (refine w5 ?_; (intro _ _))
                  | refine w3 ?_ ?_
                  | fail_if_success skip)
              refine loopQ_n 1 ?_ ?_ ⟨by (first | omega | (dsimp only; omega) | (simp; omega)), Ks.okAll_step hm hx hok⟩ (by (first | omega | (dsimp only; omega) | (simp; omega)))
              · (repeat (first | exact Sub.nil | refine Sub.cons rfl ?_))
              · (repeat (first | exact List.nil_sublist _ | refine List.Sublist.cons_cons _ ?_ | refine List.Sublist.cons _ ?_))
            · obtain ⟨z, hz⟩ := some_of_lt (l := l) (i := i - 1) (by omega)
              have ez := enc_at pE_len hz (j := 0) (by decide)
              have ei : ((i : Nat) : Int) - 1 = ((i - 1 : Nat) : Int) := by omega
              cases hzx : Ks.lt z.1 x.1 with
              | true =>
                have hok : Ks.okB l i x = true := by unfold Ks.okB; rw [hp, hz]; simp [hzx]
                repeat' (first
                    | ((with_reducible refine is_idx ?_); (first | ((refine' ⟨_, Yl_index (j := i - 1) rfl (congrArg (fun z => some (Value.int .i64 z)) ei) ?q1 ?q2 ?q3 (Rd.some_ ?q4 ?q5), ?_⟩); (case q1 => exact und_of rfl); (case q2 => exact siz_of rfl); (case q3 => omega); (case q4 => assumption); (case q5 => omega))))
                    | ((with_reducible refine ie_callf ?_); (first | ((with_reducible refine g_call 38 ?_); (first | refine Ef_callP rfl rfl ent_38 (fun w _ => hli w) ?_))  | ((with_reducible refine g_call 43 ?_); (first | refine Ef_callP rfl rfl ent_43 (fun w _ => hpr w) ?_))   | ((with_reducible refine g_call 35 ?_); (first | refine Ef_callP rfl rfl ent_35 (fun w hp => hcn w (hp.rd hr fun _ => List.not_mem_nil)) ?_))))
                    | ((with_reducible refine g_draw ?_); (first | (((with_reducible refine' T.drawM (id := 6) [(0, false), (1, false), (2, false), (3, false), (4, false), (5, false), (6, false), (7, true), (8, true), (9, true), (10, true), (11, true), (12, true), (13, true), (14, false), (15, false), (16, false), (17, false), (18, false)] mixd ?q1 ?_); (case q1 => kernel_rfl))) | (((with_reducible refine' T.drawM (id := 9) [(0, true), (1, true), (3, true), (4, true), (2, false), (5, false), (6, false)] mixd ?q1 ?_); (case q1 => kernel_rfl)))))
                    | refine w1 ?_
                    | (refine w2 ?_ ?_ <;> intro hc)
                    | (refine w4 ?_; (first | ((fail_if_success have := b1); intro b1) | intro _))
                    | (refine w5 ?_; (intro _ _))
                    | refine w3 ?_ ?_
                    | fail_if_success skip)
                refine loopQ_n (i + 1) ?_ ?_ ⟨by (first | omega | (dsimp only; omega) | (simp; omega)), Ks.okAll_step hm hx hok⟩ (by (first | omega | (dsimp only; omega) | (simp; omega)))
                · (repeat (first | exact Sub.nil | refine Sub.cons rfl ?_))
                · (repeat (first | exact List.nil_sublist _ | refine List.Sublist.cons_cons _ ?_ | refine List.Sublist.cons _ ?_))
              | false =>
                have hok : Ks.okB l i x = false := by unfold Ks.okB; rw [hp, hz]; simp [hzx, hi0]
                rw [Ks.may_no hx hok]
                repeat' (first
                    | ((with_reducible refine is_idx ?_); (first | ((refine' ⟨_, Yl_index (j := i - 1) rfl (congrArg (fun z => some (Value.int .i64 z)) ei) ?q1 ?q2 ?q3 (Rd.some_ ?q4 ?q5), ?_⟩); (case q1 => exact und_of rfl); (case q2 => exact siz_of rfl); (case q3 => omega); (case q4 => assumption); (case q5 => omega))))
                    | ((with_reducible refine ie_callf ?_); (first | ((with_reducible refine g_call 38 ?_); (first | refine Ef_callP rfl rfl ent_38 (fun w _ => hli w) ?_))  | ((with_reducible refine g_call 43 ?_); (first | refine Ef_callP rfl rfl ent_43 (fun w _ => hpr w) ?_))   | ((with_reducible refine g_call 35 ?_); (first | refine Ef_callP rfl rfl ent_35 (fun w hp => hcn w (hp.rd hr fun _ => List.not_mem_nil)) ?_))))
                    | ((with_reducible refine g_draw ?_); (first | (((with_reducible refine' T.drawM (id := 6) [(0, false), (1, false), (2, false), (3, false), (4, false), (5, false), (6, false), (7, true), (8, true), (9, true), (10, true), (11, true), (12, true), (13, true), (14, false), (15, false), (16, false), (17, false), (18, false)] mixd ?q1 ?_); (case q1 => kernel_rfl))) | (((with_reducible refine' T.drawM (id := 9) [(0, true), (1, true), (3, true), (4, true), (2, false), (5, false), (6, false)] mixd ?q1 ?_); (case q1 => kernel_rfl)))))
                    | refine w1 ?_
                    | (refine w2 ?_ ?_ <;> intro hc)
                    | (refine w4 ?_; (first | ((fail_if_success have := b1); intro b1) | intro _))
                    | (refine w5 ?_; (intro _ _))
                    | refine w3 ?_ ?_
                    | fail_if_success skip)
                all_goals exact ret_n [] (res1 rfl rfl) (List.nil_sublist _) ⟨rfl, rfl⟩
        · have hil : i = l.length := by omega
          rw [hil] at hm
          have hcb := Ks.cnt_pr (Ks.pr_all hm)
          have hcn := fun w h => count_c A len cap l w h hl hle (by omega)
          have hres : Ks.may k y l = decide ((Ks.cnt l : Int) ≤ y) := by unfold Ks.may; rw [hlm, hm, hl, decide_eq_true hlk]; rfl
          rw [hres]
          repeat' (first
              | ((with_reducible refine is_idx ?_); (first | ((refine' ⟨_, Yl_index (j := i - 1) rfl (congrArg (fun z => some (Value.int .i64 z)) ei) ?q1 ?q2 ?q3 (Rd.some_ ?q4 ?q5), ?_⟩); (case q1 => exact und_of rfl); (case q2 => exact siz_of rfl); (case q3 => omega); (case q4 => assumption); (case q5 => omega))))
              | ((with_reducible refine ie_callf ?_); (first | ((with_reducible refine g_call 38 ?_); (first | refine Ef_callP rfl rfl ent_38 (fun w _ => hli w) ?_))  | ((with_reducible refine g_call 43 ?_); (first | refine Ef_callP rfl rfl ent_43 (fun w _ => hpr w) ?_))   | ((with_reducible refine g_call 35 ?_); (first | refine Ef_callP rfl rfl ent_35 (fun w hp => hcn w (hp.rd hr fun _ => List.not_mem_nil)) ?_))))
              | ((with_reducible refine g_draw ?_); (first | (((with_reducible refine' T.drawM (id := 6) [(0, false), (1, false), (2, false), (3, false), (4, false), (5, false), (6, false), (7, true), (8, true), (9, true), (10, true), (11, true), (12, true), (13, true), (14, false), (15, false), (16, false), (17, false), (18, false)] mixd ?q1 ?_); (case q1 => kernel_rfl))) | (((with_reducible refine' T.drawM (id := 9) [(0, true), (1, true), (3, true), (4, true), (2, false), (5, false), (6, false)] mixd ?q1 ?_); (case q1 => kernel_rfl)))))
              | refine w1 ?_
              | (refine w2 ?_ ?_ <;> intro hc)
              | (refine w4 ?_; (first | ((fail_if_success have := b1); intro b1) | intro _))
              | (refine w5 ?_; (intro _ _))
              | refine w3 ?_ ?_
              | fail_if_success skip)
          all_goals first
            | exact ret_n [] (res1 rfl rfl) (List.nil_sublist _) ⟨by rw [decide_eq_true (by omega)], rfl⟩
            | exact ret_n [] (res1 rfl rfl) (List.nil_sublist _) ⟨by rw [decide_eq_false (by omega)], rfl⟩
    · have hf : Ks.may k y l = false := by unfold Ks.may; rw [hl, decide_eq_false hlk]; simp
      rw [hf]
      refine Sp.enter (n := 53) Try.func28 rfl rfl rfl (Hp.refl w) ?_
      repeat' (first
          | ((with_reducible refine is_idx ?_); (first | ((refine' ⟨_, Yl_index (j := i - 1) rfl (congrArg (fun z => some (Value.int .i64 z)) ei) ?q1 ?q2 ?q3 (Rd.some_ ?q4 ?q5), ?_⟩); (case q1 => exact und_of rfl); (case q2 => exact siz_of rfl); (case q3 => omega); (case q4 => assumption); (case q5 => omega))))
          | ((with_reducible refine ie_callf ?_); (first | ((with_reducible refine g_call 38 ?_); (first | refine Ef_callP rfl rfl ent_38 (fun w _ => hli w) ?_))  | ((with_reducible refine g_call 43 ?_); (first | refine Ef_callP rfl rfl ent_43 (fun w _ => hpr w) ?_))   | ((with_reducible refine g_call 35 ?_); (first | refine Ef_callP rfl rfl ent_35 (fun w hp => hcn w (hp.rd hr fun _ => List.not_mem_nil)) ?_))))
          | ((with_reducible refine g_draw ?_); (first | (((with_reducible refine' T.drawM (id := 6) [(0, false), (1, false), (2, false), (3, false), (4, false), (5, false), (6, false), (7, true), (8, true), (9, true), (10, true), (11, true), (12, true), (13, true), (14, false), (15, false), (16, false), (17, false), (18, false)] mixd ?q1 ?_); (case q1 => kernel_rfl))) | (((with_reducible refine' T.drawM (id := 9) [(0, true), (1, true), (3, true), (4, true), (2, false), (5, false), (6, false)] mixd ?q1 ?_); (case q1 => kernel_rfl)))))
          | refine w1 ?_
          | (refine w2 ?_ ?_ <;> intro hc)
          | (refine w4 ?_; (first | ((fail_if_success have := b1); intro b1) | intro _))
          | (refine w5 ?_; (intro _ _))
          | refine w3 ?_ ?_
          | fail_if_success skip)
      all_goals exact ret_n [] (res1 rfl rfl) (List.nil_sublist _) ⟨rfl, rfl⟩

set_option maxHeartbeats 4000000 in
theorem rmay_v (k y : Int) (b : Bool) (hb : Ks.may k y l = b) : Sp Try.prog 30 [.agg (sV k y (A, cap) len)] w [] fun v N => v = .bool b ∧ N = [] := by
  subst hb
  cases hlm : Ks.lim k y with
  | false =>
    have hf : Ks.may k y l = false := by unfold Ks.may; rw [hlm]; rfl
    rw [hf]
    have hli := fun w => rlim_v k y false w hlm
    refine Sp.enter (n := 69) Try.func30 rfl rfl rfl (Hp.refl w) ?_
    repeat' (first
        | ((with_reducible refine is_idx ?_); (first | ((refine' ⟨_, Yl_index (j := i - 1) rfl (congrArg (fun z => some (Value.int .i64 z)) ei) ?q1 ?q2 ?q3 (Rd.some_ ?q4 ?q5), ?_⟩); (case q1 => exact und_of rfl); (case q2 => exact siz_of rfl); (case q3 => omega); (case q4 => assumption); (case q5 => omega))))
        | ((with_reducible refine ie_callf ?_); (first  | ((with_reducible refine g_call 20 ?_); (first | refine Ef_callP rfl rfl ent_20 (fun w _ => hli w) ?_))  | ((with_reducible refine g_call 40 ?_); (first | refine Ef_callP rfl rfl ent_40 (fun w _ => hky w) ?_)) | ((with_reducible refine g_call 41 ?_); (first | refine Ef_callP rfl rfl ent_41 (fun w _ => hva w) ?_))  | ((with_reducible refine g_call 31 ?_); (first | refine Ef_callP rfl rfl ent_31 (fun w hp => hcn w (hp.rd hr fun _ => List.not_mem_nil)) ?_))))
        | ((with_reducible refine g_draw ?_); (first  | (((with_reducible refine' T.drawM (id := 6) [(0, true), (1, true), (2, false), (3, false), (4, false), (5, false), (6, false), (7, false), (8, false), (9, true), (10, true), (11, false), (12, false), (13, false), (14, false), (15, false), (16, false), (17, false), (18, false), (19, false), (20, false), (21, false), (22, true), (23, true), (24, true), (25, true), (26, true), (27, true), (28, true), (29, true), (30, false), (31, false), (32, false), (33, false), (34, false), (35, false), (36, false), (37, false)] mixd ?q1 ?_); (case q1 => kernel_rfl))) | (((with_reducible refine' T.drawM (id := 8) [(0, true), (1, true), (3, true), (4, true), (2, false), (5, false), (6, false)] mixd ?q1 ?_); (case q1 => kernel_rfl)))))
        | refine w1 ?_
        | (refine w2 ?_ ?_ <;> intro hc)
        | (refine w4 ?_; (first | ((fail_if_success have := b1); intro b1) | intro _))
        | (refine w5 ?_; (intro _ _))
        | refine w3 ?_ ?_
        | fail_if_success skip)
    all_goals exact ret_n [] (res1 rfl rfl) (List.nil_sublist _) ⟨rfl, rfl⟩
  | true =>
    have hli := fun w => rlim_v k y true w hlm
    by_cases hlk : (len : Int) ≤ k
    · refine Sp.enter (n := 69) Try.func30 rfl rfl rfl (Hp.refl w) ?_
      repeat' (first
          | ((with_reducible refine is_idx ?_); (first | ((refine' ⟨_, Yl_index (j := i - 1) rfl (congrArg (fun z => some (Value.int .i64 z)) ei) ?q1 ?q2 ?q3 (Rd.some_ ?q4 ?q5), ?_⟩); (case q1 => exact und_of rfl); (case q2 => exact siz_of rfl); (case q3 => omega); (case q4 => assumption); (case q5 => omega))))
          | ((with_reducible refine ie_callf ?_); (first  | ((with_reducible refine g_call 20 ?_); (first | refine Ef_callP rfl rfl ent_20 (fun w _ => hli w) ?_))  | ((with_reducible refine g_call 40 ?_); (first | refine Ef_callP rfl rfl ent_40 (fun w _ => hky w) ?_)) | ((with_reducible refine g_call 41 ?_); (first | refine Ef_callP rfl rfl ent_41 (fun w _ => hva w) ?_))  | ((with_reducible refine g_call 31 ?_); (first | refine Ef_callP rfl rfl ent_31 (fun w hp => hcn w (hp.rd hr fun _ => List.not_mem_nil)) ?_))))
          | ((with_reducible refine g_draw ?_); (first  | (((with_reducible refine' T.drawM (id := 6) [(0, true), (1, true), (2, false), (3, false), (4, false), (5, false), (6, false), (7, false), (8, false), (9, true), (10, true), (11, false), (12, false), (13, false), (14, false), (15, false), (16, false), (17, false), (18, false), (19, false), (20, false), (21, false), (22, true), (23, true), (24, true), (25, true), (26, true), (27, true), (28, true), (29, true), (30, false), (31, false), (32, false), (33, false), (34, false), (35, false), (36, false), (37, false)] mixd ?q1 ?_); (case q1 => kernel_rfl))) | (((with_reducible refine' T.drawM (id := 8) [(0, true), (1, true), (3, true), (4, true), (2, false), (5, false), (6, false)] mixd ?q1 ?_); (case q1 => kernel_rfl)))))
          | refine w1 ?_
          | (refine w2 ?_ ?_ <;> intro hc)
          | (refine w4 ?_; (first | ((fail_if_success have := b1); intro b1) | intro _))
          | (refine w5 ?_; (intro _ _))
          | refine w3 ?_ ?_
          | fail_if_success skip)
      refine T.loop (α := Nat) (fun i => [(1, .pointer (some ⟨b1, 0, none⟩)), (3, .int .i64 (i : Int))]) (fun _ => [.blk b1 (.cells (sV k y (A, cap) len) 24 (0, 0))]) (fun i => i ≤ len ∧ Ks.okAll l i = true) (fun i => len - i) 0 ?_ ?_ ?_ ?_
      · (repeat (first | exact Sub.nil | refine Sub.cons rfl ?_))
      · (repeat (first | exact List.nil_sublist _ | refine List.Sublist.cons_cons _ ?_ | refine List.Sublist.cons _ ?_))
      · exact ⟨Nat.zero_le _, rfl⟩
      · rintro i ⟨hi, hm⟩
        by_cases hlt : i < len
        · obtain ⟨x, hx⟩ := some_of_lt (l := l) (i := i) (by omega)
          have e0 := enc_at pE_len hx (j := 0) (by decide)
          have e1 := enc_at pE_len hx (j := 1) (by decide)
          by_cases hk : 1 ≤ x.1.size ∧ x.1.size ≤ 24
          · have hky := fun w => key_v x.1 true w (decide_eq_true hk)
            by_cases hv : x.2.size ≤ 64
            · have hva := fun w => val_v x.2 true w (decide_eq_true hv)
              have hp : Ks.pr x = true := decide_eq_true ⟨hk.1, hk.2, hv⟩
              by_cases hi0 : i = 0
              · subst hi0
                have hok : Ks.okB l 0 x = true := by unfold Ks.okB; rw [hp]; rfl
                repeat' (first
                    | ((with_reducible refine is_idx ?_); (first | ((refine' ⟨_, Yl_index (j := i - 1) rfl (congrArg (fun z => some (Value.int .i64 z)) ei) ?q1 ?q2 ?q3 (Rd.some_ ?q4 ?q5), ?_⟩); (case q1 => exact und_of rfl); (case q2 => exact siz_of rfl); (case q3 => omega); (case q4 => assumption); (case q5 => omega))))
                    | ((with_reducible refine ie_callf ?_); (first  | ((with_reducible refine g_call 20 ?_); (first | refine Ef_callP rfl rfl ent_20 (fun w _ => hli w) ?_))  | ((with_reducible refine g_call 40 ?_); (first | refine Ef_callP rfl rfl ent_40 (fun w _ => hky w) ?_)) | ((with_reducible refine g_call 41 ?_); (first | refine Ef_callP rfl rfl ent_41 (fun w _ => hva w) ?_))  | ((with_reducible refine g_call 31 ?_); (first | refine Ef_callP rfl rfl ent_31 (fun w hp => hcn w (hp.rd hr fun _ => List.not_mem_nil)) ?_))))
                    | ((with_reducible refine g_draw ?_); (first  | (((with_reducible refine' T.drawM (id := 6) [(0, true), (1, true), (2, false), (3, false), (4, false), (5, false), (6, false), (7, false), (8, false), (9, true), (10, true), (11, false), (12, false), (13, false), (14, false), (15, false), (16, false), (17, false), (18, false), (19, false), (20, false), (21, false), (22, true), (23, true), (24, true), (25, true), (26, true), (27, true), (28, true), (29, true), (30, false), (31, false), (32, false), (33, false), (34, false), (35, false), (36, false), (37, false)] mixd ?q1 ?_); (case q1 => kernel_rfl))) | (((with_reducible refine' T.drawM (id := 8) [(0, true), (1, true), (3, true), (4, true), (2, false), (5, false), (6, false)] mixd ?q1 ?_); (case q1 => kernel_rfl)))))
                    | refine w1 ?_
                    | (refine w2 ?_ ?_ <;> intro hc)
                    | (refine w4 ?_; (first | ((fail_if_success have := b1); intro b1) | intro _))
                    | (refine w5 ?_; (intro _ _))
                    | refine w3 ?_ ?_
                    | fail_if_success skip)
                refine loopQ_n 1 ?_ ?_ ⟨by (first | omega | (dsimp only; omega) | (simp; omega)), Ks.okAll_step hm hx hok⟩ (by (first | omega | (dsimp only; omega) | (simp; omega)))
                · (repeat (first | exact Sub.nil | refine Sub.cons rfl ?_))
                · (repeat (first | exact List.nil_sublist _ | refine List.Sublist.cons_cons _ ?_ | refine List.Sublist.cons _ ?_))
              · obtain ⟨z, hz⟩ := some_of_lt (l := l) (i := i - 1) (by omega)
                have ez := enc_at pE_len hz (j := 0) (by decide)
                have ei : ((i : Nat) : Int) - 1 = ((i - 1 : Nat) : Int) := by omega
                cases hzx : Ks.lt z.1 x.1 with
                | true =>
                  have hok : Ks.okB l i x = true := by unfold Ks.okB; rw [hp, hz]; simp [hzx]
                  repeat' (first
                      | ((with_reducible refine is_idx ?_); (first | ((refine' ⟨_, Yl_index (j := i - 1) rfl (congrArg (fun z => some (Value.int .i64 z)) ei) ?q1 ?q2 ?q3 (Rd.some_ ?q4 ?q5), ?_⟩); (case q1 => exact und_of rfl); (case q2 => exact siz_of rfl); (case q3 => omega); (case q4 => assumption); (case q5 => omega))))
                      | ((with_reducible refine ie_callf ?_); (first  | ((with_reducible refine g_call 20 ?_); (first | refine Ef_callP rfl rfl ent_20 (fun w _ => hli w) ?_))  | ((with_reducible refine g_call 40 ?_); (first | refine Ef_callP rfl rfl ent_40 (fun w _ => hky w) ?_)) | ((with_reducible refine g_call 41 ?_); (first | refine Ef_callP rfl rfl ent_41 (fun w _ => hva w) ?_))  | ((with_reducible refine g_call 31 ?_); (first | refine Ef_callP rfl rfl ent_31 (fun w hp => hcn w (hp.rd hr fun _ => List.not_mem_nil)) ?_))))
                      | ((with_reducible refine g_draw ?_); (first  | (((with_reducible refine' T.drawM (id := 6) [(0, true), (1, true), (2, false), (3, false), (4, false), (5, false), (6, false), (7, false), (8, false), (9, true), (10, true), (11, false), (12, false), (13, false), (14, false), (15, false), (16, false), (17, false), (18, false), (19, false), (20, false), (21, false), (22, true), (23, true), (24, true), (25, true), (26, true), (27, true), (28, true), (29, true), (30, false), (31, false), (32, false), (33, false), (34, false), (35, false), (36, false), (37, false)] mixd ?q1 ?_); (case q1 => kernel_rfl))) | (((with_reducible refine' T.drawM (id := 8) [(0, true), (1, true), (3, true), (4, true), (2, false), (5, false), (6, false)] mixd ?q1 ?_); (case q1 => kernel_rfl)))))
                      | refine w1 ?_
                      | (refine w2 ?_ ?_ <;> intro hc)
                      | (refine w4 ?_; (first | ((fail_if_success have := b1); intro b1) | intro _))
                      | (refine w5 ?_; (intro _ _))
                      | refine w3 ?_ ?_
                      | fail_if_success skip)
                  refine loopQ_n (i + 1) ?_ ?_ ⟨by (first | omega | (dsimp only; omega) | (simp; omega)), Ks.okAll_step hm hx hok⟩ (by (first | omega | (dsimp only; omega) | (simp; omega)))
                  · (repeat (first | exact Sub.nil | refine Sub.cons rfl ?_))
                  · (repeat (first | exact List.nil_sublist _ | refine List.Sublist.cons_cons _ ?_ | refine List.Sublist.cons _ ?_))
                | false =>
                  have hok : Ks.okB l i x = false := by unfold Ks.okB; rw [hp, hz]; simp [hzx, hi0]
                  rw [Ks.may_no hx hok]
                  repeat' (first
                      | ((with_reducible refine is_idx ?_); (first | ((refine' ⟨_, Yl_index (j := i - 1) rfl (congrArg (fun z => some (Value.int .i64 z)) ei) ?q1 ?q2 ?q3 (Rd.some_ ?q4 ?q5), ?_⟩); (case q1 => exact und_of rfl); (case q2 => exact siz_of rfl); (case q3 => omega); (case q4 => assumption); (case q5 => omega))))
                      | ((with_reducible refine ie_callf ?_); (first  | ((with_reducible refine g_call 20 ?_); (first | refine Ef_callP rfl rfl ent_20 (fun w _ => hli w) ?_))  | ((with_reducible refine g_call 40 ?_); (first | refine Ef_callP rfl rfl ent_40 (fun w _ => hky w) ?_)) | ((with_reducible refine g_call 41 ?_); (first | refine Ef_callP rfl rfl ent_41 (fun w _ => hva w) ?_))  | ((with_reducible refine g_call 31 ?_); (first | refine Ef_callP rfl rfl ent_31 (fun w hp => hcn w (hp.rd hr fun _ => List.not_mem_nil)) ?_))))
                      | ((with_reducible refine g_draw ?_); (first  | (((with_reducible refine' T.drawM (id := 6) [(0, true), (1, true), (2, false), (3, false), (4, false), (5, false), (6, false), (7, false), (8, false), (9, true), (10, true), (11, false), (12, false), (13, false), (14, false), (15, false), (16, false), (17, false), (18, false), (19, false), (20, false), (21, false), (22, true), (23, true), (24, true), (25, true), (26, true), (27, true), (28, true), (29, true), (30, false), (31, false), (32, false), (33, false), (34, false), (35, false), (36, false), (37, false)] mixd ?q1 ?_); (case q1 => kernel_rfl))) | (((with_reducible refine' T.drawM (id := 8) [(0, true), (1, true), (3, true), (4, true), (2, false), (5, false), (6, false)] mixd ?q1 ?_); (case q1 => kernel_rfl)))))
                      | refine w1 ?_
                      | (refine w2 ?_ ?_ <;> intro hc)
                      | (refine w4 ?_; (first | ((fail_if_success have := b1); intro b1) | intro _))
                      | (refine w5 ?_; (intro _ _))
                      | refine w3 ?_ ?_
                      | fail_if_success skip)
                  all_goals exact ret_n [] (res1 rfl rfl) (List.nil_sublist _) ⟨rfl, rfl⟩
            · have hva := fun w => val_v x.2 false w (decide_eq_false hv)
              rw [Ks.may_no hx (by unfold Ks.okB Ks.pr; rw [decide_eq_false (by omega)]; rfl)]
              repeat' (first
                  | ((with_reducible refine is_idx ?_); (first | ((refine' ⟨_, Yl_index (j := i - 1) rfl (congrArg (fun z => some (Value.int .i64 z)) ei) ?q1 ?q2 ?q3 (Rd.some_ ?q4 ?q5), ?_⟩); (case q1 => exact und_of rfl); (case q2 => exact siz_of rfl); (case q3 => omega); (case q4 => assumption); (case q5 => omega))))
                  | ((with_reducible refine ie_callf ?_); (first  | ((with_reducible refine g_call 20 ?_); (first | refine Ef_callP rfl rfl ent_20 (fun w _ => hli w) ?_))  | ((with_reducible refine g_call 40 ?_); (first | refine Ef_callP rfl rfl ent_40 (fun w _ => hky w) ?_)) | ((with_reducible refine g_call 41 ?_); (first | refine Ef_callP rfl rfl ent_41 (fun w _ => hva w) ?_))  | ((with_reducible refine g_call 31 ?_); (first | refine Ef_callP rfl rfl ent_31 (fun w hp => hcn w (hp.rd hr fun _ => List.not_mem_nil)) ?_))))
                  | ((with_reducible refine g_draw ?_); (first  | (((with_reducible refine' T.drawM (id := 6) [(0, true), (1, true), (2, false), (3, false), (4, false), (5, false), (6, false), (7, false), (8, false), (9, true), (10, true), (11, false), (12, false), (13, false), (14, false), (15, false), (16, false), (17, false), (18, false), (19, false), (20, false), (21, false), (22, true), (23, true), (24, true), (25, true), (26, true), (27, true), (28, true), (29, true), (30, false), (31, false), (32, false), (33, false), (34, false), (35, false), (36, false), (37, false)] mixd ?q1 ?_); (case q1 => kernel_rfl))) | (((with_reducible refine' T.drawM (id := 8) [(0, true), (1, true), (3, true), (4, true), (2, false), (5, false), (6, false)] mixd ?q1 ?_); (case q1 => kernel_rfl)))))
                  | refine w1 ?_
                  | (refine w2 ?_ ?_ <;> intro hc)
                  | (refine w4 ?_; (first | ((fail_if_success have := b1); intro b1) | intro _))
                  | (refine w5 ?_; (intro _ _))
                  | refine w3 ?_ ?_
                  | fail_if_success skip)
              all_goals exact ret_n [] (res1 rfl rfl) (List.nil_sublist _) ⟨rfl, rfl⟩
          · have hky := fun w => key_v x.1 false w (decide_eq_false hk)
            rw [Ks.may_no hx (by unfold Ks.okB Ks.pr; rw [decide_eq_false (by omega)]; rfl)]
            repeat' (first
                | ((with_reducible refine is_idx ?_); (first | ((refine' ⟨_, Yl_index (j := i - 1) rfl (congrArg (fun z => some (Value.int .i64 z)) ei) ?q1 ?q2 ?q3 (Rd.some_ ?q4 ?q5), ?_⟩); (case q1 => exact und_of rfl); (case q2 => exact siz_of rfl); (case q3 => omega); (case q4 => assumption); (case q5 => omega))))
                | ((with_reducible refine ie_callf ?_); (first  | ((with_reducible refine g_call 20 ?_); (first | refine Ef_callP rfl rfl ent_20 (fun w _ => hli w) ?_))  | ((with_reducible refine g_call 40 ?_); (first | refine Ef_callP rfl rfl ent_40 (fun w _ => hky w) ?_)) | ((with_reducible refine g_call 41 ?_); (first | refine Ef_callP rfl rfl ent_41 (fun w _ => hva w) ?_))  | ((with_reducible refine g_call 31 ?_); (first | refine Ef_callP rfl rfl ent_31 (fun w hp => hcn w (hp.rd hr fun _ => List.not_mem_nil)) ?_))))
                | ((with_reducible refine g_draw ?_); (first  | (((with_reducible refine' T.drawM (id := 6) [(0, true), (1, true), (2, false), (3, false), (4, false), (5, false), (6, false), (7, false), (8, false), (9, true), (10, true), (11, false), (12, false), (13, false), (14, false), (15, false), (16, false), (17, false), (18, false), (19, false), (20, false), (21, false), (22, true), (23, true), (24, true), (25, true), (26, true), (27, true), (28, true), (29, true), (30, false), (31, false), (32, false), (33, false), (34, false), (35, false), (36, false), (37, false)] mixd ?q1 ?_); (case q1 => kernel_rfl))) | (((with_reducible refine' T.drawM (id := 8) [(0, true), (1, true), (3, true), (4, true), (2, false), (5, false), (6, false)] mixd ?q1 ?_); (case q1 => kernel_rfl)))))
                | refine w1 ?_
                | (refine w2 ?_ ?_ <;> intro hc)
                | (refine w4 ?_; (first | ((fail_if_success have := b1); intro b1) | intro _))
                | (refine w5 ?_; (intro _ _))
                | refine w3 ?_ ?_
                | fail_if_success skip)
            all_goals exact ret_n [] (res1 rfl rfl) (List.nil_sublist _) ⟨rfl, rfl⟩
        · have hil : i = l.length := by omega
          rw [hil] at hm
          have hcb := Ks.cnt_pr (Ks.pr_all hm)
          have hcn := fun w h => rcount_c A len cap l w h hl hle (by omega)
          have hres : Ks.may k y l = decide ((Ks.cnt l : Int) ≤ y) := by unfold Ks.may; rw [hlm, hm, hl, decide_eq_true hlk]; rfl
          rw [hres]
          repeat' (first
              | ((with_reducible refine is_idx ?_); (first | ((refine' ⟨_, Yl_index (j := i - 1) rfl (congrArg (fun z => some (Value.int .i64 z)) ei) ?q1 ?q2 ?q3 (Rd.some_ ?q4 ?q5), ?_⟩); (case q1 => exact und_of rfl); (case q2 => exact siz_of rfl); (case q3 => omega); (case q4 => assumption); (case q5 => omega))))
              | ((with_reducible refine ie_callf ?_); (first  | ((with_reducible refine g_call 20 ?_); (first | refine Ef_callP rfl rfl ent_20 (fun w _ => hli w) ?_))  | ((with_reducible refine g_call 40 ?_); (first | refine Ef_callP rfl rfl ent_40 (fun w _ => hky w) ?_)) | ((with_reducible refine g_call 41 ?_); (first | refine Ef_callP rfl rfl ent_41 (fun w _ => hva w) ?_))  | ((with_reducible refine g_call 31 ?_); (first | refine Ef_callP rfl rfl ent_31 (fun w hp => hcn w (hp.rd hr fun _ => List.not_mem_nil)) ?_))))
              | ((with_reducible refine g_draw ?_); (first  | (((with_reducible refine' T.drawM (id := 6) [(0, true), (1, true), (2, false), (3, false), (4, false), (5, false), (6, false), (7, false), (8, false), (9, true), (10, true), (11, false), (12, false), (13, false), (14, false), (15, false), (16, false), (17, false), (18, false), (19, false), (20, false), (21, false), (22, true), (23, true), (24, true), (25, true), (26, true), (27, true), (28, true), (29, true), (30, false), (31, false), (32, false), (33, false), (34, false), (35, false), (36, false), (37, false)] mixd ?q1 ?_); (case q1 => kernel_rfl))) | (((with_reducible refine' T.drawM (id := 8) [(0, true), (1, true), (3, true), (4, true), (2, false), (5, false), (6, false)] mixd ?q1 ?_); (case q1 => kernel_rfl)))))
              | refine w1 ?_
              | (refine w2 ?_ ?_ <;> intro hc)
              | (refine w4 ?_; (first | ((fail_if_success have := b1); intro b1) | intro _))
              | (refine w5 ?_; (intro _ _))
              | refine w3 ?_ ?_
              | fail_if_success skip)
          all_goals first
            | exact ret_n [] (res1 rfl rfl) (List.nil_sublist _) ⟨by rw [decide_eq_true (by omega)], rfl⟩
            | exact ret_n [] (res1 rfl rfl) (List.nil_sublist _) ⟨by rw [decide_eq_false (by omega)], rfl⟩
    · have hf : Ks.may k y l = false := by unfold Ks.may; rw [hl, decide_eq_false hlk]; simp
      rw [hf]
      refine Sp.enter (n := 69) Try.func30 rfl rfl rfl (Hp.refl w) ?_
      repeat' (first
          | ((with_reducible refine is_idx ?_); (first | ((refine' ⟨_, Yl_index (j := i - 1) rfl (congrArg (fun z => some (Value.int .i64 z)) ei) ?q1 ?q2 ?q3 (Rd.some_ ?q4 ?q5), ?_⟩); (case q1 => exact und_of rfl); (case q2 => exact siz_of rfl); (case q3 => omega); (case q4 => assumption); (case q5 => omega))))
          | ((with_reducible refine ie_callf ?_); (first  | ((with_reducible refine g_call 20 ?_); (first | refine Ef_callP rfl rfl ent_20 (fun w _ => hli w) ?_))  | ((with_reducible refine g_call 40 ?_); (first | refine Ef_callP rfl rfl ent_40 (fun w _ => hky w) ?_)) | ((with_reducible refine g_call 41 ?_); (first | refine Ef_callP rfl rfl ent_41 (fun w _ => hva w) ?_))  | ((with_reducible refine g_call 31 ?_); (first | refine Ef_callP rfl rfl ent_31 (fun w hp => hcn w (hp.rd hr fun _ => List.not_mem_nil)) ?_))))
          | ((with_reducible refine g_draw ?_); (first  | (((with_reducible refine' T.drawM (id := 6) [(0, true), (1, true), (2, false), (3, false), (4, false), (5, false), (6, false), (7, false), (8, false), (9, true), (10, true), (11, false), (12, false), (13, false), (14, false), (15, false), (16, false), (17, false), (18, false), (19, false), (20, false), (21, false), (22, true), (23, true), (24, true), (25, true), (26, true), (27, true), (28, true), (29, true), (30, false), (31, false), (32, false), (33, false), (34, false), (35, false), (36, false), (37, false)] mixd ?q1 ?_); (case q1 => kernel_rfl))) | (((with_reducible refine' T.drawM (id := 8) [(0, true), (1, true), (3, true), (4, true), (2, false), (5, false), (6, false)] mixd ?q1 ?_); (case q1 => kernel_rfl)))))
          | refine w1 ?_
          | (refine w2 ?_ ?_ <;> intro hc)
          | (refine w4 ?_; (first | ((fail_if_success have := b1); intro b1) | intro _))
          | (refine w5 ?_; (intro _ _))
          | refine w3 ?_ ?_
          | fail_if_success skip)
      all_goals exact ret_n [] (res1 rfl rfl) (List.nil_sublist _) ⟨rfl, rfl⟩
end
end Go.Proofs.Ytimmabejfigleaa
