/- What is read of a log: none, Len, Synced, Stamp; the document's Stamp. -/
import Derived.Test.YtegaejbfhpigjaaT2
namespace Go.Proofs.Ytegaejbfhpigjaa
open Go.RowKit
set_option maxRecDepth 20000

section
variable {P : Program} {n : Nat} {w0 : World} {R : List Nat} {L : List (Nat × Value)} {M : List Asrt} {ty t : TypeId} {x y : Operand}
theorem Yl_indexZ {A : Option Addr} {m cap k j : Nat} {z : Int} {e : TypeId} {kd : IntKind} (hx : evl L x = some (.slice A m cap)) (hy : evl L y = some (.int kd z)) (hz : z = (j : Int)) (ht : P.underlying t = some (.slice e)) (hs : sizT P e = some k)
    (hj : j < m) (hA : A = some (adr A)) : Yl P n w0 R (.indexAddr t x y) ty L M (.pointer (some ((adr A).add (j * k)))) := by
  subst hz
  exact Yl_index hx hy ht hs hj hA
end

/-- A log's cells; the document's. -/
def lgC (q : Bool) (v : Value) (sy : Int) : Array Value := #[.bool q, v, .int .i64 sy]
def lrC (v : Value) (sy : Int) : Array Value := #[v, .int .i64 sy]

section
variable (w : World)
theorem none0_v : Sp Try.prog 37 [.pointer none] w [] fun v N => v = .bool true ∧ N = [] := by
  refine Sp.enter (n := 12) Try.func37 rfl rfl rfl (Hp.refl w) ?_
  repeat' (first | ((with_reducible refine is_load ?_); (first | ((refine' ⟨_, Yl_load_old rfl ?q1 hb List.not_mem_nil rfl, ?_⟩); (case q1 => exact one_of rfl))))        | refine w1 ?_ | (refine w2 ?_ ?_ <;> intro hc) | (first | ((refine' ⟨_, Yl_eql_ptr rfl rfl ?q1, ?_⟩); (case q1 => exact ptr_of rfl rfl))) | (refine w4 ?_; (intro _)) | (refine w5 ?_; (intro _ _)) | refine w3 ?_ ?_ | fail_if_success skip)
  exact ret_n [] (res1 rfl rfl) (List.nil_sublist _) ⟨rfl, rfl⟩
variable (b : Nat) (q : Bool) (v : Value) (sy : Int) (hb : w.heap[b]? = some (.cells (lgC q v sy) 50 (0, 0)))
include hb
theorem none1_v : Sp Try.prog 37 [.pointer (some ⟨b, 0, none⟩)] w [] fun v N => v = .bool (!q) ∧ N = [] := by
  refine Sp.enter (n := 12) Try.func37 rfl rfl rfl (Hp.refl w) ?_
  repeat' (first | ((with_reducible refine is_load ?_); (first | ((refine' ⟨_, Yl_load_old rfl ?q1 hb List.not_mem_nil rfl, ?_⟩); (case q1 => exact one_of rfl))))        | refine w1 ?_ | (refine w2 ?_ ?_ <;> intro hc) | (first | ((refine' ⟨_, Yl_eql_ptr rfl rfl ?q1, ?_⟩); (case q1 => exact ptr_of rfl rfl))) | (refine w4 ?_; (intro _)) | (refine w5 ?_; (intro _ _)) | refine w3 ?_ ?_ | fail_if_success skip)
  exact ret_n [] (res1 rfl rfl) (List.nil_sublist _) ⟨rfl, rfl⟩
end

section
variable (pv : Value) (w : World) (hno : ∀ {M : List Asrt} (w' : World), Hp w [] M w' → Sp Try.prog 37 [pv] w' [] fun v N => v = .bool true ∧ N = [])
include hno
theorem lenN_v : Sp Try.prog 15 [pv] w [] fun v N => v = .int .i64 0 ∧ N = [] := by
  refine Sp.enter (n := 10) Try.func15 rfl rfl rfl (Hp.refl w) ?_
  repeat' (first | ((with_reducible refine is_load ?_); (first | ((refine' ⟨_, Yl_load_old rfl ?q1 hb List.not_mem_nil rfl, ?_⟩); (case q1 => exact one_of rfl))))    | ((with_reducible refine ie_callf ?_); (first | ((with_reducible refine g_call 37 ?_); (first | refine Ef_callP rfl rfl ent_37 (fun w hp => hno w hp) ?_))))    | refine w1 ?_ | (refine w2 ?_ ?_ <;> intro hc) | (first | ((refine' ⟨_, Yl_eql_ptr rfl rfl ?q1, ?_⟩); (case q1 => exact ptr_of rfl rfl))) | (refine w4 ?_; (intro _)) | (refine w5 ?_; (intro _ _)) | refine w3 ?_ ?_ | fail_if_success skip)
  exact ret_n [] (res1 rfl rfl) (List.nil_sublist _) ⟨rfl, rfl⟩
theorem syncedN_v : Sp Try.prog 16 [pv] w [] fun v N => v = .int .i64 0 ∧ N = [] := by
  refine Sp.enter (n := 9) Try.func16 rfl rfl rfl (Hp.refl w) ?_
  repeat' (first | ((with_reducible refine is_load ?_); (first | ((refine' ⟨_, Yl_load_old rfl ?q1 hb List.not_mem_nil rfl, ?_⟩); (case q1 => exact one_of rfl))))    | ((with_reducible refine ie_callf ?_); (first | ((with_reducible refine g_call 37 ?_); (first | refine Ef_callP rfl rfl ent_37 (fun w hp => hno w hp) ?_))))    | refine w1 ?_ | (refine w2 ?_ ?_ <;> intro hc) | (first | ((refine' ⟨_, Yl_eql_ptr rfl rfl ?q1, ?_⟩); (case q1 => exact ptr_of rfl rfl))) | (refine w4 ?_; (intro _)) | (refine w5 ?_; (intro _ _)) | refine w3 ?_ ?_ | fail_if_success skip)
  exact ret_n [] (res1 rfl rfl) (List.nil_sublist _) ⟨rfl, rfl⟩
end

section
variable (b : Nat) (A : Option Addr) (len cap : Nat) (sy : Int) (w : World) (hb : w.heap[b]? = some (.cells (lgC true (.slice A len cap) sy) 50 (0, 0)))
include hb
theorem len_v : Sp Try.prog 15 [.pointer (some ⟨b, 0, none⟩)] w [] fun v N => v = .int .i64 (len : Int) ∧ N = [] := by
  have hno := fun {M : List Asrt} w' (hp : Hp w [] M w') => none1_v w' b _ _ _ (hp.blk_old hb List.not_mem_nil)
  refine Sp.enter (n := 10) Try.func15 rfl rfl rfl (Hp.refl w) ?_
  repeat' (first | ((with_reducible refine is_load ?_); (first | ((refine' ⟨_, Yl_load_old rfl ?q1 hb List.not_mem_nil rfl, ?_⟩); (case q1 => exact one_of rfl))))    | ((with_reducible refine ie_callf ?_); (first | ((with_reducible refine g_call 37 ?_); (first | refine Ef_callP rfl rfl ent_37 (fun w hp => hno w hp) ?_))))    | refine w1 ?_ | (refine w2 ?_ ?_ <;> intro hc) | (first | ((refine' ⟨_, Yl_eql_ptr rfl rfl ?q1, ?_⟩); (case q1 => exact ptr_of rfl rfl))) | (refine w4 ?_; (intro _)) | (refine w5 ?_; (intro _ _)) | refine w3 ?_ ?_ | fail_if_success skip)
  exact ret_n [] (res1 rfl rfl) (List.nil_sublist _) ⟨rfl, rfl⟩
theorem synced_v : Sp Try.prog 16 [.pointer (some ⟨b, 0, none⟩)] w [] fun v N => v = .int .i64 sy ∧ N = [] := by
  have hno := fun {M : List Asrt} w' (hp : Hp w [] M w') => none1_v w' b _ _ _ (hp.blk_old hb List.not_mem_nil)
  refine Sp.enter (n := 9) Try.func16 rfl rfl rfl (Hp.refl w) ?_
  repeat' (first | ((with_reducible refine is_load ?_); (first | ((refine' ⟨_, Yl_load_old rfl ?q1 hb List.not_mem_nil rfl, ?_⟩); (case q1 => exact one_of rfl))))    | ((with_reducible refine ie_callf ?_); (first | ((with_reducible refine g_call 37 ?_); (first | refine Ef_callP rfl rfl ent_37 (fun w hp => hno w hp) ?_))))    | refine w1 ?_ | (refine w2 ?_ ?_ <;> intro hc) | (first | ((refine' ⟨_, Yl_eql_ptr rfl rfl ?q1, ?_⟩); (case q1 => exact ptr_of rfl rfl))) | (refine w4 ?_; (intro _)) | (refine w5 ?_; (intro _ _)) | refine w3 ?_ ?_ | fail_if_success skip)
  exact ret_n [] (res1 rfl rfl) (List.nil_sublist _) ⟨rfl, rfl⟩
end

section
variable (pv : Value) (w : World) (hle : ∀ {M : List Asrt} (w' : World), Hp w [] M w' → Sp Try.prog 15 [pv] w' [] fun v N => v = .int .i64 0 ∧ N = [])
include hle
theorem stampN_v : Sp Try.prog 17 [pv] w [] fun v N => v = .int .i64 0 ∧ N = [] := by
  refine Sp.enter (n := 19) Try.func17 rfl rfl rfl (Hp.refl w) ?_
  repeat' (first
      | ((with_reducible refine is_load ?_); (first | ((refine' ⟨_, Yl_load_old rfl ?q1 hb List.not_mem_nil rfl, ?_⟩); (case q1 => exact one_of rfl))))
      | ((with_reducible refine is_idx ?_); (first | ((refine' ⟨_, Yl_indexZ (j := k) rfl rfl ?q1 ?q2 ?q3 ?q4 ?q5, ?_⟩); (case q1 => omega); (case q2 => exact und_of rfl); (case q3 => exact siz_of rfl); (case q4 => omega); (case q5 => assumption))))
      | ((with_reducible refine ie_callf ?_); (first  | ((with_reducible refine g_call 15 ?_); (first | refine Ef_callP rfl rfl ent_15 (fun w hp => hle w hp) ?_))))
      | ((with_reducible refine g_draw ?_); (first | (((with_reducible refine' T.drawM (id := 3) [(0, true), (1, true), (2, true), (3, true), (4, false), (5, false), (6, false), (7, false), (8, false), (9, false), (10, false), (11, false), (12, false), (13, false)] mixd ?q1 ?_); (case q1 => kernel_rfl)))))
      | refine w1 ?_
      | (refine w2 ?_ ?_ <;> intro hc)
      | (first | ((refine' ⟨_, Yl_eql_ptr rfl rfl ?q1, ?_⟩); (case q1 => exact ptr_of rfl rfl)))
      | (refine w4 ?_; (intro _))
      | (refine w5 ?_; (intro _ _))
      | refine w3 ?_ ?_
      | fail_if_success skip)
  exact ret_n [] (res1 rfl rfl) (List.nil_sublist _) ⟨rfl, rfl⟩
end

section
variable (b : Nat) (A : Option Addr) (len cap : Nat) (sy : Int) (l : List Me) (w : World) (hr : Rd w A len 5 (l.flatMap mE)) (hl : l.length = len) (hle' : len ≤ 300) (q : Int) (hq : Lg.stamp (l.map (·.1)) = q)
include hr hl hle' hq
set_option maxHeartbeats 1000000 in
theorem stamp_v (hb : w.heap[b]? = some (.cells (lgC true (.slice A len cap) sy) 50 (0, 0))) : Sp Try.prog 17 [.pointer (some ⟨b, 0, none⟩)] w [] fun v N => v = .int .i64 q ∧ N = [] := by
  have hle := fun {M : List Asrt} w' (hp : Hp w [] M w') => len_v b A len cap sy w' (hp.blk_old hb List.not_mem_nil)
  cases len with
  | zero =>
    have hn : l = [] := List.eq_nil_of_length_eq_zero hl
    subst hn
    subst hq
    refine Sp.enter (n := 19) Try.func17 rfl rfl rfl (Hp.refl w) ?_
    repeat' (first
        | ((with_reducible refine is_load ?_); (first | ((refine' ⟨_, Yl_load_old rfl ?q1 hb List.not_mem_nil rfl, ?_⟩); (case q1 => exact one_of rfl))))
        | ((with_reducible refine is_idx ?_); (first | ((refine' ⟨_, Yl_indexZ (j := k) rfl rfl ?q1 ?q2 ?q3 ?q4 ?q5, ?_⟩); (case q1 => omega); (case q2 => exact und_of rfl); (case q3 => exact siz_of rfl); (case q4 => omega); (case q5 => assumption))))
        | ((with_reducible refine ie_callf ?_); (first  | ((with_reducible refine g_call 15 ?_); (first | refine Ef_callP rfl rfl ent_15 (fun w hp => hle w hp) ?_))))
        | ((with_reducible refine g_draw ?_); (first | (((with_reducible refine' T.drawM (id := 3) [(0, true), (1, true), (2, true), (3, true), (4, false), (5, false), (6, false), (7, false), (8, false), (9, false), (10, false), (11, false), (12, false), (13, false)] mixd ?q1 ?_); (case q1 => kernel_rfl)))))
        | refine w1 ?_
        | (refine w2 ?_ ?_ <;> intro hc)
        | (first | ((refine' ⟨_, Yl_eql_ptr rfl rfl ?q1, ?_⟩); (case q1 => exact ptr_of rfl rfl)))
        | (refine w4 ?_; (intro _))
        | (refine w5 ?_; (intro _ _))
        | refine w3 ?_ ?_
        | fail_if_success skip)
    exact ret_n [] (res1 rfl rfl) (List.nil_sublist _) ⟨rfl, rfl⟩
  | succ k =>
    obtain ⟨x, hx, hs⟩ := Lg.stamp_at hl
    rw [hs] at hq
    subst hq
    have hA : A = some (adr A) := hr.some_ (Nat.succ_pos k)
    have e1 : (l.flatMap mE)[k * 5 + 1]? = some (.int .i64 x.1.stamp) := enc_at mE_len hx (j := 1) (by decide)
    refine Sp.enter (n := 19) Try.func17 rfl rfl rfl (Hp.refl w) ?_
    repeat' (first
        | ((with_reducible refine is_load ?_); (first | ((refine' ⟨_, Yl_load_old rfl ?q1 hb List.not_mem_nil rfl, ?_⟩); (case q1 => exact one_of rfl))))
        | ((with_reducible refine is_idx ?_); (first | ((refine' ⟨_, Yl_indexZ (j := k) rfl rfl ?q1 ?q2 ?q3 ?q4 ?q5, ?_⟩); (case q1 => omega); (case q2 => exact und_of rfl); (case q3 => exact siz_of rfl); (case q4 => omega); (case q5 => assumption))))
        | ((with_reducible refine ie_callf ?_); (first  | ((with_reducible refine g_call 15 ?_); (first | refine Ef_callP rfl rfl ent_15 (fun w hp => hle w hp) ?_))))
        | ((with_reducible refine g_draw ?_); (first | (((with_reducible refine' T.drawM (id := 3) [(0, true), (1, true), (2, true), (3, true), (4, false), (5, false), (6, false), (7, false), (8, false), (9, false), (10, false), (11, false), (12, false), (13, false)] mixd ?q1 ?_); (case q1 => kernel_rfl)))))
        | refine w1 ?_
        | (refine w2 ?_ ?_ <;> intro hc)
        | (first | ((refine' ⟨_, Yl_eql_ptr rfl rfl ?q1, ?_⟩); (case q1 => exact ptr_of rfl rfl)))
        | (refine w4 ?_; (intro _))
        | (refine w5 ?_; (intro _ _))
        | refine w3 ?_ ?_
        | fail_if_success skip)
    exact ret_n [] (res1 rfl rfl) (List.nil_sublist _) ⟨rfl, rfl⟩
set_option maxHeartbeats 1000000 in
theorem rstamp_v (hb : w.heap[b]? = some (.cells (lrC (.slice A len cap) sy) 36 (0, 0))) : Sp Try.prog 18 [.pointer (some ⟨b, 0, none⟩)] w [] fun v N => v = .int .i64 q ∧ N = [] := by
  cases len with
  | zero =>
    have hn : l = [] := List.eq_nil_of_length_eq_zero hl
    subst hn
    subst hq
    refine Sp.enter (n := 22) Try.func18 rfl rfl rfl (Hp.refl w) ?_
    repeat' (first | ((with_reducible refine is_load ?_); (first | ((refine' ⟨_, Yl_load_old rfl ?q1 hb List.not_mem_nil rfl, ?_⟩); (case q1 => exact one_of rfl)))) | ((with_reducible refine is_idx ?_); (first | ((refine' ⟨_, Yl_indexZ (j := k) rfl rfl ?q1 ?q2 ?q3 ?q4 ?q5, ?_⟩); (case q1 => omega); (case q2 => exact und_of rfl); (case q3 => exact siz_of rfl); (case q4 => omega); (case q5 => assumption))))      | ((with_reducible refine g_draw ?_); (first  | (((with_reducible refine' T.drawM (id := 3) [(0, true), (1, true), (2, true), (3, true), (4, false), (5, false), (6, false), (7, false), (8, false), (9, false), (10, false), (11, false), (12, false), (13, false)] mixd ?q1 ?_); (case q1 => kernel_rfl))))) | refine w1 ?_ | (refine w2 ?_ ?_ <;> intro hc) | (first | ((refine' ⟨_, Yl_eql_ptr rfl rfl ?q1, ?_⟩); (case q1 => exact ptr_of rfl rfl))) | (refine w4 ?_; (intro _)) | (refine w5 ?_; (intro _ _)) | refine w3 ?_ ?_ | fail_if_success skip)
    exact ret_n [] (res1 rfl rfl) (List.nil_sublist _) ⟨rfl, rfl⟩
  | succ k =>
    obtain ⟨x, hx, hs⟩ := Lg.stamp_at hl
    rw [hs] at hq
    subst hq
    have hA : A = some (adr A) := hr.some_ (Nat.succ_pos k)
    have e1 : (l.flatMap mE)[k * 5 + 1]? = some (.int .i64 x.1.stamp) := enc_at mE_len hx (j := 1) (by decide)
    refine Sp.enter (n := 22) Try.func18 rfl rfl rfl (Hp.refl w) ?_
    repeat' (first | ((with_reducible refine is_load ?_); (first | ((refine' ⟨_, Yl_load_old rfl ?q1 hb List.not_mem_nil rfl, ?_⟩); (case q1 => exact one_of rfl)))) | ((with_reducible refine is_idx ?_); (first | ((refine' ⟨_, Yl_indexZ (j := k) rfl rfl ?q1 ?q2 ?q3 ?q4 ?q5, ?_⟩); (case q1 => omega); (case q2 => exact und_of rfl); (case q3 => exact siz_of rfl); (case q4 => omega); (case q5 => assumption))))      | ((with_reducible refine g_draw ?_); (first  | (((with_reducible refine' T.drawM (id := 3) [(0, true), (1, true), (2, true), (3, true), (4, false), (5, false), (6, false), (7, false), (8, false), (9, false), (10, false), (11, false), (12, false), (13, false)] mixd ?q1 ?_); (case q1 => kernel_rfl))))) | refine w1 ?_ | (refine w2 ?_ ?_ <;> intro hc) | (first | ((refine' ⟨_, Yl_eql_ptr rfl rfl ?q1, ?_⟩); (case q1 => exact ptr_of rfl rfl))) | (refine w4 ?_; (intro _)) | (refine w5 ?_; (intro _ _)) | refine w3 ?_ ?_ | fail_if_success skip)
    exact ret_n [] (res1 rfl rfl) (List.nil_sublist _) ⟨rfl, rfl⟩
end
end Go.Proofs.Ytegaejbfhpigjaa
