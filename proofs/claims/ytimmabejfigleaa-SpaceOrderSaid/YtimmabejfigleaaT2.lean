/- Library functions on pairs, a key's place, whether spaces are the same: what a call of each comes to. -/
import Derived.Test.YtimmabejfigleaaT1
namespace Go.Proofs.Ytimmabejfigleaa
open Go.RowKit
set_option maxRecDepth 20000

def rP (l : List Pr) (z : Option Addr × Nat) : Asrt := .row 57 2 (.slice z.1 l.length z.2) l.length (l.flatMap pE)

theorem at1_c (b : Nat) (k : ByteArray) (x : Pr) (w : World) (hb : w.heap[b]? = some (.cells #[.string k] 9 (0, 0))) :
    Sp Try.prog 46 ([.agg (pE x).toArray] ++ #[Value.pointer (some ⟨b, 0, none⟩)].toList) w [] fun v N => v = .bool (!Ks.lt x.1 k) ∧ N = [] := by
  cases h : Ks.lt x.1 k
  · refine Sp.enter (n := Try.f46.ntmps) Try.func46 rfl rfl rfl (Hp.refl w) ?_
    repeat' (first | ((with_reducible refine is_load ?_); (first | ((refine' ⟨_, Yl_load_old rfl ?q1 hb List.not_mem_nil ?q2, ?_⟩); (case q1 => exact one_of rfl); (case q2 => rfl))))      | (first | ((refine' Ef_cap rfl rfl ?q1 ?_); (case q1 => exact und_of rfl)) | ((((refine' Ef_appZ0 (q := n) rfl rfl rfl ?q1 ?q2 ?q3 ?q4 ?q5 ?q6 ?_); (case q1 => omega); (case q2 => exact app_of rfl); (case q3 => exact und_of rfl); (case q4 => omega); (case q5 => omega); (case q6 => omega))); intro bz cz hcz))  | refine w1 ?_ | (refine w2 ?_ ?_ <;> intro hc) | (first | refine ⟨_, Yl_neqA rfl rfl (eqg_of rfl) (eqP_t _ _ hxy).run, ?_⟩ | refine ⟨_, Yl_neqA rfl rfl (eqg_of rfl) (eqP_f _ _ hxy).run, ?_⟩) | (refine w4 ?_; (intro _)) | (refine w5 ?_; (intro _ _)) | refine w3 ?_ ?_ | fail_if_success skip)
    exact ret_n [] (res1 rfl rfl) (List.nil_sublist _) ⟨rfl, rfl⟩
  · refine Sp.enter (n := Try.f46.ntmps) Try.func46 rfl rfl rfl (Hp.refl w) ?_
    repeat' (first | ((with_reducible refine is_load ?_); (first | ((refine' ⟨_, Yl_load_old rfl ?q1 hb List.not_mem_nil ?q2, ?_⟩); (case q1 => exact one_of rfl); (case q2 => rfl))))      | (first | ((refine' Ef_cap rfl rfl ?q1 ?_); (case q1 => exact und_of rfl)) | ((((refine' Ef_appZ0 (q := n) rfl rfl rfl ?q1 ?q2 ?q3 ?q4 ?q5 ?q6 ?_); (case q1 => omega); (case q2 => exact app_of rfl); (case q3 => exact und_of rfl); (case q4 => omega); (case q5 => omega); (case q6 => omega))); intro bz cz hcz))  | refine w1 ?_ | (refine w2 ?_ ?_ <;> intro hc) | (first | refine ⟨_, Yl_neqA rfl rfl (eqg_of rfl) (eqP_t _ _ hxy).run, ?_⟩ | refine ⟨_, Yl_neqA rfl rfl (eqg_of rfl) (eqP_f _ _ hxy).run, ?_⟩) | (refine w4 ?_; (intro _)) | (refine w5 ?_; (intro _ _)) | refine w3 ?_ ?_ | fail_if_success skip)
    exact ret_n [] (res1 rfl rfl) (List.nil_sublist _) ⟨rfl, rfl⟩

section
variable (lb : Array Value) (p : Pr → Bool) (B : Option Addr) (lenb capb : Nat) (m : List Pr)
theorem indexf_c (w : World) (hf : ∀ w', Hp w [] [] w' → ∀ x ∈ m, Sp Try.prog 46 ([.agg (pE x).toArray] ++ lb.toList) w' [] fun v N => v = .bool (p x) ∧ N = []) (hrb : Rd w B lenb 2 (m.flatMap pE)) (hlb : m.length = lenb) (hleb : lenb ≤ 9223372036854775807) :
    Sp Try.prog 45 [.slice B lenb capb, .func (.func 46) #[] lb] w [] fun v N => v = .int .i64 (Ks.idx p m) ∧ N = [] := by
  refine Sp.enter (n := 19) Try.func45 rfl rfl rfl (Hp.refl w) ?_
  repeat' (first | ((with_reducible refine is_load ?_); (first | ((refine' ⟨_, Yl_load_old rfl ?q1 hb List.not_mem_nil ?q2, ?_⟩); (case q1 => exact one_of rfl); (case q2 => rfl))))     | ((with_reducible refine ie_callv ?_); (first | refine Ef_callVP rfl rfl rfl ent_46 (fun w1 hp => hf1 w1 (hp.weaken (List.nil_sublist _))) ?_)) | (first | ((refine' Ef_cap rfl rfl ?q1 ?_); (case q1 => exact und_of rfl)) | ((((refine' Ef_appZ0 (q := n) rfl rfl rfl ?q1 ?q2 ?q3 ?q4 ?q5 ?q6 ?_); (case q1 => omega); (case q2 => exact app_of rfl); (case q3 => exact und_of rfl); (case q4 => omega); (case q5 => omega); (case q6 => omega))); intro bz cz hcz))  | refine w1 ?_ | (refine w2 ?_ ?_ <;> intro hc) | (first | refine ⟨_, Yl_neqA rfl rfl (eqg_of rfl) (eqP_t _ _ hxy).run, ?_⟩ | refine ⟨_, Yl_neqA rfl rfl (eqg_of rfl) (eqP_f _ _ hxy).run, ?_⟩) | (refine w4 ?_; (intro _)) | (refine w5 ?_; (intro _ _)) | refine w3 ?_ ?_ | fail_if_success skip)
  refine T.loop (α := Nat) (fun i => [(0, .slice B lenb capb), (1, .func (.func 46) #[] lb), (7, .int .i64 (lenb : Int)), (8, .int .i64 (i : Int))]) (fun _ => []) (fun i => i ≤ lenb ∧ ∀ y ∈ m.take i, p y = false) (fun i => lenb - i) 0 ?_ ?_ ?_ ?_
  · (repeat (first | exact Sub.nil | refine Sub.cons rfl ?_))
  · (repeat (first | exact List.nil_sublist _ | refine List.Sublist.cons_cons _ ?_ | refine List.Sublist.cons _ ?_))
  · exact ⟨Nat.zero_le _, by simp⟩
  · rintro i ⟨hi, hno⟩
    by_cases hlt : i < lenb
    · obtain ⟨x, hx⟩ := some_of_lt (l := m) (i := i) (by omega)
      have eA := enc_atA pE_len hx
      have hf1 := fun w' hp' => hf w' hp' x (mem_of_some hx)
      cases hpx : p x with
      | true =>
        rw [hpx] at hf1
        rw [Ks.idx_t hx hpx hno]
        repeat' (first | ((with_reducible refine is_load ?_); (first | ((refine' ⟨_, Yl_load_old rfl ?q1 hb List.not_mem_nil ?q2, ?_⟩); (case q1 => exact one_of rfl); (case q2 => rfl))))     | ((with_reducible refine ie_callv ?_); (first | refine Ef_callVP rfl rfl rfl ent_46 (fun w1 hp => hf1 w1 (hp.weaken (List.nil_sublist _))) ?_)) | (first | ((refine' Ef_cap rfl rfl ?q1 ?_); (case q1 => exact und_of rfl)) | ((((refine' Ef_appZ0 (q := n) rfl rfl rfl ?q1 ?q2 ?q3 ?q4 ?q5 ?q6 ?_); (case q1 => omega); (case q2 => exact app_of rfl); (case q3 => exact und_of rfl); (case q4 => omega); (case q5 => omega); (case q6 => omega))); intro bz cz hcz))  | refine w1 ?_ | (refine w2 ?_ ?_ <;> intro hc) | (first | refine ⟨_, Yl_neqA rfl rfl (eqg_of rfl) (eqP_t _ _ hxy).run, ?_⟩ | refine ⟨_, Yl_neqA rfl rfl (eqg_of rfl) (eqP_f _ _ hxy).run, ?_⟩) | (refine w4 ?_; (intro _)) | (refine w5 ?_; (intro _ _)) | refine w3 ?_ ?_ | fail_if_success skip)
        exact ret_n [] (res1 rfl rfl) (List.nil_sublist _) ⟨rfl, rfl⟩
      | false =>
        rw [hpx] at hf1
        repeat' (first | ((with_reducible refine is_load ?_); (first | ((refine' ⟨_, Yl_load_old rfl ?q1 hb List.not_mem_nil ?q2, ?_⟩); (case q1 => exact one_of rfl); (case q2 => rfl))))     | ((with_reducible refine ie_callv ?_); (first | refine Ef_callVP rfl rfl rfl ent_46 (fun w1 hp => hf1 w1 (hp.weaken (List.nil_sublist _))) ?_)) | (first | ((refine' Ef_cap rfl rfl ?q1 ?_); (case q1 => exact und_of rfl)) | ((((refine' Ef_appZ0 (q := n) rfl rfl rfl ?q1 ?q2 ?q3 ?q4 ?q5 ?q6 ?_); (case q1 => omega); (case q2 => exact app_of rfl); (case q3 => exact und_of rfl); (case q4 => omega); (case q5 => omega); (case q6 => omega))); intro bz cz hcz))  | refine w1 ?_ | (refine w2 ?_ ?_ <;> intro hc) | (first | refine ⟨_, Yl_neqA rfl rfl (eqg_of rfl) (eqP_t _ _ hxy).run, ?_⟩ | refine ⟨_, Yl_neqA rfl rfl (eqg_of rfl) (eqP_f _ _ hxy).run, ?_⟩) | (refine w4 ?_; (intro _)) | (refine w5 ?_; (intro _ _)) | refine w3 ?_ ?_ | fail_if_success skip)
        refine loopQ_n (i + 1) ?_ ?_ ⟨by (first | omega | (dsimp only; omega) | (simp; omega)), fun y hy => ?_⟩ (by (first | omega | (dsimp only; omega) | (simp; omega)))
        · (repeat (first | exact Sub.nil | refine Sub.cons rfl ?_))
        · (repeat (first | exact List.nil_sublist _ | refine List.Sublist.cons_cons _ ?_ | refine List.Sublist.cons _ ?_))
        · rw [take_snoc hx] at hy
          rcases List.mem_append.1 hy with hy | hy
          · exact hno y hy
          · rw [List.mem_singleton.1 hy]; exact hpx
    · rw [List.take_of_length_le (by omega)] at hno
      rw [Ks.idx_f hno]
      repeat' (first | ((with_reducible refine is_load ?_); (first | ((refine' ⟨_, Yl_load_old rfl ?q1 hb List.not_mem_nil ?q2, ?_⟩); (case q1 => exact one_of rfl); (case q2 => rfl))))     | ((with_reducible refine ie_callv ?_); (first | refine Ef_callVP rfl rfl rfl ent_46 (fun w1 hp => hf1 w1 (hp.weaken (List.nil_sublist _))) ?_)) | (first | ((refine' Ef_cap rfl rfl ?q1 ?_); (case q1 => exact und_of rfl)) | ((((refine' Ef_appZ0 (q := n) rfl rfl rfl ?q1 ?q2 ?q3 ?q4 ?q5 ?q6 ?_); (case q1 => omega); (case q2 => exact app_of rfl); (case q3 => exact und_of rfl); (case q4 => omega); (case q5 => omega); (case q6 => omega))); intro bz cz hcz))  | refine w1 ?_ | (refine w2 ?_ ?_ <;> intro hc) | (first | refine ⟨_, Yl_neqA rfl rfl (eqg_of rfl) (eqP_t _ _ hxy).run, ?_⟩ | refine ⟨_, Yl_neqA rfl rfl (eqg_of rfl) (eqP_f _ _ hxy).run, ?_⟩) | (refine w4 ?_; (intro _)) | (refine w5 ?_; (intro _ _)) | refine w3 ?_ ?_ | fail_if_success skip)
      exact ret_n [] (res1 rfl rfl) (List.nil_sublist _) ⟨rfl, rfl⟩
end


section
variable (A : Option Addr) (len cap : Nat) (l : List Pr) (w : World) (hr : Rd w A len 2 (l.flatMap pE)) (hl : l.length = len) (hle : len ≤ 1000) (hso : l.Pairwise fun a b => Ks.lt a.1 b.1 = true)
include hr hl hle hso
theorem at_c (k y : Int) (key : ByteArray) : Sp Try.prog 36 [.agg (sV k y (A, cap) len), .string key] w [] fun v N => v = .tuple #[.int .i64 ((Ks.lo l key).length : Int), .bool (Ks.get l key).isSome] ∧ N = [] := by
  have hix := fun b w1 (hb : w1.heap[b]? = some (.cells #[.string key] 9 (0, 0))) (h : Rd w1 A len 2 (l.flatMap pE)) => indexf_c #[.pointer (some ⟨b, 0, none⟩)] (fun y => !Ks.lt y.1 key) A len cap l w1 (fun w' hp' x _ => at1_c b key x w' (hp'.blk_old hb List.not_mem_nil)) h hl (by omega)
  rcases Ks.idx_ge hso key with ⟨_, h2, h3, h4⟩ | ⟨x, t, _, h2, h3, h4, h5⟩
  · rw [h3] at hix
    rw [h2, h4, hl]
    refine Sp.enter (n := 25) Try.func36 rfl rfl rfl (Hp.refl w) ?_
    repeat' (first
        | ((with_reducible refine is_load ?_); (first | ((refine' ⟨_, Yl_load_old rfl ?q1 hb List.not_mem_nil ?q2, ?_⟩); (case q1 => exact one_of rfl); (case q2 => rfl))))
        | ((with_reducible refine ie_callf ?_); (first  | ((with_reducible refine g_call 45 ?_); (first | ((refine' Ef_callP rfl rfl ent_45 (fun w1 hp => hix b2 w1 (hp.blkOf ?q1) (hp.rd hr fun _ => List.not_mem_nil)) ?_); (case q1 => (repeat (first | exact .head _ | apply List.Mem.tail))))))))
        | (first | ((refine' Ef_cap rfl rfl ?q1 ?_); (case q1 => exact und_of rfl)) | ((((refine' Ef_appZ0 (q := n) rfl rfl rfl ?q1 ?q2 ?q3 ?q4 ?q5 ?q6 ?_); (case q1 => omega); (case q2 => exact app_of rfl); (case q3 => exact und_of rfl); (case q4 => omega); (case q5 => omega); (case q6 => omega))); intro bz cz hcz))
        | ((with_reducible refine g_draw ?_); (first  | (((with_reducible refine' T.drawM (id := 4) [(0, true), (1, true), (2, true), (3, true), (4, true), (5, true), (6, true), (7, true), (8, true), (9, false), (10, false)] mixd ?q1 ?_); (case q1 => kernel_rfl)))))
        | refine w1 ?_
        | (refine w2 ?_ ?_ <;> intro hc)
        | (first | refine ⟨_, Yl_neqA rfl rfl (eqg_of rfl) (eqP_t _ _ hxy).run, ?_⟩ | refine ⟨_, Yl_neqA rfl rfl (eqg_of rfl) (eqP_f _ _ hxy).run, ?_⟩)
        | (refine w4 ?_; (first | ((fail_if_success have := b1); intro b1) | ((fail_if_success have := b2); intro b2) | intro _))
        | (refine w5 ?_; (intro _ _))
        | refine w3 ?_ ?_
        | fail_if_success skip)
    exact ret_n [] (res2 rfl rfl rfl) (List.nil_sublist _) ⟨rfl, rfl⟩
  · rw [h2] at hix
    have ex := enc_at pE_len h3 (j := 0) (by decide)
    generalize (Ks.lo l key).length = i at h3 h4 hix ex ⊢
    rcases h5 with ⟨h5, h6⟩ | ⟨h5, h6⟩
    all_goals
      rw [h6]
      refine Sp.enter (n := 25) Try.func36 rfl rfl rfl (Hp.refl w) ?_
      repeat' (first
          | ((with_reducible refine is_load ?_); (first | ((refine' ⟨_, Yl_load_old rfl ?q1 hb List.not_mem_nil ?q2, ?_⟩); (case q1 => exact one_of rfl); (case q2 => rfl))))
          | ((with_reducible refine ie_callf ?_); (first  | ((with_reducible refine g_call 45 ?_); (first | ((refine' Ef_callP rfl rfl ent_45 (fun w1 hp => hix b2 w1 (hp.blkOf ?q1) (hp.rd hr fun _ => List.not_mem_nil)) ?_); (case q1 => (repeat (first | exact .head _ | apply List.Mem.tail))))))))
          | (first | ((refine' Ef_cap rfl rfl ?q1 ?_); (case q1 => exact und_of rfl)) | ((((refine' Ef_appZ0 (q := n) rfl rfl rfl ?q1 ?q2 ?q3 ?q4 ?q5 ?q6 ?_); (case q1 => omega); (case q2 => exact app_of rfl); (case q3 => exact und_of rfl); (case q4 => omega); (case q5 => omega); (case q6 => omega))); intro bz cz hcz))
          | ((with_reducible refine g_draw ?_); (first  | (((with_reducible refine' T.drawM (id := 4) [(0, true), (1, true), (2, true), (3, true), (4, true), (5, true), (6, true), (7, true), (8, true), (9, false), (10, false)] mixd ?q1 ?_); (case q1 => kernel_rfl)))))
          | refine w1 ?_
          | (refine w2 ?_ ?_ <;> intro hc)
          | (first | refine ⟨_, Yl_neqA rfl rfl (eqg_of rfl) (eqP_t _ _ hxy).run, ?_⟩ | refine ⟨_, Yl_neqA rfl rfl (eqg_of rfl) (eqP_f _ _ hxy).run, ?_⟩)
          | (refine w4 ?_; (first | ((fail_if_success have := b1); intro b1) | ((fail_if_success have := b2); intro b2) | intro _))
          | (refine w5 ?_; (intro _ _))
          | refine w3 ?_ ?_
          | fail_if_success skip)
      exact ret_n [] (res2 rfl rfl rfl) (List.nil_sublist _) ⟨rfl, rfl⟩
end

section
variable (w : World)
theorem grow_c (n : Nat) (hn : n ≤ 1000) : Sp Try.prog 48 [.slice none 0 0, .int .i64 (n : Int)] w [] fun v N => ∃ z : Option Addr × Nat, v = .slice z.1 0 z.2 ∧ N = [rP [] z] := by
  by_cases h0 : n = 0
  · subst h0
    refine Sp.enter (n := 27) Try.func48 rfl rfl rfl (Hp.refl w) ?_
    refine T.row0e 57 2 ?_
    repeat' (first       | (first | ((refine' Ef_cap rfl rfl ?q1 ?_); (case q1 => exact und_of rfl)) | ((((refine' Ef_appZ0 (q := n) rfl rfl rfl ?q1 ?q2 ?q3 ?q4 ?q5 ?q6 ?_); (case q1 => omega); (case q2 => exact app_of rfl); (case q3 => exact und_of rfl); (case q4 => omega); (case q5 => omega); (case q6 => omega))); intro bz cz hcz))  | refine w1 ?_ | (refine w2 ?_ ?_ <;> intro hc) | (first | refine ⟨_, Yl_neqA rfl rfl (eqg_of rfl) (eqP_t _ _ hxy).run, ?_⟩ | refine ⟨_, Yl_neqA rfl rfl (eqg_of rfl) (eqP_f _ _ hxy).run, ?_⟩) | (refine w4 ?_; (intro _)) | (refine w5 ?_; (intro _ _)) | refine w3 ?_ ?_ | fail_if_success skip)
    exact ret_n [rP [] (none, 0)] (res1 rfl rfl) (by (repeat (first | exact List.nil_sublist _ | refine List.Sublist.cons_cons _ ?_ | refine List.Sublist.cons _ ?_))) ⟨(none, 0), rfl, rfl⟩
  · refine Sp.enter (n := 27) Try.func48 rfl rfl rfl (Hp.refl w) ?_
    repeat' (first       | (first | ((refine' Ef_cap rfl rfl ?q1 ?_); (case q1 => exact und_of rfl)) | ((((refine' Ef_appZ0 (q := n) rfl rfl rfl ?q1 ?q2 ?q3 ?q4 ?q5 ?q6 ?_); (case q1 => omega); (case q2 => exact app_of rfl); (case q3 => exact und_of rfl); (case q4 => omega); (case q5 => omega); (case q6 => omega))); intro bz cz hcz))  | refine w1 ?_ | (refine w2 ?_ ?_ <;> intro hc) | (first | refine ⟨_, Yl_neqA rfl rfl (eqg_of rfl) (eqP_t _ _ hxy).run, ?_⟩ | refine ⟨_, Yl_neqA rfl rfl (eqg_of rfl) (eqP_f _ _ hxy).run, ?_⟩) | (refine w4 ?_; (intro _)) | (refine w5 ?_; (intro _ _)) | refine w3 ?_ ?_ | fail_if_success skip)
    exact ret_n [rP [] (some ⟨bz, 0, none⟩, cz)] (res1 rfl rfl) (by (repeat (first | exact List.nil_sublist _ | refine List.Sublist.cons_cons _ ?_ | refine List.Sublist.cons _ ?_))) ⟨(some ⟨bz, 0, none⟩, cz), rfl, rfl⟩
end

/-- A piece: where it lies, how long it is, its capacity, what it holds. -/
abbrev Pc := (Option Addr × Nat × Nat) × List Pr
def pV (p : Pc) : Value := .slice p.1.1 p.1.2.1 p.1.2.2
def Ks.cat (ps : List Pc) : List Pr := ps.flatMap (·.2)
theorem Ks.cat_take {ps : List Pc} {i : Nat} {p : Pc} (h : ps[i]? = some p) : Ks.cat (ps.take (i + 1)) = Ks.cat (ps.take i) ++ p.2 := by
  unfold Ks.cat
  rw [take_snoc h, List.flatMap_append]; simp
theorem Ks.cat_le (ps : List Pc) (i : Nat) : (Ks.cat (ps.take i)).length ≤ (Ks.cat ps).length := by
  unfold Ks.cat
  rw [← List.take_append_drop i ps, List.flatMap_append, List.length_append]
  simp

set_option maxHeartbeats 2000000 in
theorem concat_c (B : Option Addr) (cb : Nat) (ps : List Pc) (w : World) (hB : Rd w B ps.length 1 (ps.map pV)) (hps : ∀ p ∈ ps, Rd w p.1.1 p.1.2.1 2 (p.2.flatMap pE) ∧ p.2.length = p.1.2.1) (hcs : (Ks.cat ps).length ≤ 1000) (hpl : ps.length ≤ 1000) :
    Sp Try.prog 47 [.slice B ps.length cb] w [] fun v N => ∃ z : Option Addr × Nat, v = .slice z.1 (Ks.cat ps).length z.2 ∧ N = [rP (Ks.cat ps) z] := by
  refine Sp.enter (n := 36) Try.func47 rfl rfl rfl (Hp.refl w) ?_
  repeat' (first
      | ((with_reducible refine is_load ?_); (first | ((refine' ⟨_, Yl_load_old rfl ?q1 hb List.not_mem_nil ?q2, ?_⟩); (case q1 => exact one_of rfl); (case q2 => rfl))))
      | ((with_reducible refine ie_callf ?_); (first | ((with_reducible refine g_call 48 ?_); (first | (refine Ef_callN rfl rfl ent_48 (fun w _ => grow_c w (Ks.cat ps).length hcs) ?_; rintro ⟨A2, c2⟩)))))
      | (first | ((refine' Ef_cap rfl rfl ?q1 ?_); (case q1 => exact und_of rfl)) | ((((refine' Ef_appZ0 (q := n) rfl rfl rfl ?q1 ?q2 ?q3 ?q4 ?q5 ?q6 ?_); (case q1 => omega); (case q2 => exact app_of rfl); (case q3 => exact und_of rfl); (case q4 => omega); (case q5 => omega); (case q6 => omega))); intro bz cz hcz))
      | refine w1 ?_
      | (refine w2 ?_ ?_ <;> intro hc)
      | (first | refine ⟨_, Yl_neqA rfl rfl (eqg_of rfl) (eqP_t _ _ hxy).run, ?_⟩ | refine ⟨_, Yl_neqA rfl rfl (eqg_of rfl) (eqP_f _ _ hxy).run, ?_⟩)
      | (refine w4 ?_; (intro _))
      | (refine w5 ?_; (first | ((fail_if_success have := A1); intro A1 c1) | ((fail_if_success have := A2); intro A2 c2) | ((fail_if_success have := A3); intro A3 c3) | intro _ _))
      | refine w3 ?_ ?_
      | fail_if_success skip)
  refine T.loop (α := Nat) (fun i => [(0, .slice B ps.length cb), (3, .int .i64 ((Ks.cat (ps.take i)).length : Int)), (9, .slice B ps.length cb), (10, .int .i64 (ps.length : Int)), (11, .int .i64 (i : Int))]) (fun _ => []) (fun i => i ≤ ps.length) (fun i => ps.length - i) 0 ?_ ?_ ?_ ?_
  · (repeat (first | exact Sub.nil | refine Sub.cons rfl ?_))
  · (repeat (first | exact List.nil_sublist _ | refine List.Sublist.cons_cons _ ?_ | refine List.Sublist.cons _ ?_))
  · exact Nat.zero_le _
  · intro i hi
    by_cases hlt : i < ps.length
    · obtain ⟨p, hp⟩ := some_of_lt (l := ps) (i := i) hlt
      have e0 : (ps.map pV)[i * 1]? = some (.slice p.1.1 p.1.2.1 p.1.2.2) := by rw [Nat.mul_one, List.getElem?_map, hp]; rfl
      have hk := hps p (List.mem_of_getElem? hp)
      have hct := Ks.cat_take hp
      have hle := Ks.cat_le ps (i + 1)
      rw [hct, List.length_append] at hle
      have hk2 := hk.2
      repeat' (first
          | ((with_reducible refine is_load ?_); (first | ((refine' ⟨_, Yl_load_old rfl ?q1 hb List.not_mem_nil ?q2, ?_⟩); (case q1 => exact one_of rfl); (case q2 => rfl))))
          | ((with_reducible refine ie_callf ?_); (first | ((with_reducible refine g_call 48 ?_); (first | (refine Ef_callN rfl rfl ent_48 (fun w _ => grow_c w (Ks.cat ps).length hcs) ?_; rintro ⟨A2, c2⟩)))))
          | (first | ((refine' Ef_cap rfl rfl ?q1 ?_); (case q1 => exact und_of rfl)) | ((((refine' Ef_appZ0 (q := n) rfl rfl rfl ?q1 ?q2 ?q3 ?q4 ?q5 ?q6 ?_); (case q1 => omega); (case q2 => exact app_of rfl); (case q3 => exact und_of rfl); (case q4 => omega); (case q5 => omega); (case q6 => omega))); intro bz cz hcz))
          | refine w1 ?_
          | (refine w2 ?_ ?_ <;> intro hc)
          | (first | refine ⟨_, Yl_neqA rfl rfl (eqg_of rfl) (eqP_t _ _ hxy).run, ?_⟩ | refine ⟨_, Yl_neqA rfl rfl (eqg_of rfl) (eqP_f _ _ hxy).run, ?_⟩)
          | (refine w4 ?_; (intro _))
          | (refine w5 ?_; (first | ((fail_if_success have := A1); intro A1 c1) | ((fail_if_success have := A2); intro A2 c2) | ((fail_if_success have := A3); intro A3 c3) | intro _ _))
          | refine w3 ?_ ?_
          | fail_if_success skip)
      refine loopQ_n (i + 1) ?_ ?_ (by (first | omega | (dsimp only; omega) | (simp; omega))) (by (first | omega | (dsimp only; omega) | (simp; omega)))
      · rw [hct, List.length_append, hk2]
        (repeat (first | exact Sub.nil | refine Sub.cons rfl ?_))
      · (repeat (first | exact List.nil_sublist _ | refine List.Sublist.cons_cons _ ?_ | refine List.Sublist.cons _ ?_))
    · rw [List.take_of_length_le (by omega)]
      repeat' (first
          | ((with_reducible refine is_load ?_); (first | ((refine' ⟨_, Yl_load_old rfl ?q1 hb List.not_mem_nil ?q2, ?_⟩); (case q1 => exact one_of rfl); (case q2 => rfl))))
          | ((with_reducible refine ie_callf ?_); (first | ((with_reducible refine g_call 48 ?_); (first | (refine Ef_callN rfl rfl ent_48 (fun w _ => grow_c w (Ks.cat ps).length hcs) ?_; rintro ⟨A2, c2⟩)))))
          | (first | ((refine' Ef_cap rfl rfl ?q1 ?_); (case q1 => exact und_of rfl)) | ((((refine' Ef_appZ0 (q := n) rfl rfl rfl ?q1 ?q2 ?q3 ?q4 ?q5 ?q6 ?_); (case q1 => omega); (case q2 => exact app_of rfl); (case q3 => exact und_of rfl); (case q4 => omega); (case q5 => omega); (case q6 => omega))); intro bz cz hcz))
          | refine w1 ?_
          | (refine w2 ?_ ?_ <;> intro hc)
          | (first | refine ⟨_, Yl_neqA rfl rfl (eqg_of rfl) (eqP_t _ _ hxy).run, ?_⟩ | refine ⟨_, Yl_neqA rfl rfl (eqg_of rfl) (eqP_f _ _ hxy).run, ?_⟩)
          | (refine w4 ?_; (intro _))
          | (refine w5 ?_; (first | ((fail_if_success have := A1); intro A1 c1) | ((fail_if_success have := A2); intro A2 c2) | ((fail_if_success have := A3); intro A3 c3) | intro _ _))
          | refine w3 ?_ ?_
          | fail_if_success skip)
      refine T.loop (α := Nat × Option Addr × Nat) (fun y => [(6, .slice y.2.1 (Ks.cat (ps.take y.1)).length y.2.2), (25, .slice B ps.length cb), (26, .int .i64 (ps.length : Int)), (27, .int .i64 (y.1 : Int))]) (fun y => [rP (Ks.cat (ps.take y.1)) y.2]) (fun y => y.1 ≤ ps.length) (fun y => ps.length - y.1) (0, A2, c2) ?_ ?_ ?_ ?_
      · (repeat (first | exact Sub.nil | refine Sub.cons rfl ?_))
      · exact List.Sublist.refl _
      · exact Nat.zero_le _
      · rintro ⟨j, A3, c3⟩ hj
        dsimp only at hj ⊢
        by_cases hjl : j < ps.length
        · obtain ⟨p, hp⟩ := some_of_lt (l := ps) (i := j) hjl
          have e0 : (ps.map pV)[j * 1]? = some (.slice p.1.1 p.1.2.1 p.1.2.2) := by rw [Nat.mul_one, List.getElem?_map, hp]; rfl
          obtain ⟨hk1, hk2⟩ := hps p (List.mem_of_getElem? hp)
          have hct := Ks.cat_take hp
          have hle := Ks.cat_le ps (j + 1)
          rw [hct, List.length_append] at hle
          have o1 := one_flat pE_one p.2
          have o2 := one_flat pE_one (Ks.cat (ps.take j))
          repeat' (first
              | ((with_reducible refine is_load ?_); (first | ((refine' ⟨_, Yl_load_old rfl ?q1 hb List.not_mem_nil ?q2, ?_⟩); (case q1 => exact one_of rfl); (case q2 => rfl))))
              | ((with_reducible refine ie_callf ?_); (first | ((with_reducible refine g_call 48 ?_); (first | (refine Ef_callN rfl rfl ent_48 (fun w _ => grow_c w (Ks.cat ps).length hcs) ?_; rintro ⟨A2, c2⟩)))))
              | (first | ((refine' Ef_cap rfl rfl ?q1 ?_); (case q1 => exact und_of rfl)) | ((((refine' Ef_appZ0 (q := n) rfl rfl rfl ?q1 ?q2 ?q3 ?q4 ?q5 ?q6 ?_); (case q1 => omega); (case q2 => exact app_of rfl); (case q3 => exact und_of rfl); (case q4 => omega); (case q5 => omega); (case q6 => omega))); intro bz cz hcz))
              | refine w1 ?_
              | (refine w2 ?_ ?_ <;> intro hc)
              | (first | refine ⟨_, Yl_neqA rfl rfl (eqg_of rfl) (eqP_t _ _ hxy).run, ?_⟩ | refine ⟨_, Yl_neqA rfl rfl (eqg_of rfl) (eqP_f _ _ hxy).run, ?_⟩)
              | (refine w4 ?_; (intro _))
              | (refine w5 ?_; (first | ((fail_if_success have := A1); intro A1 c1) | ((fail_if_success have := A2); intro A2 c2) | ((fail_if_success have := A3); intro A3 c3) | intro _ _))
              | refine w3 ?_ ?_
              | fail_if_success skip)
          refine loopQ_n (j + 1, A1, c1) ?_ ?_ (show j + 1 ≤ ps.length by omega) (show ps.length - (j + 1) < ps.length - j by omega)
          · rw [hct, List.length_append, hk2]
            (repeat (first | exact Sub.nil | refine Sub.cons rfl ?_))
          · unfold rP
            rw [hct, List.length_append, hk2, List.flatMap_append]
            (repeat (first | exact List.nil_sublist _ | refine List.Sublist.cons_cons _ ?_ | refine List.Sublist.cons _ ?_))
        · rw [List.take_of_length_le (by omega)]
          repeat' (first
              | ((with_reducible refine is_load ?_); (first | ((refine' ⟨_, Yl_load_old rfl ?q1 hb List.not_mem_nil ?q2, ?_⟩); (case q1 => exact one_of rfl); (case q2 => rfl))))
              | ((with_reducible refine ie_callf ?_); (first | ((with_reducible refine g_call 48 ?_); (first | (refine Ef_callN rfl rfl ent_48 (fun w _ => grow_c w (Ks.cat ps).length hcs) ?_; rintro ⟨A2, c2⟩)))))
              | (first | ((refine' Ef_cap rfl rfl ?q1 ?_); (case q1 => exact und_of rfl)) | ((((refine' Ef_appZ0 (q := n) rfl rfl rfl ?q1 ?q2 ?q3 ?q4 ?q5 ?q6 ?_); (case q1 => omega); (case q2 => exact app_of rfl); (case q3 => exact und_of rfl); (case q4 => omega); (case q5 => omega); (case q6 => omega))); intro bz cz hcz))
              | refine w1 ?_
              | (refine w2 ?_ ?_ <;> intro hc)
              | (first | refine ⟨_, Yl_neqA rfl rfl (eqg_of rfl) (eqP_t _ _ hxy).run, ?_⟩ | refine ⟨_, Yl_neqA rfl rfl (eqg_of rfl) (eqP_f _ _ hxy).run, ?_⟩)
              | (refine w4 ?_; (intro _))
              | (refine w5 ?_; (first | ((fail_if_success have := A1); intro A1 c1) | ((fail_if_success have := A2); intro A2 c2) | ((fail_if_success have := A3); intro A3 c3) | intro _ _))
              | refine w3 ?_ ?_
              | fail_if_success skip)
          exact ret_n [rP (Ks.cat ps) (A3, c3)] (res1 rfl rfl) (List.Sublist.refl _) ⟨(A3, c3), rfl, rfl⟩


theorem eqP (a b : Pr) : EqR Try.prog 10000 57 (.agg (pE a).toArray) (.agg (pE b).toArray) (decide (a.1 = b.1) && (decide (a.2 = b.2) && true)) := by
  refine EqR_struct str_57 (sto_of rfl) fls_57 ?_
  refine .cons (part_one (by exact one_of rfl) rfl) (part_one (by exact one_of rfl) rfl) (EqR_str (by exact und_of rfl)) ?_
  exact .cons (part_one (by exact one_of rfl) rfl) (part_one (by exact one_of rfl) rfl) (EqR_str (by exact und_of rfl)) .nil
theorem eqP_t (a b : Pr) (h : a = b) : EqR Try.prog 10000 57 (.agg (pE a).toArray) (.agg (pE b).toArray) true := by
  subst h
  have := eqP a a
  simpa using this
theorem eqP_f (a b : Pr) (h : ¬ a = b) : EqR Try.prog 10000 57 (.agg (pE a).toArray) (.agg (pE b).toArray) false := by
  have := eqP a b
  have hf : (decide (a.1 = b.1) && (decide (a.2 = b.2) && true)) = false := by
    rw [Bool.eq_false_iff]
    intro h'
    simp at h'
    exact h (Prod.ext h'.1 h'.2)
  rwa [hf] at this
theorem ext_take {a b : List Pr} (hl : a.length = b.length) {i : Nat} (h : a.take i = b.take i) (hi : a.length ≤ i) : a = b := by
  rwa [List.take_of_length_le hi, List.take_of_length_le (by omega)] at h
theorem ne_at {a b : List Pr} {i : Nat} {x y : Pr} (hx : a[i]? = some x) (hy : b[i]? = some y) (h : ¬ x = y) : ¬ a = b := fun e => by
  subst e
  rw [hx] at hy
  exact h (Option.some.inj hy)
section
variable (A : Option Addr) (len cap : Nat) (a : List Pr) (B : Option Addr) (lenb capb : Nat) (b : List Pr) (w : World) (hra : Rd w A len 2 (a.flatMap pE)) (hrb : Rd w B lenb 2 (b.flatMap pE)) (hla : a.length = len) (hlb : b.length = lenb) (hle : len ≤ 9223372036854775807)
include hra hrb hla hlb hle
set_option maxHeartbeats 2000000 in
theorem equal_v (r : Bool) (hres : decide (a = b) = r) : Sp Try.prog 44 [.slice A len cap, .slice B lenb capb] w [] fun v N => v = .bool r ∧ N = [] := by
  subst hres
  by_cases hll : len = lenb
  · subst hll
    refine Sp.enter (n := 26) Try.func44 rfl rfl rfl (Hp.refl w) ?_
    repeat' (first
        | ((with_reducible refine is_load ?_); (first | ((refine' ⟨_, Yl_load_old rfl ?q1 hb List.not_mem_nil ?q2, ?_⟩); (case q1 => exact one_of rfl); (case q2 => rfl))))
        | (first | ((refine' Ef_cap rfl rfl ?q1 ?_); (case q1 => exact und_of rfl)) | ((((refine' Ef_appZ0 (q := n) rfl rfl rfl ?q1 ?q2 ?q3 ?q4 ?q5 ?q6 ?_); (case q1 => omega); (case q2 => exact app_of rfl); (case q3 => exact und_of rfl); (case q4 => omega); (case q5 => omega); (case q6 => omega))); intro bz cz hcz))
        | ((with_reducible refine g_draw ?_); (first | (((with_reducible refine' T.drawM (id := 6) [(0, true), (1, true), (2, true), (3, true), (4, true), (5, false), (6, false), (7, false), (8, false)] mixd ?q1 ?_); (case q1 => kernel_rfl)))))
        | refine w1 ?_
        | (refine w2 ?_ ?_ <;> intro hc)
        | (first | refine ⟨_, Yl_neqA rfl rfl (eqg_of rfl) (eqP_t _ _ hxy).run, ?_⟩ | refine ⟨_, Yl_neqA rfl rfl (eqg_of rfl) (eqP_f _ _ hxy).run, ?_⟩)
        | (refine w4 ?_; (intro _))
        | (refine w5 ?_; (intro _ _))
        | refine w3 ?_ ?_
        | fail_if_success skip)
    refine T.loop (α := Nat) (fun i => [(0, .slice A len cap), (1, .slice B len capb), (12, .int .i64 (len : Int)), (13, .int .i64 (i : Int))]) (fun _ => []) (fun i => i ≤ len ∧ a.take i = b.take i) (fun i => len - i) 0 ?_ ?_ ?_ ?_
    · (repeat (first | exact Sub.nil | refine Sub.cons rfl ?_))
    · (repeat (first | exact List.nil_sublist _ | refine List.Sublist.cons_cons _ ?_ | refine List.Sublist.cons _ ?_))
    · exact ⟨Nat.zero_le _, by simp⟩
    · rintro i ⟨hi, hm⟩
      by_cases hlt : i < len
      · obtain ⟨x, hx⟩ := some_of_lt (l := a) (i := i) (by omega)
        obtain ⟨y, hy⟩ := some_of_lt (l := b) (i := i) (by omega)
        have eA := enc_atA pE_len hx
        have eB := enc_atA pE_len hy
        by_cases hxy : x = y
        · repeat' (first
            | ((with_reducible refine is_load ?_); (first | ((refine' ⟨_, Yl_load_old rfl ?q1 hb List.not_mem_nil ?q2, ?_⟩); (case q1 => exact one_of rfl); (case q2 => rfl))))
            | (first | ((refine' Ef_cap rfl rfl ?q1 ?_); (case q1 => exact und_of rfl)) | ((((refine' Ef_appZ0 (q := n) rfl rfl rfl ?q1 ?q2 ?q3 ?q4 ?q5 ?q6 ?_); (case q1 => omega); (case q2 => exact app_of rfl); (case q3 => exact und_of rfl); (case q4 => omega); (case q5 => omega); (case q6 => omega))); intro bz cz hcz))
            | ((with_reducible refine g_draw ?_); (first | (((with_reducible refine' T.drawM (id := 6) [(0, true), (1, true), (2, true), (3, true), (4, true), (5, false), (6, false), (7, false), (8, false)] mixd ?q1 ?_); (case q1 => kernel_rfl)))))
            | refine w1 ?_
            | (refine w2 ?_ ?_ <;> intro hc)
            | (first | refine ⟨_, Yl_neqA rfl rfl (eqg_of rfl) (eqP_t _ _ hxy).run, ?_⟩ | refine ⟨_, Yl_neqA rfl rfl (eqg_of rfl) (eqP_f _ _ hxy).run, ?_⟩)
            | (refine w4 ?_; (intro _))
            | (refine w5 ?_; (intro _ _))
            | refine w3 ?_ ?_
            | fail_if_success skip)
          refine loopQ_n (i + 1) ?_ ?_ ⟨by (first | omega | (dsimp only; omega) | (simp; omega)), by rw [take_snoc hx, take_snoc hy, hm, hxy]⟩ (by (first | omega | (dsimp only; omega) | (simp; omega)))
          · (repeat (first | exact Sub.nil | refine Sub.cons rfl ?_))
          · (repeat (first | exact List.nil_sublist _ | refine List.Sublist.cons_cons _ ?_ | refine List.Sublist.cons _ ?_))
        · rw [decide_eq_false (ne_at hx hy hxy)]
          repeat' (first
              | ((with_reducible refine is_load ?_); (first | ((refine' ⟨_, Yl_load_old rfl ?q1 hb List.not_mem_nil ?q2, ?_⟩); (case q1 => exact one_of rfl); (case q2 => rfl))))
              | (first | ((refine' Ef_cap rfl rfl ?q1 ?_); (case q1 => exact und_of rfl)) | ((((refine' Ef_appZ0 (q := n) rfl rfl rfl ?q1 ?q2 ?q3 ?q4 ?q5 ?q6 ?_); (case q1 => omega); (case q2 => exact app_of rfl); (case q3 => exact und_of rfl); (case q4 => omega); (case q5 => omega); (case q6 => omega))); intro bz cz hcz))
              | ((with_reducible refine g_draw ?_); (first | (((with_reducible refine' T.drawM (id := 6) [(0, true), (1, true), (2, true), (3, true), (4, true), (5, false), (6, false), (7, false), (8, false)] mixd ?q1 ?_); (case q1 => kernel_rfl)))))
              | refine w1 ?_
              | (refine w2 ?_ ?_ <;> intro hc)
              | (first | refine ⟨_, Yl_neqA rfl rfl (eqg_of rfl) (eqP_t _ _ hxy).run, ?_⟩ | refine ⟨_, Yl_neqA rfl rfl (eqg_of rfl) (eqP_f _ _ hxy).run, ?_⟩)
              | (refine w4 ?_; (intro _))
              | (refine w5 ?_; (intro _ _))
              | refine w3 ?_ ?_
              | fail_if_success skip)
          exact ret_n [] (res1 rfl rfl) (List.nil_sublist _) ⟨rfl, rfl⟩
      · rw [decide_eq_true (ext_take (by omega) hm (by omega))]
        repeat' (first
            | ((with_reducible refine is_load ?_); (first | ((refine' ⟨_, Yl_load_old rfl ?q1 hb List.not_mem_nil ?q2, ?_⟩); (case q1 => exact one_of rfl); (case q2 => rfl))))
            | (first | ((refine' Ef_cap rfl rfl ?q1 ?_); (case q1 => exact und_of rfl)) | ((((refine' Ef_appZ0 (q := n) rfl rfl rfl ?q1 ?q2 ?q3 ?q4 ?q5 ?q6 ?_); (case q1 => omega); (case q2 => exact app_of rfl); (case q3 => exact und_of rfl); (case q4 => omega); (case q5 => omega); (case q6 => omega))); intro bz cz hcz))
            | ((with_reducible refine g_draw ?_); (first | (((with_reducible refine' T.drawM (id := 6) [(0, true), (1, true), (2, true), (3, true), (4, true), (5, false), (6, false), (7, false), (8, false)] mixd ?q1 ?_); (case q1 => kernel_rfl)))))
            | refine w1 ?_
            | (refine w2 ?_ ?_ <;> intro hc)
            | (first | refine ⟨_, Yl_neqA rfl rfl (eqg_of rfl) (eqP_t _ _ hxy).run, ?_⟩ | refine ⟨_, Yl_neqA rfl rfl (eqg_of rfl) (eqP_f _ _ hxy).run, ?_⟩)
            | (refine w4 ?_; (intro _))
            | (refine w5 ?_; (intro _ _))
            | refine w3 ?_ ?_
            | fail_if_success skip)
        exact ret_n [] (res1 rfl rfl) (List.nil_sublist _) ⟨rfl, rfl⟩
  · rw [decide_eq_false (fun e => hll (by rw [← hla, ← hlb, e]))]
    refine Sp.enter (n := 26) Try.func44 rfl rfl rfl (Hp.refl w) ?_
    repeat' (first
        | ((with_reducible refine is_load ?_); (first | ((refine' ⟨_, Yl_load_old rfl ?q1 hb List.not_mem_nil ?q2, ?_⟩); (case q1 => exact one_of rfl); (case q2 => rfl))))
        | (first | ((refine' Ef_cap rfl rfl ?q1 ?_); (case q1 => exact und_of rfl)) | ((((refine' Ef_appZ0 (q := n) rfl rfl rfl ?q1 ?q2 ?q3 ?q4 ?q5 ?q6 ?_); (case q1 => omega); (case q2 => exact app_of rfl); (case q3 => exact und_of rfl); (case q4 => omega); (case q5 => omega); (case q6 => omega))); intro bz cz hcz))
        | ((with_reducible refine g_draw ?_); (first | (((with_reducible refine' T.drawM (id := 6) [(0, true), (1, true), (2, true), (3, true), (4, true), (5, false), (6, false), (7, false), (8, false)] mixd ?q1 ?_); (case q1 => kernel_rfl)))))
        | refine w1 ?_
        | (refine w2 ?_ ?_ <;> intro hc)
        | (first | refine ⟨_, Yl_neqA rfl rfl (eqg_of rfl) (eqP_t _ _ hxy).run, ?_⟩ | refine ⟨_, Yl_neqA rfl rfl (eqg_of rfl) (eqP_f _ _ hxy).run, ?_⟩)
        | (refine w4 ?_; (intro _))
        | (refine w5 ?_; (intro _ _))
        | refine w3 ?_ ?_
        | fail_if_success skip)
    exact ret_n [] (res1 rfl rfl) (List.nil_sublist _) ⟨rfl, rfl⟩
theorem same_v (k y k' y' : Int) (r : Bool) (hres : decide (k = k' ∧ y = y' ∧ a = b) = r) : Sp Try.prog 32 [.agg (sV k y (A, cap) len), .agg (sV k' y' (B, capb) lenb)] w [] fun v N => v = .bool r ∧ N = [] := by
  subst hres
  have heq := fun w h h' => equal_v A len cap a B lenb capb b w h h' hla hlb hle
  by_cases hab : a = b
  · have heq := fun w h h' => heq w h h' true (decide_eq_true hab)
    refine Sp.enter (n := 24) Try.func32 rfl rfl rfl (Hp.refl w) ?_
    repeat' (first
        | ((with_reducible refine is_load ?_); (first | ((refine' ⟨_, Yl_load_old rfl ?q1 hb List.not_mem_nil ?q2, ?_⟩); (case q1 => exact one_of rfl); (case q2 => rfl))))
        | ((with_reducible refine ie_callf ?_); (first   | ((with_reducible refine g_call 44 ?_); (first | refine Ef_callP rfl rfl ent_44 (fun w hp => heq w (hp.rd hra fun _ => List.not_mem_nil) (hp.rd hrb fun _ => List.not_mem_nil)) ?_))))
        | (first | ((refine' Ef_cap rfl rfl ?q1 ?_); (case q1 => exact und_of rfl)) | ((((refine' Ef_appZ0 (q := n) rfl rfl rfl ?q1 ?q2 ?q3 ?q4 ?q5 ?q6 ?_); (case q1 => omega); (case q2 => exact app_of rfl); (case q3 => exact und_of rfl); (case q4 => omega); (case q5 => omega); (case q6 => omega))); intro bz cz hcz))
        | refine w1 ?_
        | (refine w2 ?_ ?_ <;> intro hc)
        | (first | refine ⟨_, Yl_neqA rfl rfl (eqg_of rfl) (eqP_t _ _ hxy).run, ?_⟩ | refine ⟨_, Yl_neqA rfl rfl (eqg_of rfl) (eqP_f _ _ hxy).run, ?_⟩)
        | (refine w4 ?_; (intro _))
        | (refine w5 ?_; (intro _ _))
        | refine w3 ?_ ?_
        | fail_if_success skip)
    all_goals first
      | exact ret_n [] (res1 rfl rfl) (List.nil_sublist _) ⟨by rw [decide_eq_true ⟨by assumption, by assumption, hab⟩], rfl⟩
      | exact ret_n [] (res1 rfl rfl) (List.nil_sublist _) ⟨by rw [decide_eq_false (by omega)], rfl⟩
  · have heq := fun w h h' => heq w h h' false (decide_eq_false hab)
    rw [decide_eq_false (fun h => hab h.2.2)]
    refine Sp.enter (n := 24) Try.func32 rfl rfl rfl (Hp.refl w) ?_
    repeat' (first
        | ((with_reducible refine is_load ?_); (first | ((refine' ⟨_, Yl_load_old rfl ?q1 hb List.not_mem_nil ?q2, ?_⟩); (case q1 => exact one_of rfl); (case q2 => rfl))))
        | ((with_reducible refine ie_callf ?_); (first   | ((with_reducible refine g_call 44 ?_); (first | refine Ef_callP rfl rfl ent_44 (fun w hp => heq w (hp.rd hra fun _ => List.not_mem_nil) (hp.rd hrb fun _ => List.not_mem_nil)) ?_))))
        | (first | ((refine' Ef_cap rfl rfl ?q1 ?_); (case q1 => exact und_of rfl)) | ((((refine' Ef_appZ0 (q := n) rfl rfl rfl ?q1 ?q2 ?q3 ?q4 ?q5 ?q6 ?_); (case q1 => omega); (case q2 => exact app_of rfl); (case q3 => exact und_of rfl); (case q4 => omega); (case q5 => omega); (case q6 => omega))); intro bz cz hcz))
        | refine w1 ?_
        | (refine w2 ?_ ?_ <;> intro hc)
        | (first | refine ⟨_, Yl_neqA rfl rfl (eqg_of rfl) (eqP_t _ _ hxy).run, ?_⟩ | refine ⟨_, Yl_neqA rfl rfl (eqg_of rfl) (eqP_f _ _ hxy).run, ?_⟩)
        | (refine w4 ?_; (intro _))
        | (refine w5 ?_; (intro _ _))
        | refine w3 ?_ ?_
        | fail_if_success skip)
    all_goals exact ret_n [] (res1 rfl rfl) (List.nil_sublist _) ⟨rfl, rfl⟩
end
end Go.Proofs.Ytimmabejfigleaa
