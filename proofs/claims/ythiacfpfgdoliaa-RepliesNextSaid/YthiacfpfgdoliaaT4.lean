/- Where a client is, what it was told last: what a call of each comes to. -/
import Derived.Test.YthiacfpfgdoliaaT3
namespace Go.Proofs.Ythiacfpfgdoliaa
open Go.RowKit
set_option maxRecDepth 20000

theorem Hp.after {w0 w w' : World} {M : List Asrt} (h' : Hp w [] [] w') (h : Hp w0 [] M w) : Hp w0 [] [] w' := (h.weaken (List.nil_sublist M)).more (N := []) h'
theorem Hp.keep_blk {w0 w w' : World} {R : List Nat} {M : List Asrt} (h' : Hp w [] [] w') (h : Hp w0 R M w) {b : Nat} {o : Obj} (hm : Asrt.blk b o ∈ M) : w'.heap[b]? = some o := h'.blk_old (h.blkOf hm) List.not_mem_nil

theorem z_build44 (w : World) : (Instr.build 44 #[]).run Try.prog w = .ok (.agg (mE Rl.zm).toArray) w := by kernel_rfl
theorem z_build30 (w : World) : (Instr.build 30 #[]).run Try.prog w = .ok (.agg (rE Rl.z (none, 0)).toArray) w := by kernel_rfl

section
variable (fid : FuncId) (lb : Array Value) (p : Me → Bool) (B : Option Addr) (lenb capb : Nat) (m : List Me) (hen : Enters Try.prog fid)
include hen
set_option maxHeartbeats 1000000 in
theorem indexf_c (w : World) (hf : ∀ w', Hp w [] [] w' → ∀ x ∈ m, Sp Try.prog fid ([.agg (mE x).toArray] ++ lb.toList) w' [] fun v N => v = .bool (p x) ∧ N = []) (hrb : Rd w B lenb 77 (m.flatMap mE)) (hlb : m.length = lenb) (hleb : lenb ≤ 9223372036854775806) :
    Sp Try.prog 31 [.slice B lenb capb, .func (.func fid) #[] lb] w [] fun v N => v = .int .i64 (Rl.idx p m) ∧ N = [] := by
  refine Sp.enter (n := 19) Try.func31 rfl rfl rfl (Hp.refl w) ?_
  repeat' (first | ((with_reducible refine is_load ?_); (first | ((refine' ⟨_, Yl_load_old rfl ?q1 hb List.not_mem_nil ?q2, ?_⟩); (case q1 => exact one_of rfl); (case q2 => rfl)) | ((refine' ⟨_, Yl_loadA_at rfl ?qa ?qb ?ql ?qc, ?_⟩); (case qa => exact agg_of rfl); (case qb => (repeat (first | exact .head _ | apply List.Mem.tail))); (case qc => (first | exact mE_rE _)); (case ql => rfl))))     | ((with_reducible refine ie_callv ?_); (first | refine Ef_callVP rfl rfl rfl hen (fun w1 hp => hf1 w1 (hp.weaken (List.nil_sublist _))) ?_))   | refine w1 ?_ | (refine w2 ?_ ?_ <;> intro hc)  | (refine w4 ?_; (intro _)) | (refine w5 ?_; (intro _ _)) | refine w3 ?_ ?_ | fail_if_success skip)
  refine T.loop (α := Nat) (fun i => [(0, .slice B lenb capb), (1, .func (.func fid) #[] lb), (7, .int .i64 (lenb : Int)), (8, .int .i64 (i : Int))]) (fun _ => []) (fun i => i ≤ lenb ∧ ∀ y ∈ m.take i, p y = false) (fun i => lenb - i) 0 ?_ ?_ ?_ ?_
  · (repeat (first | exact Sub.nil | refine Sub.cons rfl ?_))
  · (repeat (first | exact List.nil_sublist _ | refine List.Sublist.cons_cons _ ?_ | refine List.Sublist.cons _ ?_))
  · exact ⟨Nat.zero_le _, by simp⟩
  · rintro i ⟨hi, hno⟩
    by_cases hlt : i < lenb
    · obtain ⟨x, hx⟩ := some_of_lt (l := m) (i := i) (by omega)
      have eA := enc_atA mE_len hx
      have hf1 := fun w' hp' => hf w' hp' x (mem_of_some hx)
      cases hpx : p x with
      | true =>
        rw [hpx] at hf1
        rw [Rl.idx_t hx hpx hno]
        repeat' (first | ((with_reducible refine is_load ?_); (first | ((refine' ⟨_, Yl_load_old rfl ?q1 hb List.not_mem_nil ?q2, ?_⟩); (case q1 => exact one_of rfl); (case q2 => rfl)) | ((refine' ⟨_, Yl_loadA_at rfl ?qa ?qb ?ql ?qc, ?_⟩); (case qa => exact agg_of rfl); (case qb => (repeat (first | exact .head _ | apply List.Mem.tail))); (case qc => (first | exact mE_rE _)); (case ql => rfl))))     | ((with_reducible refine ie_callv ?_); (first | refine Ef_callVP rfl rfl rfl hen (fun w1 hp => hf1 w1 (hp.weaken (List.nil_sublist _))) ?_))   | refine w1 ?_ | (refine w2 ?_ ?_ <;> intro hc)  | (refine w4 ?_; (intro _)) | (refine w5 ?_; (intro _ _)) | refine w3 ?_ ?_ | fail_if_success skip)
        exact ret_n [] (res1 rfl rfl) (List.nil_sublist _) ⟨rfl, rfl⟩
      | false =>
        rw [hpx] at hf1
        repeat' (first | ((with_reducible refine is_load ?_); (first | ((refine' ⟨_, Yl_load_old rfl ?q1 hb List.not_mem_nil ?q2, ?_⟩); (case q1 => exact one_of rfl); (case q2 => rfl)) | ((refine' ⟨_, Yl_loadA_at rfl ?qa ?qb ?ql ?qc, ?_⟩); (case qa => exact agg_of rfl); (case qb => (repeat (first | exact .head _ | apply List.Mem.tail))); (case qc => (first | exact mE_rE _)); (case ql => rfl))))     | ((with_reducible refine ie_callv ?_); (first | refine Ef_callVP rfl rfl rfl hen (fun w1 hp => hf1 w1 (hp.weaken (List.nil_sublist _))) ?_))   | refine w1 ?_ | (refine w2 ?_ ?_ <;> intro hc)  | (refine w4 ?_; (intro _)) | (refine w5 ?_; (intro _ _)) | refine w3 ?_ ?_ | fail_if_success skip)
        refine loopQ_n (i + 1) ?_ ?_ ⟨by (first | omega | (dsimp only; omega) | (simp; omega)), fun y hy => ?_⟩ (by (first | omega | (dsimp only; omega) | (simp; omega)))
        · (repeat (first | exact Sub.nil | refine Sub.cons rfl ?_))
        · (repeat (first | exact List.nil_sublist _ | refine List.Sublist.cons_cons _ ?_ | refine List.Sublist.cons _ ?_))
        · rw [take_snoc hx] at hy
          rcases List.mem_append.1 hy with hy | hy
          · exact hno y hy
          · rw [List.mem_singleton.1 hy]; exact hpx
    · rw [List.take_of_length_le (by omega)] at hno
      rw [Rl.idx_f hno]
      repeat' (first | ((with_reducible refine is_load ?_); (first | ((refine' ⟨_, Yl_load_old rfl ?q1 hb List.not_mem_nil ?q2, ?_⟩); (case q1 => exact one_of rfl); (case q2 => rfl)) | ((refine' ⟨_, Yl_loadA_at rfl ?qa ?qb ?ql ?qc, ?_⟩); (case qa => exact agg_of rfl); (case qb => (repeat (first | exact .head _ | apply List.Mem.tail))); (case qc => (first | exact mE_rE _)); (case ql => rfl))))     | ((with_reducible refine ie_callv ?_); (first | refine Ef_callVP rfl rfl rfl hen (fun w1 hp => hf1 w1 (hp.weaken (List.nil_sublist _))) ?_))   | refine w1 ?_ | (refine w2 ?_ ?_ <;> intro hc)  | (refine w4 ?_; (intro _)) | (refine w5 ?_; (intro _ _)) | refine w3 ?_ ?_ | fail_if_success skip)
      exact ret_n [] (res1 rfl rfl) (List.nil_sublist _) ⟨rfl, rfl⟩
end

theorem at1_c (b : Nat) (t : Int) (x : Me) (w : World) (hb : w.heap[b]? = some (.cells #[.int .i64 t] 3 (0, 0))) :
    Sp Try.prog 35 ([.agg (mE x).toArray] ++ #[Value.pointer (some ⟨b, 0, none⟩)].toList) w [] fun v N => v = .bool (decide (x.1.c = t)) ∧ N = [] := by
  by_cases h : x.1.c = t
  · rw [decide_eq_true h]
    refine Sp.enter (n := 8) Try.func35 rfl rfl rfl (Hp.refl w) ?_
    repeat' (first | ((with_reducible refine is_load ?_); (first | ((refine' ⟨_, Yl_load_old rfl ?q1 hb List.not_mem_nil ?q2, ?_⟩); (case q1 => exact one_of rfl); (case q2 => rfl)) | ((refine' ⟨_, Yl_loadA_at rfl ?qa ?qb ?ql ?qc, ?_⟩); (case qa => exact agg_of rfl); (case qb => (repeat (first | exact .head _ | apply List.Mem.tail))); (case qc => (first | exact mE_rE _)); (case ql => rfl))))        | refine w1 ?_ | (refine w2 ?_ ?_ <;> intro hc)  | (refine w4 ?_; (intro _)) | (refine w5 ?_; (intro _ _)) | refine w3 ?_ ?_ | fail_if_success skip)
    exact ret_n [] (res1 rfl rfl) (List.nil_sublist _) ⟨rfl, rfl⟩
  · rw [decide_eq_false h]
    refine Sp.enter (n := 8) Try.func35 rfl rfl rfl (Hp.refl w) ?_
    repeat' (first | ((with_reducible refine is_load ?_); (first | ((refine' ⟨_, Yl_load_old rfl ?q1 hb List.not_mem_nil ?q2, ?_⟩); (case q1 => exact one_of rfl); (case q2 => rfl)) | ((refine' ⟨_, Yl_loadA_at rfl ?qa ?qb ?ql ?qc, ?_⟩); (case qa => exact agg_of rfl); (case qb => (repeat (first | exact .head _ | apply List.Mem.tail))); (case qc => (first | exact mE_rE _)); (case ql => rfl))))        | refine w1 ?_ | (refine w2 ?_ ?_ <;> intro hc)  | (refine w4 ?_; (intro _)) | (refine w5 ?_; (intro _ _)) | refine w3 ?_ ?_ | fail_if_success skip)
    exact ret_n [] (res1 rfl rfl) (List.nil_sublist _) ⟨rfl, rfl⟩
theorem gt1_c (b : Nat) (t : Int) (x : Me) (w : World) (hb : w.heap[b]? = some (.cells #[.int .i64 t] 3 (0, 0))) :
    Sp Try.prog 32 ([.agg (mE x).toArray] ++ #[Value.pointer (some ⟨b, 0, none⟩)].toList) w [] fun v N => v = .bool (decide (t < x.1.c)) ∧ N = [] := by
  by_cases h : t < x.1.c
  · rw [decide_eq_true h]
    refine Sp.enter (n := 8) Try.func32 rfl rfl rfl (Hp.refl w) ?_
    repeat' (first | ((with_reducible refine is_load ?_); (first | ((refine' ⟨_, Yl_load_old rfl ?q1 hb List.not_mem_nil ?q2, ?_⟩); (case q1 => exact one_of rfl); (case q2 => rfl)) | ((refine' ⟨_, Yl_loadA_at rfl ?qa ?qb ?ql ?qc, ?_⟩); (case qa => exact agg_of rfl); (case qb => (repeat (first | exact .head _ | apply List.Mem.tail))); (case qc => (first | exact mE_rE _)); (case ql => rfl))))        | refine w1 ?_ | (refine w2 ?_ ?_ <;> intro hc)  | (refine w4 ?_; (intro _)) | (refine w5 ?_; (intro _ _)) | refine w3 ?_ ?_ | fail_if_success skip)
    exact ret_n [] (res1 rfl rfl) (List.nil_sublist _) ⟨rfl, rfl⟩
  · rw [decide_eq_false h]
    refine Sp.enter (n := 8) Try.func32 rfl rfl rfl (Hp.refl w) ?_
    repeat' (first | ((with_reducible refine is_load ?_); (first | ((refine' ⟨_, Yl_load_old rfl ?q1 hb List.not_mem_nil ?q2, ?_⟩); (case q1 => exact one_of rfl); (case q2 => rfl)) | ((refine' ⟨_, Yl_loadA_at rfl ?qa ?qb ?ql ?qc, ?_⟩); (case qa => exact agg_of rfl); (case qb => (repeat (first | exact .head _ | apply List.Mem.tail))); (case qc => (first | exact mE_rE _)); (case ql => rfl))))        | refine w1 ?_ | (refine w2 ?_ ?_ <;> intro hc)  | (refine w4 ?_; (intro _)) | (refine w5 ?_; (intro _ _)) | refine w3 ?_ ?_ | fail_if_success skip)
    exact ret_n [] (res1 rfl rfl) (List.nil_sublist _) ⟨rfl, rfl⟩

section
variable (A : Option Addr) (len cap : Nat) (l : List Me) (t : Int) (w : World) (hr : Rd w A len 77 (l.flatMap mE)) (hl : l.length = len) (hle : len ≤ 9223372036854775806)
include hr hl hle
theorem at_c : Sp Try.prog 29 [.slice A len cap, .int .i64 t] w [] fun v N => v = .int .i64 (Rl.idx (fun x => decide (x.1.c = t)) l) ∧ N = [] := by
  refine Sp.enter (n := 8) Try.func29 rfl rfl rfl (Hp.refl w) ?_
  repeat' (first     | ((with_reducible refine ie_callf ?_); (first | ((with_reducible refine g_call 31 ?_); (first | ((refine' Ef_callP rfl rfl ent_31 (fun w1 hp => indexf_c 35 #[.pointer (some ⟨b1, 0, none⟩)] (fun x => decide (x.1.c = t)) A len cap l ent_35 w1 (fun w' hp' x _ => at1_c b1 t x w' (hp'.keep_blk hp ?q1)) (hp.rd hr fun _ => List.not_mem_nil) hl hle) ?_); (case q1 => (repeat (first | exact .head _ | apply List.Mem.tail))))))))    | refine w1 ?_ | (refine w2 ?_ ?_ <;> intro hc)  | (refine w4 ?_; (first | ((fail_if_success have := b1); intro b1) | intro _)) | (refine w5 ?_; (intro _ _)) | refine w3 ?_ ?_ | fail_if_success skip)
  exact ret_n [] (res1 rfl rfl) (List.nil_sublist _) ⟨rfl, rfl⟩
set_option maxHeartbeats 1000000 in
theorem of_c : Sp Try.prog 18 [.slice A len cap, .int .i64 t] w [] fun v N => v = .int .i64 (Rl.ofM l t) ∧ N = [] := by
  have h1 := fun w h => at_c A len cap l t w h hl hle
  unfold Rl.ofM
  rcases Rl.find_or l t with ⟨e1, e2⟩ | ⟨i, x, hx, e0, e1, e2⟩
  · rw [e2] at h1
    rw [e1]
    refine Sp.enter (n := 16) Try.func18 rfl rfl rfl (Hp.refl w) ?_
    repeat' (first | ((with_reducible refine is_load ?_); (first | ((refine' ⟨_, Yl_load_old rfl ?q1 hb List.not_mem_nil ?q2, ?_⟩); (case q1 => exact one_of rfl); (case q2 => rfl)) | ((refine' ⟨_, Yl_loadA_at rfl ?qa ?qb ?ql ?qc, ?_⟩); (case qa => exact agg_of rfl); (case qb => (repeat (first | exact .head _ | apply List.Mem.tail))); (case qc => (first | exact mE_rE _)); (case ql => rfl))))    | ((with_reducible refine ie_callf ?_); (first  | ((with_reducible refine g_call 29 ?_); (first | refine Ef_callP rfl rfl ent_29 (fun w hp => h1 w (hp.rd hr fun _ => List.not_mem_nil)) ?_))))    | refine w1 ?_ | (refine w2 ?_ ?_ <;> intro hc)  | (refine w4 ?_; (intro _)) | (refine w5 ?_; (intro _ _)) | refine w3 ?_ ?_ | fail_if_success skip)
    exact ret_n [] (res1 rfl rfl) (List.nil_sublist _) ⟨rfl, rfl⟩
  · rw [e2] at h1
    rw [e1]
    have hi := (List.getElem?_eq_some_iff.1 hx).1
    have e3 : (l.flatMap mE)[i * 77 + 1]? = some (.int .i64 x.1.id) := enc_at mE_len hx (j := 1) (by decide)
    refine Sp.enter (n := 16) Try.func18 rfl rfl rfl (Hp.refl w) ?_
    repeat' (first | ((with_reducible refine is_load ?_); (first | ((refine' ⟨_, Yl_load_old rfl ?q1 hb List.not_mem_nil ?q2, ?_⟩); (case q1 => exact one_of rfl); (case q2 => rfl)) | ((refine' ⟨_, Yl_loadA_at rfl ?qa ?qb ?ql ?qc, ?_⟩); (case qa => exact agg_of rfl); (case qb => (repeat (first | exact .head _ | apply List.Mem.tail))); (case qc => (first | exact mE_rE _)); (case ql => rfl))))    | ((with_reducible refine ie_callf ?_); (first  | ((with_reducible refine g_call 29 ?_); (first | refine Ef_callP rfl rfl ent_29 (fun w hp => h1 w (hp.rd hr fun _ => List.not_mem_nil)) ?_))))    | refine w1 ?_ | (refine w2 ?_ ?_ <;> intro hc)  | (refine w4 ?_; (intro _)) | (refine w5 ?_; (intro _ _)) | refine w3 ?_ ?_ | fail_if_success skip)
    exact ret_n [] (res1 rfl rfl) (List.nil_sublist _) ⟨rfl, rfl⟩
set_option maxHeartbeats 2000000 in
theorem rfind_c : Sp Try.prog 17 [.slice A len cap, .int .i64 t] w [] fun v N => v = .tuple #[.agg (mE ((Rl.find l t).getD Rl.zm)).toArray, .bool (Rl.find l t).isSome] ∧ N = [] := by
  refine Sp.enter (n := 25) Try.func17 rfl rfl rfl (Hp.refl w) ?_
  repeat' (first | ((with_reducible refine is_load ?_); (first | ((refine' ⟨_, Yl_load_old rfl ?q1 hb List.not_mem_nil ?q2, ?_⟩); (case q1 => exact one_of rfl); (case q2 => rfl)) | ((refine' ⟨_, Yl_loadA_at rfl ?qa ?qb ?ql ?qc, ?_⟩); (case qa => exact agg_of rfl); (case qb => (repeat (first | exact .head _ | apply List.Mem.tail))); (case qc => (first | exact mE_rE _)); (case ql => rfl))))  | ((with_reducible refine is_build ?_); (first | refine ⟨_, Yl_build rfl z_build44, ?_⟩ | refine ⟨_, Yl_build rfl z_build30, ?_⟩))      | refine w1 ?_ | (refine w2 ?_ ?_ <;> intro hc)  | (refine w4 ?_; (first | ((fail_if_success have := b1); intro b1) | intro _)) | (refine w5 ?_; (intro _ _)) | refine w3 ?_ ?_ | fail_if_success skip)
  refine T.loop (α := Nat) (fun i => [(0, .slice A len cap), (1, .int .i64 t), (4, .pointer (some ⟨b1, 0, none⟩)), (6, .int .i64 (i : Int))]) (fun _ => [.blk b1 (.cells (mE Rl.zm).toArray 44 (0, 0))]) (fun i => i ≤ len ∧ ∀ y ∈ l.take i, ¬ y.1.c = t) (fun i => len - i) 0 ?_ ?_ ?_ ?_
  · (repeat (first | exact Sub.nil | refine Sub.cons rfl ?_))
  · exact List.Sublist.refl _
  · exact ⟨Nat.zero_le _, by simp⟩
  · rintro i ⟨hi, hno⟩
    by_cases hlt : i < len
    · obtain ⟨x, hx⟩ := some_of_lt (l := l) (i := i) (by omega)
      have e0 : (l.flatMap mE)[i * 77 + 0]? = some (.int .i64 x.1.c) := enc_at mE_len hx (by omega)
      have eA := enc_atA mE_len hx
      have oX := mE_one x
      by_cases hxt : x.1.c = t
      · rw [Rl.find_at hx hxt hno]
        repeat' (first | ((with_reducible refine is_load ?_); (first | ((refine' ⟨_, Yl_load_old rfl ?q1 hb List.not_mem_nil ?q2, ?_⟩); (case q1 => exact one_of rfl); (case q2 => rfl)) | ((refine' ⟨_, Yl_loadA_at rfl ?qa ?qb ?ql ?qc, ?_⟩); (case qa => exact agg_of rfl); (case qb => (repeat (first | exact .head _ | apply List.Mem.tail))); (case qc => (first | exact mE_rE _)); (case ql => rfl))))  | ((with_reducible refine is_build ?_); (first | refine ⟨_, Yl_build rfl z_build44, ?_⟩ | refine ⟨_, Yl_build rfl z_build30, ?_⟩))      | refine w1 ?_ | (refine w2 ?_ ?_ <;> intro hc)  | (refine w4 ?_; (first | ((fail_if_success have := b1); intro b1) | intro _)) | (refine w5 ?_; (intro _ _)) | refine w3 ?_ ?_ | fail_if_success skip)
        exact ret_n [] (resC1 rfl rfl rfl (.head _) (agg_of rfl)) (List.nil_sublist _) ⟨rfl, rfl⟩
      · repeat' (first | ((with_reducible refine is_load ?_); (first | ((refine' ⟨_, Yl_load_old rfl ?q1 hb List.not_mem_nil ?q2, ?_⟩); (case q1 => exact one_of rfl); (case q2 => rfl)) | ((refine' ⟨_, Yl_loadA_at rfl ?qa ?qb ?ql ?qc, ?_⟩); (case qa => exact agg_of rfl); (case qb => (repeat (first | exact .head _ | apply List.Mem.tail))); (case qc => (first | exact mE_rE _)); (case ql => rfl))))  | ((with_reducible refine is_build ?_); (first | refine ⟨_, Yl_build rfl z_build44, ?_⟩ | refine ⟨_, Yl_build rfl z_build30, ?_⟩))      | refine w1 ?_ | (refine w2 ?_ ?_ <;> intro hc)  | (refine w4 ?_; (first | ((fail_if_success have := b1); intro b1) | intro _)) | (refine w5 ?_; (intro _ _)) | refine w3 ?_ ?_ | fail_if_success skip)
        refine loopQ_n (i + 1) ?_ ?_ ⟨by (first | omega | (dsimp only; omega) | (simp; omega)), fun y hy => ?_⟩ (by (first | omega | (dsimp only; omega) | (simp; omega)))
        · (repeat (first | exact Sub.nil | refine Sub.cons rfl ?_))
        · (repeat (first | exact List.nil_sublist _ | refine List.Sublist.cons_cons _ ?_ | refine List.Sublist.cons _ ?_))
        · rw [take_snoc hx] at hy
          rcases List.mem_append.1 hy with hy | hy
          · exact hno y hy
          · rw [List.mem_singleton.1 hy]; exact hxt
    · rw [List.take_of_length_le (by omega)] at hno
      rw [Rl.find_no hno]
      have oX := mE_one Rl.zm
      repeat' (first | ((with_reducible refine is_load ?_); (first | ((refine' ⟨_, Yl_load_old rfl ?q1 hb List.not_mem_nil ?q2, ?_⟩); (case q1 => exact one_of rfl); (case q2 => rfl)) | ((refine' ⟨_, Yl_loadA_at rfl ?qa ?qb ?ql ?qc, ?_⟩); (case qa => exact agg_of rfl); (case qb => (repeat (first | exact .head _ | apply List.Mem.tail))); (case qc => (first | exact mE_rE _)); (case ql => rfl))))  | ((with_reducible refine is_build ?_); (first | refine ⟨_, Yl_build rfl z_build44, ?_⟩ | refine ⟨_, Yl_build rfl z_build30, ?_⟩))      | refine w1 ?_ | (refine w2 ?_ ?_ <;> intro hc)  | (refine w4 ?_; (first | ((fail_if_success have := b1); intro b1) | intro _)) | (refine w5 ?_; (intro _ _)) | refine w3 ?_ ?_ | fail_if_success skip)
      exact ret_n [] (resC1 rfl rfl rfl (.head _) (agg_of rfl)) (List.nil_sublist _) ⟨rfl, rfl⟩

set_option maxHeartbeats 4000000 in
theorem rask_c (i : Int) : Sp Try.prog 16 [.slice A len cap, .int .i64 t, .int .i64 i] w [] fun v N => v = .tuple #[.agg (rE (Rl.askM l t i).1.1 (Rl.askM l t i).1.2).toArray, .bool (Rl.askM l t i).2.1, .int .i64 (Rl.askM l t i).2.2] ∧ N = [] := by
  have hma := fun w h => rmay_v A len cap l w h hl hle _ rfl
  have hft := fun w => rfits_v t i _ w rfl
  have h1 := fun w h => rfind_c A len cap l t w h hl hle
  have oZ := rE_one Rl.z (none, 0)
  unfold Rl.askM
  generalize Rl.may (l.map (·.1)) = m at hma
  generalize Rl.fits t i = f at hft
  cases m
  · refine Sp.enter (n := 45) Try.func16 rfl rfl rfl (Hp.refl w) ?_
    repeat' (first
        | ((with_reducible refine is_load ?_); (first | ((refine' ⟨_, Yl_load_old rfl ?q1 hb List.not_mem_nil ?q2, ?_⟩); (case q1 => exact one_of rfl); (case q2 => rfl)) | ((refine' ⟨_, Yl_loadA_at rfl ?qa ?qb ?ql ?qc, ?_⟩); (case qa => exact agg_of rfl); (case qb => (repeat (first | exact .head _ | apply List.Mem.tail))); (case qc => (first | exact mE_rE _)); (case ql => rfl))))
        | ((with_reducible refine is_build ?_); (first | refine ⟨_, Yl_build rfl z_build44, ?_⟩ | refine ⟨_, Yl_build rfl z_build30, ?_⟩))
        | ((with_reducible refine ie_callf ?_); (first   | ((with_reducible refine g_call 20 ?_); (first | refine Ef_callP rfl rfl ent_20 (fun w hp => hma w (hp.rd hr fun _ => List.not_mem_nil)) ?_)) | ((with_reducible refine g_call 30 ?_); (first | refine Ef_callP rfl rfl ent_30 (fun w _ => hft w) ?_)) | ((with_reducible refine g_call 17 ?_); (first | refine Ef_callP rfl rfl ent_17 (fun w hp => h1 w (hp.rd hr fun _ => List.not_mem_nil)) ?_))))
        | refine w1 ?_
        | (refine w2 ?_ ?_ <;> intro hc)
        | (refine w4 ?_; (intro _))
        | (refine w5 ?_; (intro _ _))
        | refine w3 ?_ ?_
        | fail_if_success skip)
    exact ret_n [] (resC2 rfl rfl rfl rfl (by (repeat (first | exact .head _ | apply List.Mem.tail))) (agg_of rfl)) (List.nil_sublist _) ⟨rfl, rfl⟩
  cases f
  · refine Sp.enter (n := 45) Try.func16 rfl rfl rfl (Hp.refl w) ?_
    repeat' (first
        | ((with_reducible refine is_load ?_); (first | ((refine' ⟨_, Yl_load_old rfl ?q1 hb List.not_mem_nil ?q2, ?_⟩); (case q1 => exact one_of rfl); (case q2 => rfl)) | ((refine' ⟨_, Yl_loadA_at rfl ?qa ?qb ?ql ?qc, ?_⟩); (case qa => exact agg_of rfl); (case qb => (repeat (first | exact .head _ | apply List.Mem.tail))); (case qc => (first | exact mE_rE _)); (case ql => rfl))))
        | ((with_reducible refine is_build ?_); (first | refine ⟨_, Yl_build rfl z_build44, ?_⟩ | refine ⟨_, Yl_build rfl z_build30, ?_⟩))
        | ((with_reducible refine ie_callf ?_); (first   | ((with_reducible refine g_call 20 ?_); (first | refine Ef_callP rfl rfl ent_20 (fun w hp => hma w (hp.rd hr fun _ => List.not_mem_nil)) ?_)) | ((with_reducible refine g_call 30 ?_); (first | refine Ef_callP rfl rfl ent_30 (fun w _ => hft w) ?_)) | ((with_reducible refine g_call 17 ?_); (first | refine Ef_callP rfl rfl ent_17 (fun w hp => h1 w (hp.rd hr fun _ => List.not_mem_nil)) ?_))))
        | refine w1 ?_
        | (refine w2 ?_ ?_ <;> intro hc)
        | (refine w4 ?_; (intro _))
        | (refine w5 ?_; (intro _ _))
        | refine w3 ?_ ?_
        | fail_if_success skip)
    exact ret_n [] (resC2 rfl rfl rfl rfl (by (repeat (first | exact .head _ | apply List.Mem.tail))) (agg_of rfl)) (List.nil_sublist _) ⟨rfl, rfl⟩
  rw [Bool.and_self, if_pos rfl]
  cases hfi : Rl.find l t with
  | none =>
    rw [hfi] at h1
    dsimp only [Option.getD_none, Option.isSome_none] at h1 ⊢
    have oX := mE_one Rl.zm
    refine Sp.enter (n := 45) Try.func16 rfl rfl rfl (Hp.refl w) ?_
    repeat' (first
        | ((with_reducible refine is_load ?_); (first | ((refine' ⟨_, Yl_load_old rfl ?q1 hb List.not_mem_nil ?q2, ?_⟩); (case q1 => exact one_of rfl); (case q2 => rfl)) | ((refine' ⟨_, Yl_loadA_at rfl ?qa ?qb ?ql ?qc, ?_⟩); (case qa => exact agg_of rfl); (case qb => (repeat (first | exact .head _ | apply List.Mem.tail))); (case qc => (first | exact mE_rE _)); (case ql => rfl))))
        | ((with_reducible refine is_build ?_); (first | refine ⟨_, Yl_build rfl z_build44, ?_⟩ | refine ⟨_, Yl_build rfl z_build30, ?_⟩))
        | ((with_reducible refine ie_callf ?_); (first   | ((with_reducible refine g_call 20 ?_); (first | refine Ef_callP rfl rfl ent_20 (fun w hp => hma w (hp.rd hr fun _ => List.not_mem_nil)) ?_)) | ((with_reducible refine g_call 30 ?_); (first | refine Ef_callP rfl rfl ent_30 (fun w _ => hft w) ?_)) | ((with_reducible refine g_call 17 ?_); (first | refine Ef_callP rfl rfl ent_17 (fun w hp => h1 w (hp.rd hr fun _ => List.not_mem_nil)) ?_))))
        | refine w1 ?_
        | (refine w2 ?_ ?_ <;> intro hc)
        | (refine w4 ?_; (intro _))
        | (refine w5 ?_; (intro _ _))
        | refine w3 ?_ ?_
        | fail_if_success skip)
    exact ret_n [] (resC2 rfl rfl rfl rfl (by (repeat (first | exact .head _ | apply List.Mem.tail))) (agg_of rfl)) (List.nil_sublist _) ⟨rfl, rfl⟩
  | some x =>
    rw [hfi] at h1
    dsimp only [Option.getD_some, Option.isSome_some] at h1 ⊢
    have oX := mE_one x
    have oR := rE_one x.1.r x.2
    by_cases g1 : i < x.1.id
    · rw [if_pos g1]
      refine Sp.enter (n := 45) Try.func16 rfl rfl rfl (Hp.refl w) ?_
      repeat' (first
          | ((with_reducible refine is_load ?_); (first | ((refine' ⟨_, Yl_load_old rfl ?q1 hb List.not_mem_nil ?q2, ?_⟩); (case q1 => exact one_of rfl); (case q2 => rfl)) | ((refine' ⟨_, Yl_loadA_at rfl ?qa ?qb ?ql ?qc, ?_⟩); (case qa => exact agg_of rfl); (case qb => (repeat (first | exact .head _ | apply List.Mem.tail))); (case qc => (first | exact mE_rE _)); (case ql => rfl))))
          | ((with_reducible refine is_build ?_); (first | refine ⟨_, Yl_build rfl z_build44, ?_⟩ | refine ⟨_, Yl_build rfl z_build30, ?_⟩))
          | ((with_reducible refine ie_callf ?_); (first   | ((with_reducible refine g_call 20 ?_); (first | refine Ef_callP rfl rfl ent_20 (fun w hp => hma w (hp.rd hr fun _ => List.not_mem_nil)) ?_)) | ((with_reducible refine g_call 30 ?_); (first | refine Ef_callP rfl rfl ent_30 (fun w _ => hft w) ?_)) | ((with_reducible refine g_call 17 ?_); (first | refine Ef_callP rfl rfl ent_17 (fun w hp => h1 w (hp.rd hr fun _ => List.not_mem_nil)) ?_))))
          | refine w1 ?_
          | (refine w2 ?_ ?_ <;> intro hc)
          | (refine w4 ?_; (intro _))
          | (refine w5 ?_; (intro _ _))
          | refine w3 ?_ ?_
          | fail_if_success skip)
      exact ret_n [] (resC2 rfl rfl rfl rfl (by (repeat (first | exact .head _ | apply List.Mem.tail))) (agg_of rfl)) (List.nil_sublist _) ⟨rfl, rfl⟩
    · rw [if_neg g1]
      by_cases g2 : x.1.id = i
      · rw [if_pos g2]
        refine Sp.enter (n := 45) Try.func16 rfl rfl rfl (Hp.refl w) ?_
        repeat' (first
            | ((with_reducible refine is_load ?_); (first | ((refine' ⟨_, Yl_load_old rfl ?q1 hb List.not_mem_nil ?q2, ?_⟩); (case q1 => exact one_of rfl); (case q2 => rfl)) | ((refine' ⟨_, Yl_loadA_at rfl ?qa ?qb ?ql ?qc, ?_⟩); (case qa => exact agg_of rfl); (case qb => (repeat (first | exact .head _ | apply List.Mem.tail))); (case qc => (first | exact mE_rE _)); (case ql => rfl))))
            | ((with_reducible refine is_build ?_); (first | refine ⟨_, Yl_build rfl z_build44, ?_⟩ | refine ⟨_, Yl_build rfl z_build30, ?_⟩))
            | ((with_reducible refine ie_callf ?_); (first   | ((with_reducible refine g_call 20 ?_); (first | refine Ef_callP rfl rfl ent_20 (fun w hp => hma w (hp.rd hr fun _ => List.not_mem_nil)) ?_)) | ((with_reducible refine g_call 30 ?_); (first | refine Ef_callP rfl rfl ent_30 (fun w _ => hft w) ?_)) | ((with_reducible refine g_call 17 ?_); (first | refine Ef_callP rfl rfl ent_17 (fun w hp => h1 w (hp.rd hr fun _ => List.not_mem_nil)) ?_))))
            | refine w1 ?_
            | (refine w2 ?_ ?_ <;> intro hc)
            | (refine w4 ?_; (intro _))
            | (refine w5 ?_; (intro _ _))
            | refine w3 ?_ ?_
            | fail_if_success skip)
        exact ret_n [] (resC2 rfl rfl rfl rfl (by (repeat (first | exact .head _ | apply List.Mem.tail))) (agg_of rfl)) (List.nil_sublist _) ⟨rfl, rfl⟩
      · rw [if_neg g2]
        refine Sp.enter (n := 45) Try.func16 rfl rfl rfl (Hp.refl w) ?_
        repeat' (first
            | ((with_reducible refine is_load ?_); (first | ((refine' ⟨_, Yl_load_old rfl ?q1 hb List.not_mem_nil ?q2, ?_⟩); (case q1 => exact one_of rfl); (case q2 => rfl)) | ((refine' ⟨_, Yl_loadA_at rfl ?qa ?qb ?ql ?qc, ?_⟩); (case qa => exact agg_of rfl); (case qb => (repeat (first | exact .head _ | apply List.Mem.tail))); (case qc => (first | exact mE_rE _)); (case ql => rfl))))
            | ((with_reducible refine is_build ?_); (first | refine ⟨_, Yl_build rfl z_build44, ?_⟩ | refine ⟨_, Yl_build rfl z_build30, ?_⟩))
            | ((with_reducible refine ie_callf ?_); (first   | ((with_reducible refine g_call 20 ?_); (first | refine Ef_callP rfl rfl ent_20 (fun w hp => hma w (hp.rd hr fun _ => List.not_mem_nil)) ?_)) | ((with_reducible refine g_call 30 ?_); (first | refine Ef_callP rfl rfl ent_30 (fun w _ => hft w) ?_)) | ((with_reducible refine g_call 17 ?_); (first | refine Ef_callP rfl rfl ent_17 (fun w hp => h1 w (hp.rd hr fun _ => List.not_mem_nil)) ?_))))
            | refine w1 ?_
            | (refine w2 ?_ ?_ <;> intro hc)
            | (refine w4 ?_; (intro _))
            | (refine w5 ?_; (intro _ _))
            | refine w3 ?_ ?_
            | fail_if_success skip)
        exact ret_n [] (resC2 rfl rfl rfl rfl (by (repeat (first | exact .head _ | apply List.Mem.tail))) (agg_of rfl)) (List.nil_sublist _) ⟨rfl, rfl⟩
end
end Go.Proofs.Ythiacfpfgdoliaa
