/- Whether acts are great; how often bytes are among packets: what a call of each comes to. -/
import Derived.Test.YtdbpnolpgkcjiaaT4
namespace Go.Proofs.Ytdbpnolpgkcjiaa
open Go.RowKit Go.Conc

/-- How much an act holds. -/
def wtP (l : List Pk) : Nat := (l.map fun p => p.1.length + 5).sum
def wtA (l : List Ac) : Nat := (l.map fun a => 20 + wtP a.l).sum
theorem wtP_snoc {l : List Pk} {j : Nat} {x : Pk} (h : l[j]? = some x) : wtP (l.take (j + 1)) = wtP (l.take j) + (x.1.length + 5) := by
  rw [take_snoc h]; simp [wtP]
theorem wtA_snoc {l : List Ac} {j : Nat} {x : Ac} (h : l[j]? = some x) : wtA (l.take (j + 1)) = wtA (l.take j) + (20 + wtP x.l) := by
  rw [take_snoc h]; simp [wtA]
theorem wtA_take (l : List Ac) (j : Nat) : wtA (l.take j) ≤ wtA l := by
  conv => rhs; rw [← List.take_append_drop j l]
  simp only [wtA, List.map_append, List.sum_append]
  omega
theorem wtP_mem : ∀ {l : List Pk} {p : Pk}, p ∈ l → p.1.length + 5 ≤ wtP l
  | a :: l, p, h => by
    simp only [wtP, List.map_cons, List.sum_cons]
    rcases List.mem_cons.1 h with rfl | h
    · omega
    · have := wtP_mem h; simp only [wtP] at this; omega
theorem wtP_len : ∀ (l : List Pk), 5 * l.length ≤ wtP l
  | [] => Nat.zero_le _
  | a :: l => by
    have := wtP_len l
    simp only [wtP, List.map_cons, List.sum_cons, List.length_cons] at this ⊢
    omega
theorem wtA_mem : ∀ {l : List Ac} {p : Ac}, p ∈ l → 20 + wtP p.l ≤ wtA l
  | a :: l, p, h => by
    simp only [wtA, List.map_cons, List.sum_cons]
    rcases List.mem_cons.1 h with rfl | h
    · omega
    · have := wtA_mem h; simp only [wtA] at this; omega
theorem wtA_len : ∀ (l : List Ac), 20 * l.length ≤ wtA l
  | [] => Nat.zero_le _
  | a :: l => by
    have := wtA_len l
    simp only [wtA, List.map_cons, List.sum_cons, List.length_cons] at this ⊢
    omega

section
variable (A : Option Addr) (cc : Nat) (l : List Ac) (w : World) (ha : Rd w A l.length 3 (l.flatMap aE)) (hin : ∀ a ∈ l, Rd w a.h.1 a.l.length 1 (a.l.flatMap pE)) (hle : l.length ≤ 1048576) (hlk : ∀ a ∈ l, a.l.length ≤ 1048576) (hpk : ∀ a ∈ l, ∀ p ∈ a.l, p.1.length ≤ 1048576)
include ha hin hle hlk hpk
set_option maxHeartbeats 4000000 in
theorem great_c : Sp Try.prog 13 [.slice A l.length cc] w [] fun v N => ∃ q : Bool, (q = false → wtA l ≤ 3000) ∧ v = .bool q ∧ N = [] := by
  refine Sp.enter (n := 38) Try.func13 rfl rfl rfl (Hp.refl w) ?_
  repeat' (first | ((with_reducible refine is_load ?_); (first | ((refine' ⟨_, Yl_load_hp rfl ?q1 (fun w hp => hp.rd ha fun _ => List.not_mem_nil) ?q2, ?_⟩); (case q1 => exact one_of rfl); (case q2 => assumption)) | ((refine' ⟨_, Yl_load_hp rfl ?q1 (fun w hp => hp.rd (hin x (mem_of_some hx)) fun _ => List.not_mem_nil) ?q2, ?_⟩); (case q1 => exact one_of rfl); (case q2 => assumption)))) | ((with_reducible refine is_idx ?_); (first | ((refine' ⟨_, Yl_index rfl rfl ?q1 ?q2 ?q3 ((hin x (mem_of_some hx)).some_ ?q4), ?_⟩); (case q1 => exact und_of rfl); (case q2 => exact siz_of rfl); (case q3 => omega); (case q4 => omega))))       | refine w1 ?_ | (refine w2 ?_ ?_ <;> intro hc) | (first | ((refine' ⟨_, Yl_str_hp (l := x.1) rfl ?q1 ?q2 ?q3 (fun w hp => hp.in_old (hin x (mem_of_some hx))), ?_⟩); (case q1 => exact und_of rfl); (case q2 => exact und_of rfl); (case q3 => exact und_of rfl))) | (refine w4 ?_; (intro _)) | (refine w5 ?_; (intro _ _)) | refine w3 ?_ ?_ | fail_if_success skip)
  refine T.loop (α := Nat × Nat) (fun z => [(0, .slice A l.length cc), (3, .int .i64 (z.2 : Int)), (4, .int .i64 (z.1 : Int))]) (fun _ => []) (fun z => z.1 ≤ l.length ∧ z.2 = wtA (l.take z.1) ∧ z.2 ≤ 3000) (fun z => l.length - z.1) (0, 0) ?_ ?_ ?_ ?_
  · (repeat (first | exact Sub.nil | refine Sub.cons rfl ?_))
  · (repeat (first | exact List.nil_sublist _ | refine List.Sublist.cons_cons _ ?_ | refine List.Sublist.cons _ ?_))
  · exact ⟨Nat.zero_le _, rfl, Nat.zero_le _⟩
  · rintro ⟨i, s⟩ ⟨hi, hs, hs3⟩
    dsimp only at hi hs hs3 ⊢
    by_cases hlt : i < l.length
    · obtain ⟨x, hx⟩ := some_of_lt (l := l) (i := i) hlt
      have e2 : (l.flatMap aE)[i * 3 + 2]? = some (.slice x.h.1 x.l.length x.h.2) := enc_at aE_len hx (j := 2) (by decide)
      have hxl := hlk x (mem_of_some hx)
      have hxp := hpk x (mem_of_some hx)
      repeat' (first | ((with_reducible refine is_load ?_); (first | ((refine' ⟨_, Yl_load_hp rfl ?q1 (fun w hp => hp.rd ha fun _ => List.not_mem_nil) ?q2, ?_⟩); (case q1 => exact one_of rfl); (case q2 => assumption)) | ((refine' ⟨_, Yl_load_hp rfl ?q1 (fun w hp => hp.rd (hin x (mem_of_some hx)) fun _ => List.not_mem_nil) ?q2, ?_⟩); (case q1 => exact one_of rfl); (case q2 => assumption)))) | ((with_reducible refine is_idx ?_); (first | ((refine' ⟨_, Yl_index rfl rfl ?q1 ?q2 ?q3 ((hin x (mem_of_some hx)).some_ ?q4), ?_⟩); (case q1 => exact und_of rfl); (case q2 => exact siz_of rfl); (case q3 => omega); (case q4 => omega))))       | refine w1 ?_ | (refine w2 ?_ ?_ <;> intro hc) | (first | ((refine' ⟨_, Yl_str_hp (l := x.1) rfl ?q1 ?q2 ?q3 (fun w hp => hp.in_old (hin x (mem_of_some hx))), ?_⟩); (case q1 => exact und_of rfl); (case q2 => exact und_of rfl); (case q3 => exact und_of rfl))) | (refine w4 ?_; (intro _)) | (refine w5 ?_; (intro _ _)) | refine w3 ?_ ?_ | fail_if_success skip)
      refine T.loop (α := Nat × Nat) (fun z => [(0, .slice A l.length cc), (3, .int .i64 (z.2 : Int)), (4, .int .i64 (i : Int)), (5, .int .i64 (z.1 : Int))]) (fun _ => []) (fun z => z.1 ≤ x.l.length ∧ z.2 = s + 20 + wtP (x.l.take z.1) ∧ z.2 ≤ 3020 + z.1 * 1048581) (fun z => x.l.length - z.1) (0, s + 20) ?_ ?_ ?_ ?_
      · (repeat (first | exact Sub.nil | refine Sub.cons rfl ?_))
      · (repeat (first | exact List.nil_sublist _ | refine List.Sublist.cons_cons _ ?_ | refine List.Sublist.cons _ ?_))
      · exact ⟨Nat.zero_le _, rfl, by dsimp only; omega⟩
      · rintro ⟨j, s2⟩ ⟨hj, h2, h3⟩
        dsimp only at hj h2 h3 ⊢
        by_cases hjl : j < x.l.length
        · obtain ⟨p, hp⟩ := some_of_lt (l := x.l) (i := j) hjl
          have e0 : (x.l.flatMap pE)[j * 1]? = some (pV p) := enc_at pE_len hp (j := 0) (by decide)
          unfold pV at e0
          have hpl := hxp p (mem_of_some hp)
          repeat' (first | ((with_reducible refine is_load ?_); (first | ((refine' ⟨_, Yl_load_hp rfl ?q1 (fun w hp => hp.rd ha fun _ => List.not_mem_nil) ?q2, ?_⟩); (case q1 => exact one_of rfl); (case q2 => assumption)) | ((refine' ⟨_, Yl_load_hp rfl ?q1 (fun w hp => hp.rd (hin x (mem_of_some hx)) fun _ => List.not_mem_nil) ?q2, ?_⟩); (case q1 => exact one_of rfl); (case q2 => assumption)))) | ((with_reducible refine is_idx ?_); (first | ((refine' ⟨_, Yl_index rfl rfl ?q1 ?q2 ?q3 ((hin x (mem_of_some hx)).some_ ?q4), ?_⟩); (case q1 => exact und_of rfl); (case q2 => exact siz_of rfl); (case q3 => omega); (case q4 => omega))))       | refine w1 ?_ | (refine w2 ?_ ?_ <;> intro hc) | (first | ((refine' ⟨_, Yl_str_hp (l := x.1) rfl ?q1 ?q2 ?q3 (fun w hp => hp.in_old (hin x (mem_of_some hx))), ?_⟩); (case q1 => exact und_of rfl); (case q2 => exact und_of rfl); (case q3 => exact und_of rfl))) | (refine w4 ?_; (intro _)) | (refine w5 ?_; (intro _ _)) | refine w3 ?_ ?_ | fail_if_success skip)
          refine loopQ_n (j + 1, s2 + p.1.length + 5) ?_ (List.Sublist.refl _) ⟨show j + 1 ≤ x.l.length by omega, by dsimp only; rw [wtP_snoc hp]; omega, by dsimp only; omega⟩ (show x.l.length - (j + 1) < x.l.length - j by omega)
          (repeat (first | exact Sub.nil | refine Sub.cons rfl ?_))
        · have h4 : x.l.take j = x.l := List.take_of_length_le (by omega)
          rw [h4] at h2
          repeat' (first | ((with_reducible refine is_load ?_); (first | ((refine' ⟨_, Yl_load_hp rfl ?q1 (fun w hp => hp.rd ha fun _ => List.not_mem_nil) ?q2, ?_⟩); (case q1 => exact one_of rfl); (case q2 => assumption)) | ((refine' ⟨_, Yl_load_hp rfl ?q1 (fun w hp => hp.rd (hin x (mem_of_some hx)) fun _ => List.not_mem_nil) ?q2, ?_⟩); (case q1 => exact one_of rfl); (case q2 => assumption)))) | ((with_reducible refine is_idx ?_); (first | ((refine' ⟨_, Yl_index rfl rfl ?q1 ?q2 ?q3 ((hin x (mem_of_some hx)).some_ ?q4), ?_⟩); (case q1 => exact und_of rfl); (case q2 => exact siz_of rfl); (case q3 => omega); (case q4 => omega))))       | refine w1 ?_ | (refine w2 ?_ ?_ <;> intro hc) | (first | ((refine' ⟨_, Yl_str_hp (l := x.1) rfl ?q1 ?q2 ?q3 (fun w hp => hp.in_old (hin x (mem_of_some hx))), ?_⟩); (case q1 => exact und_of rfl); (case q2 => exact und_of rfl); (case q3 => exact und_of rfl))) | (refine w4 ?_; (intro _)) | (refine w5 ?_; (intro _ _)) | refine w3 ?_ ?_ | fail_if_success skip)
          · exact ret_n [] (res1 rfl rfl) (List.nil_sublist _) ⟨true, by simp, rfl, rfl⟩
          · refine loopQ_n (i + 1, s2) ?_ (List.Sublist.refl _) ⟨show i + 1 ≤ l.length by omega, by dsimp only; rw [wtA_snoc hx]; omega, by dsimp only; omega⟩ (show l.length - (i + 1) < l.length - i by omega)
            (repeat (first | exact Sub.nil | refine Sub.cons rfl ?_))
    · have h4 : l.take i = l := List.take_of_length_le (by omega)
      rw [h4] at hs
      repeat' (first | ((with_reducible refine is_load ?_); (first | ((refine' ⟨_, Yl_load_hp rfl ?q1 (fun w hp => hp.rd ha fun _ => List.not_mem_nil) ?q2, ?_⟩); (case q1 => exact one_of rfl); (case q2 => assumption)) | ((refine' ⟨_, Yl_load_hp rfl ?q1 (fun w hp => hp.rd (hin x (mem_of_some hx)) fun _ => List.not_mem_nil) ?q2, ?_⟩); (case q1 => exact one_of rfl); (case q2 => assumption)))) | ((with_reducible refine is_idx ?_); (first | ((refine' ⟨_, Yl_index rfl rfl ?q1 ?q2 ?q3 ((hin x (mem_of_some hx)).some_ ?q4), ?_⟩); (case q1 => exact und_of rfl); (case q2 => exact siz_of rfl); (case q3 => omega); (case q4 => omega))))       | refine w1 ?_ | (refine w2 ?_ ?_ <;> intro hc) | (first | ((refine' ⟨_, Yl_str_hp (l := x.1) rfl ?q1 ?q2 ?q3 (fun w hp => hp.in_old (hin x (mem_of_some hx))), ?_⟩); (case q1 => exact und_of rfl); (case q2 => exact und_of rfl); (case q3 => exact und_of rfl))) | (refine w4 ?_; (intro _)) | (refine w5 ?_; (intro _ _)) | refine w3 ?_ ?_ | fail_if_success skip)
      exact ret_n [] (res1 rfl rfl) (List.nil_sublist _) ⟨false, fun _ => by omega, rfl, rfl⟩
end

/-- How often a text is among packets. -/
def cnt (s : ByteArray) (l : List Pk) : Nat := (l.map (·.1)).countP fun y => decide ((⟨y.toArray⟩ : ByteArray) = s)
theorem cnt_same {s : ByteArray} {l m : List Pk} (h : l.map (·.1) = m.map (·.1)) : cnt s l = cnt s m := by unfold cnt; rw [h]
theorem cnt_app (s : ByteArray) (l m : List Pk) : cnt s (l ++ m) = cnt s l + cnt s m := by unfold cnt; rw [List.map_append, List.countP_append]
theorem cnt_one (s : ByteArray) (x : Pk) : cnt s [x] = if (⟨x.1.toArray⟩ : ByteArray) = s then 1 else 0 := by
  unfold cnt
  by_cases h : (⟨x.1.toArray⟩ : ByteArray) = s <;> simp [h]
theorem cnt_snoc {s : ByteArray} {l : List Pk} {i : Nat} {x : Pk} (h : l[i]? = some x) : cnt s (l.take (i + 1)) = cnt s (l.take i) + if (⟨x.1.toArray⟩ : ByteArray) = s then 1 else 0 := by
  rw [take_snoc h, cnt_app, cnt_one]
theorem cnt_le (s : ByteArray) (l : List Pk) : cnt s l ≤ l.length := by
  unfold cnt
  exact Nat.le_trans List.countP_le_length (by rw [List.length_map]; exact Nat.le_refl _)
theorem cnt_erase {s : ByteArray} {l : List Pk} {p : Nat} {x : Pk} (h : l[p]? = some x) : cnt s l = (if (⟨x.1.toArray⟩ : ByteArray) = s then 1 else 0) + cnt s (l.eraseIdx p) := by
  have h1 : cnt s l = cnt s (x :: l.eraseIdx p) := by unfold cnt; exact ((erase_perm h).map (·.1)).countP_eq _
  rw [h1, show x :: l.eraseIdx p = [x] ++ l.eraseIdx p from rfl, cnt_app, cnt_one]

section
variable (A : Option Addr) (cc : Nat) (l : List Pk) (w : World) (ha : Rd w A l.length 1 (l.flatMap pE)) (hin : Ins w l) (s : ByteArray) (hle : l.length ≤ 1048576)
include ha hin hle
set_option maxHeartbeats 4000000 in
theorem count_c : Sp Try.prog 20 [.slice A l.length cc, .string s] w [] fun v N => v = .int .i64 (cnt s l) ∧ N = [] := by
  refine Sp.enter (n := 23) Try.func20 rfl rfl rfl (Hp.refl w) ?_
  repeat' (first | ((with_reducible refine is_load ?_); (first | ((refine' ⟨_, Yl_load_hp rfl ?q1 (fun w hp => hp.rd ha fun _ => List.not_mem_nil) ?q2, ?_⟩); (case q1 => exact one_of rfl); (case q2 => assumption)) | ((refine' ⟨_, Yl_load_hp rfl ?q1 (fun w hp => hp.rd (hin x (mem_of_some hx)) fun _ => List.not_mem_nil) ?q2, ?_⟩); (case q1 => exact one_of rfl); (case q2 => assumption)))) | ((with_reducible refine is_idx ?_); (first | ((refine' ⟨_, Yl_index rfl rfl ?q1 ?q2 ?q3 ((hin x (mem_of_some hx)).some_ ?q4), ?_⟩); (case q1 => exact und_of rfl); (case q2 => exact siz_of rfl); (case q3 => omega); (case q4 => omega))))       | refine w1 ?_ | (refine w2 ?_ ?_ <;> intro hc) | (first | ((refine' ⟨_, Yl_str_hp (l := x.1) rfl ?q1 ?q2 ?q3 (fun w hp => hp.in_old (hin x (mem_of_some hx))), ?_⟩); (case q1 => exact und_of rfl); (case q2 => exact und_of rfl); (case q3 => exact und_of rfl))) | (refine w4 ?_; (intro _)) | (refine w5 ?_; (intro _ _)) | refine w3 ?_ ?_ | fail_if_success skip)
  refine T.loop (α := Nat × Nat) (fun z => [(0, .slice A l.length cc), (1, .string s), (5, .int .i64 (z.2 : Int)), (6, .int .i64 (z.1 : Int))]) (fun _ => []) (fun z => z.1 ≤ l.length ∧ z.2 = cnt s (l.take z.1) ∧ z.2 ≤ z.1) (fun z => l.length - z.1) (0, 0) ?_ ?_ ?_ ?_
  · (repeat (first | exact Sub.nil | refine Sub.cons rfl ?_))
  · (repeat (first | exact List.nil_sublist _ | refine List.Sublist.cons_cons _ ?_ | refine List.Sublist.cons _ ?_))
  · exact ⟨Nat.zero_le _, rfl, Nat.zero_le _⟩
  · rintro ⟨i, k⟩ ⟨hi, hk, hki⟩
    dsimp only at hi hk hki ⊢
    by_cases hlt : i < l.length
    · obtain ⟨x, hx⟩ := some_of_lt (l := l) (i := i) hlt
      have e0 : (l.flatMap pE)[i * 1]? = some (pV x) := enc_at pE_len hx (j := 0) (by decide)
      by_cases hs : (⟨x.1.toArray⟩ : ByteArray) = s
      · repeat' (first | ((with_reducible refine is_load ?_); (first | ((refine' ⟨_, Yl_load_hp rfl ?q1 (fun w hp => hp.rd ha fun _ => List.not_mem_nil) ?q2, ?_⟩); (case q1 => exact one_of rfl); (case q2 => assumption)) | ((refine' ⟨_, Yl_load_hp rfl ?q1 (fun w hp => hp.rd (hin x (mem_of_some hx)) fun _ => List.not_mem_nil) ?q2, ?_⟩); (case q1 => exact one_of rfl); (case q2 => assumption)))) | ((with_reducible refine is_idx ?_); (first | ((refine' ⟨_, Yl_index rfl rfl ?q1 ?q2 ?q3 ((hin x (mem_of_some hx)).some_ ?q4), ?_⟩); (case q1 => exact und_of rfl); (case q2 => exact siz_of rfl); (case q3 => omega); (case q4 => omega))))       | refine w1 ?_ | (refine w2 ?_ ?_ <;> intro hc) | (first | ((refine' ⟨_, Yl_str_hp (l := x.1) rfl ?q1 ?q2 ?q3 (fun w hp => hp.in_old (hin x (mem_of_some hx))), ?_⟩); (case q1 => exact und_of rfl); (case q2 => exact und_of rfl); (case q3 => exact und_of rfl))) | (refine w4 ?_; (intro _)) | (refine w5 ?_; (intro _ _)) | refine w3 ?_ ?_ | fail_if_success skip)
        refine loopQ_n (i + 1, k + 1) ?_ (List.Sublist.refl _) ⟨show i + 1 ≤ l.length by omega, by dsimp only; rw [cnt_snoc hx, if_pos hs]; omega, by dsimp only; omega⟩ (show l.length - (i + 1) < l.length - i by omega)
        (repeat (first | exact Sub.nil | refine Sub.cons rfl ?_))
      · repeat' (first | ((with_reducible refine is_load ?_); (first | ((refine' ⟨_, Yl_load_hp rfl ?q1 (fun w hp => hp.rd ha fun _ => List.not_mem_nil) ?q2, ?_⟩); (case q1 => exact one_of rfl); (case q2 => assumption)) | ((refine' ⟨_, Yl_load_hp rfl ?q1 (fun w hp => hp.rd (hin x (mem_of_some hx)) fun _ => List.not_mem_nil) ?q2, ?_⟩); (case q1 => exact one_of rfl); (case q2 => assumption)))) | ((with_reducible refine is_idx ?_); (first | ((refine' ⟨_, Yl_index rfl rfl ?q1 ?q2 ?q3 ((hin x (mem_of_some hx)).some_ ?q4), ?_⟩); (case q1 => exact und_of rfl); (case q2 => exact siz_of rfl); (case q3 => omega); (case q4 => omega))))       | refine w1 ?_ | (refine w2 ?_ ?_ <;> intro hc) | (first | ((refine' ⟨_, Yl_str_hp (l := x.1) rfl ?q1 ?q2 ?q3 (fun w hp => hp.in_old (hin x (mem_of_some hx))), ?_⟩); (case q1 => exact und_of rfl); (case q2 => exact und_of rfl); (case q3 => exact und_of rfl))) | (refine w4 ?_; (intro _)) | (refine w5 ?_; (intro _ _)) | refine w3 ?_ ?_ | fail_if_success skip)
        refine loopQ_n (i + 1, k) ?_ (List.Sublist.refl _) ⟨show i + 1 ≤ l.length by omega, by dsimp only; rw [cnt_snoc hx, if_neg hs]; omega, by dsimp only; omega⟩ (show l.length - (i + 1) < l.length - i by omega)
        (repeat (first | exact Sub.nil | refine Sub.cons rfl ?_))
    · have h4 : l.take i = l := List.take_of_length_le (by omega)
      rw [h4] at hk
      repeat' (first | ((with_reducible refine is_load ?_); (first | ((refine' ⟨_, Yl_load_hp rfl ?q1 (fun w hp => hp.rd ha fun _ => List.not_mem_nil) ?q2, ?_⟩); (case q1 => exact one_of rfl); (case q2 => assumption)) | ((refine' ⟨_, Yl_load_hp rfl ?q1 (fun w hp => hp.rd (hin x (mem_of_some hx)) fun _ => List.not_mem_nil) ?q2, ?_⟩); (case q1 => exact one_of rfl); (case q2 => assumption)))) | ((with_reducible refine is_idx ?_); (first | ((refine' ⟨_, Yl_index rfl rfl ?q1 ?q2 ?q3 ((hin x (mem_of_some hx)).some_ ?q4), ?_⟩); (case q1 => exact und_of rfl); (case q2 => exact siz_of rfl); (case q3 => omega); (case q4 => omega))))       | refine w1 ?_ | (refine w2 ?_ ?_ <;> intro hc) | (first | ((refine' ⟨_, Yl_str_hp (l := x.1) rfl ?q1 ?q2 ?q3 (fun w hp => hp.in_old (hin x (mem_of_some hx))), ?_⟩); (case q1 => exact und_of rfl); (case q2 => exact und_of rfl); (case q3 => exact und_of rfl))) | (refine w4 ?_; (intro _)) | (refine w5 ?_; (intro _ _)) | refine w3 ?_ ?_ | fail_if_success skip)
      exact ret_n [] (res1 rfl rfl) (List.nil_sublist _) ⟨by rw [hk], rfl⟩
end
end Go.Proofs.Ytdbpnolpgkcjiaa
