/- The law's to, is, stays, and puts one behind the other: what a call of each comes to. -/
import Derived.Test.YtimmabejfigleaaT4
namespace Go.Proofs.Ytimmabejfigleaa
open Go.RowKit
set_option maxRecDepth 20000

section
variable {P : Program} {n : Nat} {w0 : World} {R : List Nat} {L : List (Nat × Value)} {M : List Asrt} {t ty : TypeId} {x : Operand} {K K' : List (Nat × Value) → List Asrt → Prop}
/-- What the memory behind an operation tells. -/
theorem Ef_more {d : Option Nat} {op : Op} (h : Ef P n w0 R d op ty L M K') (hk : ∀ L' M' w', Hp w0 R M' w' → K' L' M' → K L' M') : Ef P n w0 R d op ty L M K :=
  .mk fun a w next Q h1 h2 h3 => h.run a w next Q h1 h2 fun a' w' L' M' k1 k2 k3 => h3 a' w' L' M' k1 k2 (hk L' M' w' k2 k3)
/-- An append of an owned row; the result's capacity is enough. -/
theorem Ef_appC_row {d e k by_ m m2 c2 i : Nat} {s : Operand} {vv : Value} {A2 : Option Addr} {xs news : List Value} (hd : Nat.blt d n = true) (hs : evl L s = some vv) (hx : evl L x = some (.slice A2 m2 c2)) (ht : appT P t = some (e, k, by_))
    (hM : M[i]? = some (.row e k vv m xs)) (hm : Asrt.row e k (.slice A2 m2 c2) m2 news ∈ M) (h1 : ∀ u ∈ news, u.oneCell' = true) (hb : (m + m2) * by_ ≤ 140737488355328) (h63 : m + m2 ≤ 9223372036854775807)
    (h : ∀ A c, m + m2 ≤ c → K ((d, .slice A (m + m2) c) :: L) (M.set i (.row e k (.slice A (m + m2) c) (m + m2) (xs ++ news)))) :
    Ef P n w0 R (some d) (.call { callee := .builtin .append, args := #[s, x], argTypes := #[t, t] }) ty L M K :=
  Ef_more (K' := fun L' M' => ∃ A c, L' = (d, .slice A (m + m2) c) :: L ∧ M' = M.set i (.row e k (.slice A (m + m2) c) (m + m2) (xs ++ news))) (Ef_appG_row hd hs hx ht hM hm h1 hb h63 fun A c => ⟨A, c, rfl, rfl⟩) fun L' M' w' hp ⟨A, c, e1, e2⟩ => by
    subst e1 e2
    refine h A c (hp.capOf (e := e) (k := k) (A := A) (xs := xs ++ news) ?_)
    have hi := (List.getElem?_eq_some_iff.1 hM).1
    exact List.mem_of_getElem? (i := i) (by rw [List.getElem?_set_self hi])
end

theorem s_build3 (a b : Int) (z : Option Addr) (n c : Nat) (w : World) : (Instr.build 30 #[(0, .int .i64 a), (1, .int .i64 b), (2, .slice z n c)]).run Try.prog w = .ok (.agg (sV a b (z, c) n)) w := by kernel_rfl

/-- The pair behind a space that is handed in. -/
def Ks.tl : Pr := (⟨#[126]⟩, Ks.e)
/-- A row of pairs with that one behind. -/
def rT (l : List Pr) (z : Option Addr × Nat) : Asrt := .row 57 2 (.slice z.1 (l.length + 1) z.2) (l.length + 1) ((l ++ [Ks.tl]).flatMap pE)
theorem rT_rd {w : World} {A : Option Addr} {l : List Pr} (h : Rd w A (l.length + 1) 2 ((l ++ [Ks.tl]).flatMap pE)) : Rd w A l.length 2 (l.flatMap pE) := by
  have := Rd.upto pE_len h (m := l.length) (by omega)
  rwa [show (l ++ [Ks.tl]).take l.length = l by simp] at this

section
variable (A : Option Addr) (len cap : Nat) (l : List Pr) (w : World)
theorem great_v (k y : Int) : Sp Try.prog 9 [.agg (sV k y (A, cap) len)] w [] fun v N => v = .bool (decide ((len : Int) > 100)) ∧ N = [] := by
  by_cases h : (len : Int) > 100
  · rw [decide_eq_true h]
    refine Sp.enter (n := 7) Try.func9 rfl rfl rfl (Hp.refl w) ?_
    repeat' (first
        | (first | ((with_reducible refine ie_app ?_); (((refine' Ef_appC_row rfl rfl rfl ?q1 ?q2 ?q3 ?q4 ?q5 ?q6 ?_); (case q1 => exact app_of rfl); (case q2 => (first | exact at0 | exact at1 | exact at2 | exact at3 | exact at4 | exact at5 | exact at6)); (case q3 => (repeat (first | exact .head _ | apply List.Mem.tail))); (case q4 => (first | assumption | (intro u hu; rcases hu with _ | ⟨_, _ | ⟨_, _ | ⟨_, _ | ⟨_, hu⟩⟩⟩⟩ <;> first | rfl | (cases hu; done)))); (case q5 => omega); (case q6 => omega))); intro A2 c2 hcap))
        | ((with_reducible refine g_draw ?_); (first
        | (((refine' T.drawB (id := 5) (.y 0 (.y 2 (.y 3 (.y 4 (.y 5 (.y 6 (.y 7 (.y 8 (.y 9 (.y 10 (.y 11 (.y 12 (.y 13 (.y 14 (.b 1 (.run [(15, false), (16, false), (17, true), (18, false)]) 15 (.run [(1, false), (16, false), (17, true), (18, false)])))))))))))))))) [.blk b1 (.cells (sV k y (A, cap) len) 24 (0, 0))] mixd ?q1 ?q2 ?_); (case q1 => kernel_rfl); (case q2 => (repeat (first | exact List.nil_sublist _ | refine List.Sublist.cons_cons _ ?_ | refine List.Sublist.cons _ ?_)))))
        | (((refine' T.draw (id := 7) [(0, true), (1, true), (2, true), (3, true), (4, true), (5, true), (6, true), (9, true), (7, false), (8, false), (10, false), (11, false), (12, false)] [.blk b3 (.cells (sV k y (A1, c1) len) 30 (0, 0)), .blk b1 (.cells (sV k y (A, cap) len) 24 (0, 0))] mixd ?q1 ?q2 ?_); (case q1 => kernel_rfl); (case q2 => (repeat (first | exact List.nil_sublist _ | refine List.Sublist.cons_cons _ ?_ | refine List.Sublist.cons _ ?_)))))
        | (((refine' T.draw (id := 5) [(1, true), (2, true), (3, true), (4, true), (5, true), (6, true), (7, true), (8, true), (9, true), (0, false), (10, false), (11, false), (12, true), (13, true), (14, false), (15, false)] [] mixd ?q1 ?q2 ?_); (case q1 => kernel_rfl); (case q2 => (repeat (first | exact List.nil_sublist _ | refine List.Sublist.cons_cons _ ?_ | refine List.Sublist.cons _ ?_)))))))
        | refine w1 ?_
        | (refine w2 ?_ ?_ <;> intro hc)
        | (first | refine ⟨_, Yl_eqlA rfl rfl (eqg_of rfl) (eqP_t _ _ rfl).run, ?_⟩)
        | (refine w4 ?_; (first | ((fail_if_success have := b1); intro b1) | ((fail_if_success have := b2); intro b2) | ((fail_if_success have := b3); intro b3) | intro _))
        | (refine w5 ?_; (first | ((fail_if_success have := A1); intro A1 c1) | ((fail_if_success have := A2); intro A2 c2) | intro _ _))
        | refine w3 ?_ ?_
        | fail_if_success skip)
    exact ret_n [] (res1 rfl rfl) (List.nil_sublist _) ⟨rfl, rfl⟩
  · rw [decide_eq_false h]
    refine Sp.enter (n := 7) Try.func9 rfl rfl rfl (Hp.refl w) ?_
    repeat' (first
        | (first | ((with_reducible refine ie_app ?_); (((refine' Ef_appC_row rfl rfl rfl ?q1 ?q2 ?q3 ?q4 ?q5 ?q6 ?_); (case q1 => exact app_of rfl); (case q2 => (first | exact at0 | exact at1 | exact at2 | exact at3 | exact at4 | exact at5 | exact at6)); (case q3 => (repeat (first | exact .head _ | apply List.Mem.tail))); (case q4 => (first | assumption | (intro u hu; rcases hu with _ | ⟨_, _ | ⟨_, _ | ⟨_, _ | ⟨_, hu⟩⟩⟩⟩ <;> first | rfl | (cases hu; done)))); (case q5 => omega); (case q6 => omega))); intro A2 c2 hcap))
        | ((with_reducible refine g_draw ?_); (first
        | (((refine' T.drawB (id := 5) (.y 0 (.y 2 (.y 3 (.y 4 (.y 5 (.y 6 (.y 7 (.y 8 (.y 9 (.y 10 (.y 11 (.y 12 (.y 13 (.y 14 (.b 1 (.run [(15, false), (16, false), (17, true), (18, false)]) 15 (.run [(1, false), (16, false), (17, true), (18, false)])))))))))))))))) [.blk b1 (.cells (sV k y (A, cap) len) 24 (0, 0))] mixd ?q1 ?q2 ?_); (case q1 => kernel_rfl); (case q2 => (repeat (first | exact List.nil_sublist _ | refine List.Sublist.cons_cons _ ?_ | refine List.Sublist.cons _ ?_)))))
        | (((refine' T.draw (id := 7) [(0, true), (1, true), (2, true), (3, true), (4, true), (5, true), (6, true), (9, true), (7, false), (8, false), (10, false), (11, false), (12, false)] [.blk b3 (.cells (sV k y (A1, c1) len) 30 (0, 0)), .blk b1 (.cells (sV k y (A, cap) len) 24 (0, 0))] mixd ?q1 ?q2 ?_); (case q1 => kernel_rfl); (case q2 => (repeat (first | exact List.nil_sublist _ | refine List.Sublist.cons_cons _ ?_ | refine List.Sublist.cons _ ?_)))))
        | (((refine' T.draw (id := 5) [(1, true), (2, true), (3, true), (4, true), (5, true), (6, true), (7, true), (8, true), (9, true), (0, false), (10, false), (11, false), (12, true), (13, true), (14, false), (15, false)] [] mixd ?q1 ?q2 ?_); (case q1 => kernel_rfl); (case q2 => (repeat (first | exact List.nil_sublist _ | refine List.Sublist.cons_cons _ ?_ | refine List.Sublist.cons _ ?_)))))))
        | refine w1 ?_
        | (refine w2 ?_ ?_ <;> intro hc)
        | (first | refine ⟨_, Yl_eqlA rfl rfl (eqg_of rfl) (eqP_t _ _ rfl).run, ?_⟩)
        | (refine w4 ?_; (first | ((fail_if_success have := b1); intro b1) | ((fail_if_success have := b2); intro b2) | ((fail_if_success have := b3); intro b3) | intro _))
        | (refine w5 ?_; (first | ((fail_if_success have := A1); intro A1 c1) | ((fail_if_success have := A2); intro A2 c2) | intro _ _))
        | refine w3 ?_ ?_
        | fail_if_success skip)
    exact ret_n [] (res1 rfl rfl) (List.nil_sublist _) ⟨rfl, rfl⟩

variable (hr : Rd w A len 2 (l.flatMap pE)) (hl : l.length = len) (hle : len ≤ 100)
include hr hl hle
set_option maxHeartbeats 4000000 in
theorem to_c (k y : Int) : Sp Try.prog 11 [.agg (sV k y (A, cap) len)] w [] fun v N => ∃ z : Option Addr × Nat, v = .agg (sV k y z len) ∧ N = [rT l z] := by
  refine Sp.enter (n := 51) Try.func11 rfl rfl rfl (Hp.refl w) ?_
  refine T.row0e 57 2 ?_
  repeat' (first
      | ((with_reducible refine is_idx ?_); (first | ((refine' ⟨_, Yl_index rfl rfl ?q1 ?q2 ?q3 (Rd.some_ hr ?q4), ?_⟩); (case q1 => exact und_of rfl); (case q2 => exact siz_of rfl); (case q3 => exact Nat.lt_succ_self _); (case q4 => omega))))
      | ((with_reducible refine is_build ?_); (first | refine ⟨_, Yl_build rfl (p_build2 _ _), ?_⟩ | refine ⟨_, Yl_build rfl (p_build1 _), ?_⟩ | refine ⟨_, Yl_build rfl (s_build3 _ _ _ _ _), ?_⟩ | refine ⟨_, Yl_build rfl (s_build2 _ _), ?_⟩))
      | ((with_reducible refine ie_store ?_); (first | ((refine' Ef_storeC (C' := sV k y (A2, c2) (i + 1)) rfl rfl ?q1 ?q2 ?q3 ?q4 ?q5 ?_); (case q1 => rfl); (case q2 => exact siz_of rfl); (case q3 => (first | exact at0 | exact at1 | exact at2 | exact at3 | exact at4 | exact at5 | exact at6)); (case q4 => exact Nat.le_of_ble_eq_true rfl); (case q5 => rfl))))
      | (first | ((with_reducible refine ie_app ?_); (((refine' Ef_appC_row rfl rfl rfl ?q1 ?q2 ?q3 ?q4 ?q5 ?q6 ?_); (case q1 => exact app_of rfl); (case q2 => (first | exact at0 | exact at1 | exact at2 | exact at3 | exact at4 | exact at5 | exact at6)); (case q3 => (repeat (first | exact .head _ | apply List.Mem.tail))); (case q4 => (first | assumption | (intro u hu; rcases hu with _ | ⟨_, _ | ⟨_, _ | ⟨_, _ | ⟨_, hu⟩⟩⟩⟩ <;> first | rfl | (cases hu; done)))); (case q5 => omega); (case q6 => omega))); intro A2 c2 hcap))
      | ((with_reducible refine g_draw ?_); (first
      | (((refine' T.drawB (id := 5) (.y 0 (.y 2 (.y 3 (.y 4 (.y 5 (.y 6 (.y 7 (.y 8 (.y 9 (.y 10 (.y 11 (.y 12 (.y 13 (.y 14 (.b 1 (.run [(15, false), (16, false), (17, true), (18, false)]) 15 (.run [(1, false), (16, false), (17, true), (18, false)])))))))))))))))) [.blk b1 (.cells (sV k y (A, cap) len) 24 (0, 0))] mixd ?q1 ?q2 ?_); (case q1 => kernel_rfl); (case q2 => (repeat (first | exact List.nil_sublist _ | refine List.Sublist.cons_cons _ ?_ | refine List.Sublist.cons _ ?_)))))
      | (((refine' T.draw (id := 7) [(0, true), (1, true), (2, true), (3, true), (4, true), (5, true), (6, true), (9, true), (7, false), (8, false), (10, false), (11, false), (12, false)] [.blk b3 (.cells (sV k y (A1, c1) len) 30 (0, 0)), .blk b1 (.cells (sV k y (A, cap) len) 24 (0, 0))] mixd ?q1 ?q2 ?_); (case q1 => kernel_rfl); (case q2 => (repeat (first | exact List.nil_sublist _ | refine List.Sublist.cons_cons _ ?_ | refine List.Sublist.cons _ ?_)))))
      | (((refine' T.draw (id := 5) [(1, true), (2, true), (3, true), (4, true), (5, true), (6, true), (7, true), (8, true), (9, true), (0, false), (10, false), (11, false), (12, true), (13, true), (14, false), (15, false)] [] mixd ?q1 ?q2 ?_); (case q1 => kernel_rfl); (case q2 => (repeat (first | exact List.nil_sublist _ | refine List.Sublist.cons_cons _ ?_ | refine List.Sublist.cons _ ?_)))))))
      | refine w1 ?_
      | (refine w2 ?_ ?_ <;> intro hc)
      | (first | refine ⟨_, Yl_eqlA rfl rfl (eqg_of rfl) (eqP_t _ _ rfl).run, ?_⟩)
      | (refine w4 ?_; (first | ((fail_if_success have := b1); intro b1) | ((fail_if_success have := b2); intro b2) | ((fail_if_success have := b3); intro b3) | intro _))
      | (refine w5 ?_; (first | ((fail_if_success have := A1); intro A1 c1) | ((fail_if_success have := A2); intro A2 c2) | intro _ _))
      | refine w3 ?_ ?_
      | fail_if_success skip)
  refine T.loop (α := Nat × Option Addr × Nat) (fun z => [(1, .pointer (some ⟨b1, 0, none⟩)), (2, .pointer (some ⟨b2, 0, none⟩)), (3, .pointer (some ⟨b3, 0, none⟩)), (4, .int .i64 (z.1 : Int))]) (fun z => [.blk b3 (.cells (sV k y z.2 z.1) 30 (0, 0)), .blk b2 (.cells (sV 0 0 (none, 0) 0) 30 (0, 0)), .blk b1 (.cells (sV k y (A, cap) len) 24 (0, 0)), .row 57 2 (.slice z.2.1 z.1 z.2.2) z.1 ((l.take z.1).flatMap pE)]) (fun z => z.1 ≤ len) (fun z => len - z.1) (0, none, 0) ?_ ?_ ?_ ?_
  · (repeat (first | exact Sub.nil | refine Sub.cons rfl ?_))
  · (repeat (first | exact List.nil_sublist _ | refine List.Sublist.cons_cons _ ?_ | refine List.Sublist.cons _ ?_))
  · exact Nat.zero_le _
  · rintro ⟨i, A1, c1⟩ hi
    dsimp only at hi ⊢
    by_cases hlt : i < len
    · obtain ⟨x, hx⟩ := some_of_lt (l := l) (i := i) (by omega)
      have e0 := enc_at pE_len hx (j := 0) (by decide)
      have e1 := enc_at pE_len hx (j := 1) (by decide)
      have oX := pE_one (x.1, x.2)
      repeat' (first
          | ((with_reducible refine is_idx ?_); (first | ((refine' ⟨_, Yl_index rfl rfl ?q1 ?q2 ?q3 (Rd.some_ hr ?q4), ?_⟩); (case q1 => exact und_of rfl); (case q2 => exact siz_of rfl); (case q3 => exact Nat.lt_succ_self _); (case q4 => omega))))
          | ((with_reducible refine is_build ?_); (first | refine ⟨_, Yl_build rfl (p_build2 _ _), ?_⟩ | refine ⟨_, Yl_build rfl (p_build1 _), ?_⟩ | refine ⟨_, Yl_build rfl (s_build3 _ _ _ _ _), ?_⟩ | refine ⟨_, Yl_build rfl (s_build2 _ _), ?_⟩))
          | ((with_reducible refine ie_store ?_); (first | ((refine' Ef_storeC (C' := sV k y (A2, c2) (i + 1)) rfl rfl ?q1 ?q2 ?q3 ?q4 ?q5 ?_); (case q1 => rfl); (case q2 => exact siz_of rfl); (case q3 => (first | exact at0 | exact at1 | exact at2 | exact at3 | exact at4 | exact at5 | exact at6)); (case q4 => exact Nat.le_of_ble_eq_true rfl); (case q5 => rfl))))
          | (first | ((with_reducible refine ie_app ?_); (((refine' Ef_appC_row rfl rfl rfl ?q1 ?q2 ?q3 ?q4 ?q5 ?q6 ?_); (case q1 => exact app_of rfl); (case q2 => (first | exact at0 | exact at1 | exact at2 | exact at3 | exact at4 | exact at5 | exact at6)); (case q3 => (repeat (first | exact .head _ | apply List.Mem.tail))); (case q4 => (first | assumption | (intro u hu; rcases hu with _ | ⟨_, _ | ⟨_, _ | ⟨_, _ | ⟨_, hu⟩⟩⟩⟩ <;> first | rfl | (cases hu; done)))); (case q5 => omega); (case q6 => omega))); intro A2 c2 hcap))
          | ((with_reducible refine g_draw ?_); (first
          | (((refine' T.drawB (id := 5) (.y 0 (.y 2 (.y 3 (.y 4 (.y 5 (.y 6 (.y 7 (.y 8 (.y 9 (.y 10 (.y 11 (.y 12 (.y 13 (.y 14 (.b 1 (.run [(15, false), (16, false), (17, true), (18, false)]) 15 (.run [(1, false), (16, false), (17, true), (18, false)])))))))))))))))) [.blk b1 (.cells (sV k y (A, cap) len) 24 (0, 0))] mixd ?q1 ?q2 ?_); (case q1 => kernel_rfl); (case q2 => (repeat (first | exact List.nil_sublist _ | refine List.Sublist.cons_cons _ ?_ | refine List.Sublist.cons _ ?_)))))
          | (((refine' T.draw (id := 7) [(0, true), (1, true), (2, true), (3, true), (4, true), (5, true), (6, true), (9, true), (7, false), (8, false), (10, false), (11, false), (12, false)] [.blk b3 (.cells (sV k y (A1, c1) len) 30 (0, 0)), .blk b1 (.cells (sV k y (A, cap) len) 24 (0, 0))] mixd ?q1 ?q2 ?_); (case q1 => kernel_rfl); (case q2 => (repeat (first | exact List.nil_sublist _ | refine List.Sublist.cons_cons _ ?_ | refine List.Sublist.cons _ ?_)))))
          | (((refine' T.draw (id := 5) [(1, true), (2, true), (3, true), (4, true), (5, true), (6, true), (7, true), (8, true), (9, true), (0, false), (10, false), (11, false), (12, true), (13, true), (14, false), (15, false)] [] mixd ?q1 ?q2 ?_); (case q1 => kernel_rfl); (case q2 => (repeat (first | exact List.nil_sublist _ | refine List.Sublist.cons_cons _ ?_ | refine List.Sublist.cons _ ?_)))))))
          | refine w1 ?_
          | (refine w2 ?_ ?_ <;> intro hc)
          | (first | refine ⟨_, Yl_eqlA rfl rfl (eqg_of rfl) (eqP_t _ _ rfl).run, ?_⟩)
          | (refine w4 ?_; (first | ((fail_if_success have := b1); intro b1) | ((fail_if_success have := b2); intro b2) | ((fail_if_success have := b3); intro b3) | intro _))
          | (refine w5 ?_; (first | ((fail_if_success have := A1); intro A1 c1) | ((fail_if_success have := A2); intro A2 c2) | intro _ _))
          | refine w3 ?_ ?_
          | fail_if_success skip)
      all_goals
        refine loopQ_n (i + 1, A2, c2) ?_ ?_ (show i + 1 ≤ len by omega) (show len - (i + 1) < len - i by omega)
        · (repeat (first | exact Sub.nil | refine Sub.cons rfl ?_))
        · rw [take_snoc hx, pE_snoc]
          (repeat (first | exact List.nil_sublist _ | refine List.Sublist.cons_cons _ ?_ | refine List.Sublist.cons _ ?_))
    · obtain rfl : len = i := by omega
      rw [List.take_of_length_le (by omega)]
      have oT := pE_one (⟨#[126]⟩, Ks.e)
      repeat' (first
          | ((with_reducible refine is_idx ?_); (first | ((refine' ⟨_, Yl_index rfl rfl ?q1 ?q2 ?q3 (Rd.some_ hr ?q4), ?_⟩); (case q1 => exact und_of rfl); (case q2 => exact siz_of rfl); (case q3 => exact Nat.lt_succ_self _); (case q4 => omega))))
          | ((with_reducible refine is_build ?_); (first | refine ⟨_, Yl_build rfl (p_build2 _ _), ?_⟩ | refine ⟨_, Yl_build rfl (p_build1 _), ?_⟩ | refine ⟨_, Yl_build rfl (s_build3 _ _ _ _ _), ?_⟩ | refine ⟨_, Yl_build rfl (s_build2 _ _), ?_⟩))
          | ((with_reducible refine ie_store ?_); (first | ((refine' Ef_storeC (C' := sV k y (A2, c2) (i + 1)) rfl rfl ?q1 ?q2 ?q3 ?q4 ?q5 ?_); (case q1 => rfl); (case q2 => exact siz_of rfl); (case q3 => (first | exact at0 | exact at1 | exact at2 | exact at3 | exact at4 | exact at5 | exact at6)); (case q4 => exact Nat.le_of_ble_eq_true rfl); (case q5 => rfl))))
          | (first | ((with_reducible refine ie_app ?_); (((refine' Ef_appC_row rfl rfl rfl ?q1 ?q2 ?q3 ?q4 ?q5 ?q6 ?_); (case q1 => exact app_of rfl); (case q2 => (first | exact at0 | exact at1 | exact at2 | exact at3 | exact at4 | exact at5 | exact at6)); (case q3 => (repeat (first | exact .head _ | apply List.Mem.tail))); (case q4 => (first | assumption | (intro u hu; rcases hu with _ | ⟨_, _ | ⟨_, _ | ⟨_, _ | ⟨_, hu⟩⟩⟩⟩ <;> first | rfl | (cases hu; done)))); (case q5 => omega); (case q6 => omega))); intro A2 c2 hcap))
          | ((with_reducible refine g_draw ?_); (first
          | (((refine' T.drawB (id := 5) (.y 0 (.y 2 (.y 3 (.y 4 (.y 5 (.y 6 (.y 7 (.y 8 (.y 9 (.y 10 (.y 11 (.y 12 (.y 13 (.y 14 (.b 1 (.run [(15, false), (16, false), (17, true), (18, false)]) 15 (.run [(1, false), (16, false), (17, true), (18, false)])))))))))))))))) [.blk b1 (.cells (sV k y (A, cap) len) 24 (0, 0))] mixd ?q1 ?q2 ?_); (case q1 => kernel_rfl); (case q2 => (repeat (first | exact List.nil_sublist _ | refine List.Sublist.cons_cons _ ?_ | refine List.Sublist.cons _ ?_)))))
          | (((refine' T.draw (id := 7) [(0, true), (1, true), (2, true), (3, true), (4, true), (5, true), (6, true), (9, true), (7, false), (8, false), (10, false), (11, false), (12, false)] [.blk b3 (.cells (sV k y (A1, c1) len) 30 (0, 0)), .blk b1 (.cells (sV k y (A, cap) len) 24 (0, 0))] mixd ?q1 ?q2 ?_); (case q1 => kernel_rfl); (case q2 => (repeat (first | exact List.nil_sublist _ | refine List.Sublist.cons_cons _ ?_ | refine List.Sublist.cons _ ?_)))))
          | (((refine' T.draw (id := 5) [(1, true), (2, true), (3, true), (4, true), (5, true), (6, true), (7, true), (8, true), (9, true), (0, false), (10, false), (11, false), (12, true), (13, true), (14, false), (15, false)] [] mixd ?q1 ?q2 ?_); (case q1 => kernel_rfl); (case q2 => (repeat (first | exact List.nil_sublist _ | refine List.Sublist.cons_cons _ ?_ | refine List.Sublist.cons _ ?_)))))))
          | refine w1 ?_
          | (refine w2 ?_ ?_ <;> intro hc)
          | (first | refine ⟨_, Yl_eqlA rfl rfl (eqg_of rfl) (eqP_t _ _ rfl).run, ?_⟩)
          | (refine w4 ?_; (first | ((fail_if_success have := b1); intro b1) | ((fail_if_success have := b2); intro b2) | ((fail_if_success have := b3); intro b3) | intro _))
          | (refine w5 ?_; (first | ((fail_if_success have := A1); intro A1 c1) | ((fail_if_success have := A2); intro A2 c2) | intro _ _))
          | refine w3 ?_ ?_
          | fail_if_success skip)
      exact ret_n [rT l (A2, c2)] (resC rfl rfl (by (repeat (first | exact .head _ | apply List.Mem.tail))) (agg_of rfl)) (by unfold rT; rw [pE_snoc, hl]; (repeat (first | exact List.nil_sublist _ | refine List.Sublist.cons_cons _ ?_ | refine List.Sublist.cons _ ?_))) ⟨(A2, c2), rfl, rfl⟩
end

section
variable (A : Option Addr) (len cap : Nat) (l : List Pr) (B : Option Addr) (capb : Nat) (w : World) (hr : Rd w A len 2 (l.flatMap pE)) (hB : Rd w B len 2 (l.flatMap pE)) (hl : l.length = len) (hle : len ≤ 9223372036854775807)
include hr hB hl hle
set_option maxHeartbeats 2000000 in
/-- Spaces with the same pairs. -/
theorem is_v (k y : Int) : Sp Try.prog 18 [.agg (sV k y (A, cap) len), .agg (sV k y (B, capb) len)] w [] fun v N => v = .bool true ∧ N = [] := by
  refine Sp.enter (n := 62) Try.func18 rfl rfl rfl (Hp.refl w) ?_
  repeat' (first
      | ((with_reducible refine is_idx ?_); (first | ((refine' ⟨_, Yl_index rfl rfl ?q1 ?q2 ?q3 (Rd.some_ hr ?q4), ?_⟩); (case q1 => exact und_of rfl); (case q2 => exact siz_of rfl); (case q3 => exact Nat.lt_succ_self _); (case q4 => omega))))
      | (first | ((with_reducible refine ie_app ?_); (((refine' Ef_appC_row rfl rfl rfl ?q1 ?q2 ?q3 ?q4 ?q5 ?q6 ?_); (case q1 => exact app_of rfl); (case q2 => (first | exact at0 | exact at1 | exact at2 | exact at3 | exact at4 | exact at5 | exact at6)); (case q3 => (repeat (first | exact .head _ | apply List.Mem.tail))); (case q4 => (first | assumption | (intro u hu; rcases hu with _ | ⟨_, _ | ⟨_, _ | ⟨_, _ | ⟨_, hu⟩⟩⟩⟩ <;> first | rfl | (cases hu; done)))); (case q5 => omega); (case q6 => omega))); intro A2 c2 hcap))
      | ((with_reducible refine g_draw ?_); (first
      | (((refine' T.drawB (id := 5) (.y 0 (.y 2 (.y 3 (.y 4 (.y 5 (.y 6 (.y 7 (.y 8 (.y 9 (.y 10 (.y 11 (.y 12 (.y 13 (.y 14 (.b 1 (.run [(15, false), (16, false), (17, true), (18, false)]) 15 (.run [(1, false), (16, false), (17, true), (18, false)])))))))))))))))) [.blk b1 (.cells (sV k y (A, cap) len) 24 (0, 0))] mixd ?q1 ?q2 ?_); (case q1 => kernel_rfl); (case q2 => (repeat (first | exact List.nil_sublist _ | refine List.Sublist.cons_cons _ ?_ | refine List.Sublist.cons _ ?_)))))
      | (((refine' T.draw (id := 7) [(0, true), (1, true), (2, true), (3, true), (4, true), (5, true), (6, true), (9, true), (7, false), (8, false), (10, false), (11, false), (12, false)] [.blk b3 (.cells (sV k y (A1, c1) len) 30 (0, 0)), .blk b1 (.cells (sV k y (A, cap) len) 24 (0, 0))] mixd ?q1 ?q2 ?_); (case q1 => kernel_rfl); (case q2 => (repeat (first | exact List.nil_sublist _ | refine List.Sublist.cons_cons _ ?_ | refine List.Sublist.cons _ ?_)))))
      | (((refine' T.draw (id := 5) [(1, true), (2, true), (3, true), (4, true), (5, true), (6, true), (7, true), (8, true), (9, true), (0, false), (10, false), (11, false), (12, true), (13, true), (14, false), (15, false)] [] mixd ?q1 ?q2 ?_); (case q1 => kernel_rfl); (case q2 => (repeat (first | exact List.nil_sublist _ | refine List.Sublist.cons_cons _ ?_ | refine List.Sublist.cons _ ?_)))))
      | (((with_reducible refine' T.drawM (id := 6) [(0, true), (1, true), (2, true), (3, true), (4, true), (5, true), (6, true), (7, true), (8, false), (9, false), (10, false), (11, false), (12, false), (13, false), (14, true), (15, true), (16, true), (17, true), (18, true), (19, true), (20, true), (21, true), (22, false), (23, false), (24, false), (25, false), (26, false), (27, false)] mixd ?q1 ?_); (case q1 => kernel_rfl)))))
      | refine w1 ?_
      | (refine w2 ?_ ?_ <;> intro hc)
      | (first | refine ⟨_, Yl_eqlA rfl rfl (eqg_of rfl) (eqP_t _ _ rfl).run, ?_⟩)
      | (refine w4 ?_; (first | ((fail_if_success have := b1); intro b1) | ((fail_if_success have := b2); intro b2) | ((fail_if_success have := b3); intro b3) | intro _))
      | (refine w5 ?_; (first | ((fail_if_success have := A1); intro A1 c1) | ((fail_if_success have := A2); intro A2 c2) | intro _ _))
      | refine w3 ?_ ?_
      | fail_if_success skip)
  refine T.loop (α := Nat) (fun i => [(2, .pointer (some ⟨b1, 0, none⟩)), (3, .pointer (some ⟨b2, 0, none⟩)), (5, .int .i64 (i : Int))]) (fun _ => [.blk b2 (.cells (sV k y (B, capb) len) 24 (0, 0)), .blk b1 (.cells (sV k y (A, cap) len) 30 (0, 0))]) (fun i => i ≤ len) (fun i => len - i) 0 ?_ ?_ ?_ ?_
  · (repeat (first | exact Sub.nil | refine Sub.cons rfl ?_))
  · (repeat (first | exact List.nil_sublist _ | refine List.Sublist.cons_cons _ ?_ | refine List.Sublist.cons _ ?_))
  · exact Nat.zero_le _
  · rintro i hi
    by_cases hlt : i < len
    · obtain ⟨x, hx⟩ := some_of_lt (l := l) (i := i) (by omega)
      have e0 := enc_at pE_len hx (j := 0) (by decide)
      have e1 := enc_at pE_len hx (j := 1) (by decide)
      repeat' (first
          | ((with_reducible refine is_idx ?_); (first | ((refine' ⟨_, Yl_index rfl rfl ?q1 ?q2 ?q3 (Rd.some_ hr ?q4), ?_⟩); (case q1 => exact und_of rfl); (case q2 => exact siz_of rfl); (case q3 => exact Nat.lt_succ_self _); (case q4 => omega))))
          | (first | ((with_reducible refine ie_app ?_); (((refine' Ef_appC_row rfl rfl rfl ?q1 ?q2 ?q3 ?q4 ?q5 ?q6 ?_); (case q1 => exact app_of rfl); (case q2 => (first | exact at0 | exact at1 | exact at2 | exact at3 | exact at4 | exact at5 | exact at6)); (case q3 => (repeat (first | exact .head _ | apply List.Mem.tail))); (case q4 => (first | assumption | (intro u hu; rcases hu with _ | ⟨_, _ | ⟨_, _ | ⟨_, _ | ⟨_, hu⟩⟩⟩⟩ <;> first | rfl | (cases hu; done)))); (case q5 => omega); (case q6 => omega))); intro A2 c2 hcap))
          | ((with_reducible refine g_draw ?_); (first
          | (((refine' T.drawB (id := 5) (.y 0 (.y 2 (.y 3 (.y 4 (.y 5 (.y 6 (.y 7 (.y 8 (.y 9 (.y 10 (.y 11 (.y 12 (.y 13 (.y 14 (.b 1 (.run [(15, false), (16, false), (17, true), (18, false)]) 15 (.run [(1, false), (16, false), (17, true), (18, false)])))))))))))))))) [.blk b1 (.cells (sV k y (A, cap) len) 24 (0, 0))] mixd ?q1 ?q2 ?_); (case q1 => kernel_rfl); (case q2 => (repeat (first | exact List.nil_sublist _ | refine List.Sublist.cons_cons _ ?_ | refine List.Sublist.cons _ ?_)))))
          | (((refine' T.draw (id := 7) [(0, true), (1, true), (2, true), (3, true), (4, true), (5, true), (6, true), (9, true), (7, false), (8, false), (10, false), (11, false), (12, false)] [.blk b3 (.cells (sV k y (A1, c1) len) 30 (0, 0)), .blk b1 (.cells (sV k y (A, cap) len) 24 (0, 0))] mixd ?q1 ?q2 ?_); (case q1 => kernel_rfl); (case q2 => (repeat (first | exact List.nil_sublist _ | refine List.Sublist.cons_cons _ ?_ | refine List.Sublist.cons _ ?_)))))
          | (((refine' T.draw (id := 5) [(1, true), (2, true), (3, true), (4, true), (5, true), (6, true), (7, true), (8, true), (9, true), (0, false), (10, false), (11, false), (12, true), (13, true), (14, false), (15, false)] [] mixd ?q1 ?q2 ?_); (case q1 => kernel_rfl); (case q2 => (repeat (first | exact List.nil_sublist _ | refine List.Sublist.cons_cons _ ?_ | refine List.Sublist.cons _ ?_)))))
          | (((with_reducible refine' T.drawM (id := 6) [(0, true), (1, true), (2, true), (3, true), (4, true), (5, true), (6, true), (7, true), (8, false), (9, false), (10, false), (11, false), (12, false), (13, false), (14, true), (15, true), (16, true), (17, true), (18, true), (19, true), (20, true), (21, true), (22, false), (23, false), (24, false), (25, false), (26, false), (27, false)] mixd ?q1 ?_); (case q1 => kernel_rfl)))))
          | refine w1 ?_
          | (refine w2 ?_ ?_ <;> intro hc)
          | (first | refine ⟨_, Yl_eqlA rfl rfl (eqg_of rfl) (eqP_t _ _ rfl).run, ?_⟩)
          | (refine w4 ?_; (first | ((fail_if_success have := b1); intro b1) | ((fail_if_success have := b2); intro b2) | ((fail_if_success have := b3); intro b3) | intro _))
          | (refine w5 ?_; (first | ((fail_if_success have := A1); intro A1 c1) | ((fail_if_success have := A2); intro A2 c2) | intro _ _))
          | refine w3 ?_ ?_
          | fail_if_success skip)
      refine loopQ_n (i + 1) ?_ ?_ (by (first | omega | (dsimp only; omega) | (simp; omega))) (by (first | omega | (dsimp only; omega) | (simp; omega)))
      · (repeat (first | exact Sub.nil | refine Sub.cons rfl ?_))
      · (repeat (first | exact List.nil_sublist _ | refine List.Sublist.cons_cons _ ?_ | refine List.Sublist.cons _ ?_))
    · repeat' (first
        | ((with_reducible refine is_idx ?_); (first | ((refine' ⟨_, Yl_index rfl rfl ?q1 ?q2 ?q3 (Rd.some_ hr ?q4), ?_⟩); (case q1 => exact und_of rfl); (case q2 => exact siz_of rfl); (case q3 => exact Nat.lt_succ_self _); (case q4 => omega))))
        | (first | ((with_reducible refine ie_app ?_); (((refine' Ef_appC_row rfl rfl rfl ?q1 ?q2 ?q3 ?q4 ?q5 ?q6 ?_); (case q1 => exact app_of rfl); (case q2 => (first | exact at0 | exact at1 | exact at2 | exact at3 | exact at4 | exact at5 | exact at6)); (case q3 => (repeat (first | exact .head _ | apply List.Mem.tail))); (case q4 => (first | assumption | (intro u hu; rcases hu with _ | ⟨_, _ | ⟨_, _ | ⟨_, _ | ⟨_, hu⟩⟩⟩⟩ <;> first | rfl | (cases hu; done)))); (case q5 => omega); (case q6 => omega))); intro A2 c2 hcap))
        | ((with_reducible refine g_draw ?_); (first
        | (((refine' T.drawB (id := 5) (.y 0 (.y 2 (.y 3 (.y 4 (.y 5 (.y 6 (.y 7 (.y 8 (.y 9 (.y 10 (.y 11 (.y 12 (.y 13 (.y 14 (.b 1 (.run [(15, false), (16, false), (17, true), (18, false)]) 15 (.run [(1, false), (16, false), (17, true), (18, false)])))))))))))))))) [.blk b1 (.cells (sV k y (A, cap) len) 24 (0, 0))] mixd ?q1 ?q2 ?_); (case q1 => kernel_rfl); (case q2 => (repeat (first | exact List.nil_sublist _ | refine List.Sublist.cons_cons _ ?_ | refine List.Sublist.cons _ ?_)))))
        | (((refine' T.draw (id := 7) [(0, true), (1, true), (2, true), (3, true), (4, true), (5, true), (6, true), (9, true), (7, false), (8, false), (10, false), (11, false), (12, false)] [.blk b3 (.cells (sV k y (A1, c1) len) 30 (0, 0)), .blk b1 (.cells (sV k y (A, cap) len) 24 (0, 0))] mixd ?q1 ?q2 ?_); (case q1 => kernel_rfl); (case q2 => (repeat (first | exact List.nil_sublist _ | refine List.Sublist.cons_cons _ ?_ | refine List.Sublist.cons _ ?_)))))
        | (((refine' T.draw (id := 5) [(1, true), (2, true), (3, true), (4, true), (5, true), (6, true), (7, true), (8, true), (9, true), (0, false), (10, false), (11, false), (12, true), (13, true), (14, false), (15, false)] [] mixd ?q1 ?q2 ?_); (case q1 => kernel_rfl); (case q2 => (repeat (first | exact List.nil_sublist _ | refine List.Sublist.cons_cons _ ?_ | refine List.Sublist.cons _ ?_)))))
        | (((with_reducible refine' T.drawM (id := 6) [(0, true), (1, true), (2, true), (3, true), (4, true), (5, true), (6, true), (7, true), (8, false), (9, false), (10, false), (11, false), (12, false), (13, false), (14, true), (15, true), (16, true), (17, true), (18, true), (19, true), (20, true), (21, true), (22, false), (23, false), (24, false), (25, false), (26, false), (27, false)] mixd ?q1 ?_); (case q1 => kernel_rfl)))))
        | refine w1 ?_
        | (refine w2 ?_ ?_ <;> intro hc)
        | (first | refine ⟨_, Yl_eqlA rfl rfl (eqg_of rfl) (eqP_t _ _ rfl).run, ?_⟩)
        | (refine w4 ?_; (first | ((fail_if_success have := b1); intro b1) | ((fail_if_success have := b2); intro b2) | ((fail_if_success have := b3); intro b3) | intro _))
        | (refine w5 ?_; (first | ((fail_if_success have := A1); intro A1 c1) | ((fail_if_success have := A2); intro A2 c2) | intro _ _))
        | refine w3 ?_ ?_
        | fail_if_success skip)
      exact ret_n [] (res1 rfl rfl) (List.nil_sublist _) ⟨rfl, rfl⟩
end

section
variable (A : Option Addr) (cap : Nat) (l : List Pr) (B : Option Addr) (capb : Nat) (w : World) (hr : Rd w A (l.length + 1) 2 ((l ++ [Ks.tl]).flatMap pE)) (hB : Rd w B l.length 2 (l.flatMap pE)) (hlc : l.length + 1 ≤ cap) (hle : l.length ≤ 1000000)
include hr hB hlc hle
set_option maxHeartbeats 2000000 in
theorem stays_v (k y : Int) : Sp Try.prog 19 [.agg (sV k y (A, cap) l.length), .agg (sV k y (B, capb) l.length)] w [] fun v N => v = .bool true ∧ N = [] := by
  have his := fun w h1 h2 => is_v A l.length cap l B capb w (rT_rd h1) h2 rfl (by omega) k y
  have hx : (l ++ [Ks.tl])[l.length]? = some Ks.tl := by simp
  have eA := enc_atA pE_len hx
  generalize hn : l.length = n at hr hB hlc hle his eA ⊢
  refine Sp.enter (n := 26) Try.func19 rfl rfl rfl (Hp.refl w) ?_
  repeat' (first
      | ((with_reducible refine is_idx ?_); (first | ((refine' ⟨_, Yl_index rfl rfl ?q1 ?q2 ?q3 (Rd.some_ hr ?q4), ?_⟩); (case q1 => exact und_of rfl); (case q2 => exact siz_of rfl); (case q3 => exact Nat.lt_succ_self _); (case q4 => omega))))
      | ((with_reducible refine is_build ?_); (first | refine ⟨_, Yl_build rfl (p_build2 _ _), ?_⟩ | refine ⟨_, Yl_build rfl (p_build1 _), ?_⟩ | refine ⟨_, Yl_build rfl (s_build3 _ _ _ _ _), ?_⟩ | refine ⟨_, Yl_build rfl (s_build2 _ _), ?_⟩))
      | ((with_reducible refine ie_callf ?_); (first | ((with_reducible refine g_call 18 ?_); (first | refine Ef_callP rfl rfl ent_18 (fun w hp => his w (hp.rd hr fun _ => List.not_mem_nil) (hp.rd hB fun _ => List.not_mem_nil)) ?_))))
      | (first | ((with_reducible refine ie_app ?_); (((refine' Ef_appC_row rfl rfl rfl ?q1 ?q2 ?q3 ?q4 ?q5 ?q6 ?_); (case q1 => exact app_of rfl); (case q2 => (first | exact at0 | exact at1 | exact at2 | exact at3 | exact at4 | exact at5 | exact at6)); (case q3 => (repeat (first | exact .head _ | apply List.Mem.tail))); (case q4 => (first | assumption | (intro u hu; rcases hu with _ | ⟨_, _ | ⟨_, _ | ⟨_, _ | ⟨_, hu⟩⟩⟩⟩ <;> first | rfl | (cases hu; done)))); (case q5 => omega); (case q6 => omega))); intro A2 c2 hcap))
      | ((with_reducible refine g_draw ?_); (first
      | (((refine' T.drawB (id := 5) (.y 0 (.y 2 (.y 3 (.y 4 (.y 5 (.y 6 (.y 7 (.y 8 (.y 9 (.y 10 (.y 11 (.y 12 (.y 13 (.y 14 (.b 1 (.run [(15, false), (16, false), (17, true), (18, false)]) 15 (.run [(1, false), (16, false), (17, true), (18, false)])))))))))))))))) [.blk b1 (.cells (sV k y (A, cap) len) 24 (0, 0))] mixd ?q1 ?q2 ?_); (case q1 => kernel_rfl); (case q2 => (repeat (first | exact List.nil_sublist _ | refine List.Sublist.cons_cons _ ?_ | refine List.Sublist.cons _ ?_)))))
      | (((refine' T.draw (id := 7) [(0, true), (1, true), (2, true), (3, true), (4, true), (5, true), (6, true), (9, true), (7, false), (8, false), (10, false), (11, false), (12, false)] [.blk b3 (.cells (sV k y (A1, c1) len) 30 (0, 0)), .blk b1 (.cells (sV k y (A, cap) len) 24 (0, 0))] mixd ?q1 ?q2 ?_); (case q1 => kernel_rfl); (case q2 => (repeat (first | exact List.nil_sublist _ | refine List.Sublist.cons_cons _ ?_ | refine List.Sublist.cons _ ?_)))))
      | (((refine' T.draw (id := 5) [(1, true), (2, true), (3, true), (4, true), (5, true), (6, true), (7, true), (8, true), (9, true), (0, false), (10, false), (11, false), (12, true), (13, true), (14, false), (15, false)] [] mixd ?q1 ?q2 ?_); (case q1 => kernel_rfl); (case q2 => (repeat (first | exact List.nil_sublist _ | refine List.Sublist.cons_cons _ ?_ | refine List.Sublist.cons _ ?_)))))))
      | refine w1 ?_
      | (refine w2 ?_ ?_ <;> intro hc)
      | (first | refine ⟨_, Yl_eqlA rfl rfl (eqg_of rfl) (eqP_t _ _ rfl).run, ?_⟩)
      | (refine w4 ?_; (first | ((fail_if_success have := b1); intro b1) | ((fail_if_success have := b2); intro b2) | ((fail_if_success have := b3); intro b3) | intro _))
      | (refine w5 ?_; (first | ((fail_if_success have := A1); intro A1 c1) | ((fail_if_success have := A2); intro A2 c2) | intro _ _))
      | refine w3 ?_ ?_
      | fail_if_success skip)
  exact ret_n [] (res1 rfl rfl) (List.nil_sublist _) ⟨rfl, rfl⟩
end

/-- Pairs that are put, one behind the other, as long as that may be. -/
def Ks.putsR (l : List Pr) : Int × Int × List Pr × Int := l.foldl (fun s p => if s.2.2.2 = 0 then Ks.putR s.1 s.2.1 s.2.2.1 p.1 p.2 else s) (2, 10, [], 0)
theorem Ks.puts_step {l : List Pr} {j : Nat} {x : Pr} (hx : l[j]? = some x) (h : (Ks.putsR (l.take j)).2.2.2 = 0) : Ks.putsR (l.take (j + 1)) = Ks.putR (Ks.putsR (l.take j)).1 (Ks.putsR (l.take j)).2.1 (Ks.putsR (l.take j)).2.2.1 x.1 x.2 := by
  rw [take_snoc hx]
  unfold Ks.putsR at h ⊢
  rw [List.foldl_append, List.foldl_cons, List.foldl_nil, if_pos h]
theorem Ks.puts_stuck {l : List Pr} {j : Nat} (h : ¬ (Ks.putsR (l.take j)).2.2.2 = 0) : Ks.putsR l = Ks.putsR (l.take j) := by
  have hs : ∀ (m : List Pr) (s : Int × Int × List Pr × Int), ¬ s.2.2.2 = 0 → m.foldl (fun s p => if s.2.2.2 = 0 then Ks.putR s.1 s.2.1 s.2.2.1 p.1 p.2 else s) s = s := by
    intro m
    induction m with
    | nil => exact fun _ _ => rfl
    | cons a t ih => exact fun s hs => by rw [List.foldl_cons, if_neg hs]; exact ih s hs
  conv => lhs; rw [← List.take_append_drop j l]
  unfold Ks.putsR at h ⊢
  rw [List.foldl_append]
  exact hs _ _ h

theorem pE_at (ps : List Pr) {j : Nat} {x : Pr} (hx : ps[j]? = some x) : (ps.flatMap pE)[2 * j * 1]? = some (.string x.1) ∧ (ps.flatMap pE)[(((2 * j : Nat) : Int) + 1).toNat * 1]? = some (.string x.2) := by
  have e0 := enc_at pE_len hx (j := 0) (by decide)
  have e1 := enc_at pE_len hx (j := 1) (by decide)
  refine ⟨?_, ?_⟩
  · rw [show 2 * j * 1 = j * 2 + 0 by omega]; exact e0
  · rw [show (((2 * j : Nat) : Int) + 1).toNat * 1 = j * 2 + 1 by omega]; exact e1

section
variable (A : Option Addr) (cap : Nat) (ps : List Pr) (n : Nat) (w : World) (hr : Rd w A (2 * n) 1 (ps.flatMap pE)) (hn : ps.length = n) (hn3 : n ≤ 3) (hb : ∀ j, j ≤ n → (Ks.putsR (ps.take j)).2.2.1.length ≤ 64)
include hr hn hn3 hb
set_option maxHeartbeats 4000000 in
theorem mk_c : Sp Try.prog 34 [.slice A (2 * n) cap] w [] fun v N => ∃ z : Option Addr × Nat, v = .tuple #[.agg (sV (Ks.putsR ps).1 (Ks.putsR ps).2.1 z (Ks.putsR ps).2.2.1.length), .int .i64 (Ks.putsR ps).2.2.2] ∧ N = [rP (Ks.putsR ps).2.2.1 z] := by
  have hnw : ∀ w, Sp Try.prog 15 [.int .i64 2, .int .i64 10] w [] fun v N => v = .tuple #[.agg (sV 2 10 (none, 0) 0), .int .i64 0] ∧ N = [] := fun w => new_c 2 10 w
  have hst := fun j x h1 h2 => Ks.puts_step (l := ps) (j := j) (x := x) h1 h2
  have hsk := fun j h => Ks.puts_stuck (l := ps) (j := j) h
  have hen : Ks.putsR ps = Ks.putsR (ps.take n) := by rw [List.take_of_length_le (by omega)]
  have hu0 : Ks.putsR (ps.take 0) = (2, 10, [], 0) := rfl
  rw [hen] at hsk ⊢
  generalize hu : (fun j => Ks.putsR (ps.take j)) = u
  have hu' : ∀ j, Ks.putsR (ps.take j) = u j := fun j => congrFun hu j
  simp only [hu'] at hb hst hsk hu0 ⊢
  clear hu hu' hen
  refine Sp.enter (n := 38) Try.func34 rfl rfl rfl (Hp.refl w) ?_
  refine T.row0e 57 2 ?_
  repeat' (first
      | ((with_reducible refine is_idx ?_); (first | ((refine' ⟨_, Yl_index rfl rfl ?q1 ?q2 ?q3 (Rd.some_ hr ?q4), ?_⟩); (case q1 => exact und_of rfl); (case q2 => exact siz_of rfl); (case q3 => exact Nat.lt_succ_self _); (case q4 => omega))))
      | ((with_reducible refine ie_store ?_); (first | ((refine' Ef_storeC (C' := sV k y (A2, c2) (i + 1)) rfl rfl ?q1 ?q2 ?q3 ?q4 ?q5 ?_); (case q1 => rfl); (case q2 => exact siz_of rfl); (case q3 => (first | exact at0 | exact at1 | exact at2 | exact at3 | exact at4 | exact at5 | exact at6)); (case q4 => exact Nat.le_of_ble_eq_true rfl); (case q5 => rfl))))
      | ((with_reducible refine ie_callf ?_); (first  | ((with_reducible refine g_call 15 ?_); (first | refine Ef_callP rfl rfl ent_15 (fun w _ => hnw w) ?_)) | ((with_reducible refine g_call 21 ?_); (first | (((refine' Ef_callN rfl rfl ent_21 (fun w hp => hpu A1 c1 w (hp.rowOf ?q1) (hp.capOf (A := A1) (m := (u j).2.2.1.length) (cap := c1) ?q2)) ?_); (case q1 => (repeat (first | exact .head _ | apply List.Mem.tail))); (case q2 => (repeat (first | exact .head _ | apply List.Mem.tail)))); rintro ⟨A2, c2⟩)))))
      | (first | ((with_reducible refine ie_app ?_); (((refine' Ef_appC_row rfl rfl rfl ?q1 ?q2 ?q3 ?q4 ?q5 ?q6 ?_); (case q1 => exact app_of rfl); (case q2 => (first | exact at0 | exact at1 | exact at2 | exact at3 | exact at4 | exact at5 | exact at6)); (case q3 => (repeat (first | exact .head _ | apply List.Mem.tail))); (case q4 => (first | assumption | (intro u hu; rcases hu with _ | ⟨_, _ | ⟨_, _ | ⟨_, _ | ⟨_, hu⟩⟩⟩⟩ <;> first | rfl | (cases hu; done)))); (case q5 => omega); (case q6 => omega))); intro A2 c2 hcap))
      | ((with_reducible refine g_draw ?_); (first
      | (((refine' T.drawB (id := 5) (.y 0 (.y 2 (.y 3 (.y 4 (.y 5 (.y 6 (.y 7 (.y 8 (.y 9 (.y 10 (.y 11 (.y 12 (.y 13 (.y 14 (.b 1 (.run [(15, false), (16, false), (17, true), (18, false)]) 15 (.run [(1, false), (16, false), (17, true), (18, false)])))))))))))))))) [.blk b1 (.cells (sV k y (A, cap) len) 24 (0, 0))] mixd ?q1 ?q2 ?_); (case q1 => kernel_rfl); (case q2 => (repeat (first | exact List.nil_sublist _ | refine List.Sublist.cons_cons _ ?_ | refine List.Sublist.cons _ ?_)))))
      | (((refine' T.draw (id := 7) [(0, true), (1, true), (2, true), (3, true), (4, true), (5, true), (6, true), (9, true), (7, false), (8, false), (10, false), (11, false), (12, false)] [.blk b3 (.cells (sV k y (A1, c1) len) 30 (0, 0)), .blk b1 (.cells (sV k y (A, cap) len) 24 (0, 0))] mixd ?q1 ?q2 ?_); (case q1 => kernel_rfl); (case q2 => (repeat (first | exact List.nil_sublist _ | refine List.Sublist.cons_cons _ ?_ | refine List.Sublist.cons _ ?_)))))
      | (((refine' T.draw (id := 5) [(1, true), (2, true), (3, true), (4, true), (5, true), (6, true), (7, true), (8, true), (9, true), (0, false), (10, false), (11, false), (12, true), (13, true), (14, false), (15, false)] [] mixd ?q1 ?q2 ?_); (case q1 => kernel_rfl); (case q2 => (repeat (first | exact List.nil_sublist _ | refine List.Sublist.cons_cons _ ?_ | refine List.Sublist.cons _ ?_)))))))
      | refine w1 ?_
      | (refine w2 ?_ ?_ <;> intro hc)
      | (first | refine ⟨_, Yl_eqlA rfl rfl (eqg_of rfl) (eqP_t _ _ rfl).run, ?_⟩)
      | (refine w4 ?_; (first | ((fail_if_success have := b1); intro b1) | ((fail_if_success have := b2); intro b2) | ((fail_if_success have := b3); intro b3) | intro _))
      | (refine w5 ?_; (first | ((fail_if_success have := A1); intro A1 c1) | ((fail_if_success have := A2); intro A2 c2) | intro _ _))
      | refine w3 ?_ ?_
      | fail_if_success skip)
  refine T.part (M' := [.row 57 2 (.slice none 0 0) 0 [], .blk b2 (.cells (sV 2 10 (none, 0) 0) 30 (0, 0)), .blk b1 (.cells (sV 0 0 (none, 0) 0) 30 (0, 0))]) (by (repeat (first | exact Part.nil | refine Part.p0 ?_ | refine Part.p1 ?_ | refine Part.p2 ?_ | refine Part.p3 ?_ | refine Part.p4 ?_ | refine Part.p5 ?_ | refine Part.p6 ?_))) ?_
  refine T.loop (α := Nat × Option Addr × Nat) (fun z => [(0, .slice A (2 * n) cap), (2, .pointer (some ⟨b1, 0, none⟩)), (4, .pointer (some ⟨b2, 0, none⟩)), (5, .int .i64 (u z.1).2.2.2), (6, .int .i64 ((2 * z.1 : Nat) : Int))]) (fun z => [.row 57 2 (.slice z.2.1 (u z.1).2.2.1.length z.2.2) (u z.1).2.2.1.length ((u z.1).2.2.1.flatMap pE), .blk b2 (.cells (sV (u z.1).1 (u z.1).2.1 z.2 (u z.1).2.2.1.length) 30 (0, 0)), .blk b1 (.cells (sV 0 0 (none, 0) 0) 30 (0, 0))]) (fun z => z.1 ≤ n) (fun z => n - z.1) (0, none, 0) ?_ ?_ ?_ ?_
  · rw [hu0]; (repeat (first | exact Sub.nil | refine Sub.cons rfl ?_))
  · rw [hu0]; (repeat (first | exact List.nil_sublist _ | refine List.Sublist.cons_cons _ ?_ | refine List.Sublist.cons _ ?_))
  · exact Nat.zero_le _
  · rintro ⟨j, A1, c1⟩ hj
    dsimp only at hj ⊢
    have hbj := hb j hj
    by_cases he : (u j).2.2.2 = 0
    · by_cases hlt : j < n
      · obtain ⟨x, hx⟩ := some_of_lt (l := ps) (i := j) (by omega)
        obtain ⟨e0, e1⟩ := pE_at ps hx
        have hs := hst j x hx he
        have hpu := fun A' c' w h h2 => put_c A' (u j).2.2.1.length c' (u j).2.2.1 w h rfl h2 (by omega) (u j).1 (u j).2.1 x.1 x.2
        rw [← hs] at hpu
        have ej : ((2 * (j + 1) : Nat) : Int) = ((2 * j : Nat) : Int) + 2 := by omega
        repeat' (first
            | ((with_reducible refine is_idx ?_); (first | ((refine' ⟨_, Yl_index rfl rfl ?q1 ?q2 ?q3 (Rd.some_ hr ?q4), ?_⟩); (case q1 => exact und_of rfl); (case q2 => exact siz_of rfl); (case q3 => exact Nat.lt_succ_self _); (case q4 => omega))))
            | ((with_reducible refine ie_store ?_); (first | ((refine' Ef_storeC (C' := sV k y (A2, c2) (i + 1)) rfl rfl ?q1 ?q2 ?q3 ?q4 ?q5 ?_); (case q1 => rfl); (case q2 => exact siz_of rfl); (case q3 => (first | exact at0 | exact at1 | exact at2 | exact at3 | exact at4 | exact at5 | exact at6)); (case q4 => exact Nat.le_of_ble_eq_true rfl); (case q5 => rfl))))
            | ((with_reducible refine ie_callf ?_); (first  | ((with_reducible refine g_call 15 ?_); (first | refine Ef_callP rfl rfl ent_15 (fun w _ => hnw w) ?_)) | ((with_reducible refine g_call 21 ?_); (first | (((refine' Ef_callN rfl rfl ent_21 (fun w hp => hpu A1 c1 w (hp.rowOf ?q1) (hp.capOf (A := A1) (m := (u j).2.2.1.length) (cap := c1) ?q2)) ?_); (case q1 => (repeat (first | exact .head _ | apply List.Mem.tail))); (case q2 => (repeat (first | exact .head _ | apply List.Mem.tail)))); rintro ⟨A2, c2⟩)))))
            | (first | ((with_reducible refine ie_app ?_); (((refine' Ef_appC_row rfl rfl rfl ?q1 ?q2 ?q3 ?q4 ?q5 ?q6 ?_); (case q1 => exact app_of rfl); (case q2 => (first | exact at0 | exact at1 | exact at2 | exact at3 | exact at4 | exact at5 | exact at6)); (case q3 => (repeat (first | exact .head _ | apply List.Mem.tail))); (case q4 => (first | assumption | (intro u hu; rcases hu with _ | ⟨_, _ | ⟨_, _ | ⟨_, _ | ⟨_, hu⟩⟩⟩⟩ <;> first | rfl | (cases hu; done)))); (case q5 => omega); (case q6 => omega))); intro A2 c2 hcap))
            | ((with_reducible refine g_draw ?_); (first
            | (((refine' T.drawB (id := 5) (.y 0 (.y 2 (.y 3 (.y 4 (.y 5 (.y 6 (.y 7 (.y 8 (.y 9 (.y 10 (.y 11 (.y 12 (.y 13 (.y 14 (.b 1 (.run [(15, false), (16, false), (17, true), (18, false)]) 15 (.run [(1, false), (16, false), (17, true), (18, false)])))))))))))))))) [.blk b1 (.cells (sV k y (A, cap) len) 24 (0, 0))] mixd ?q1 ?q2 ?_); (case q1 => kernel_rfl); (case q2 => (repeat (first | exact List.nil_sublist _ | refine List.Sublist.cons_cons _ ?_ | refine List.Sublist.cons _ ?_)))))
            | (((refine' T.draw (id := 7) [(0, true), (1, true), (2, true), (3, true), (4, true), (5, true), (6, true), (9, true), (7, false), (8, false), (10, false), (11, false), (12, false)] [.blk b3 (.cells (sV k y (A1, c1) len) 30 (0, 0)), .blk b1 (.cells (sV k y (A, cap) len) 24 (0, 0))] mixd ?q1 ?q2 ?_); (case q1 => kernel_rfl); (case q2 => (repeat (first | exact List.nil_sublist _ | refine List.Sublist.cons_cons _ ?_ | refine List.Sublist.cons _ ?_)))))
            | (((refine' T.draw (id := 5) [(1, true), (2, true), (3, true), (4, true), (5, true), (6, true), (7, true), (8, true), (9, true), (0, false), (10, false), (11, false), (12, true), (13, true), (14, false), (15, false)] [] mixd ?q1 ?q2 ?_); (case q1 => kernel_rfl); (case q2 => (repeat (first | exact List.nil_sublist _ | refine List.Sublist.cons_cons _ ?_ | refine List.Sublist.cons _ ?_)))))))
            | refine w1 ?_
            | (refine w2 ?_ ?_ <;> intro hc)
            | (first | refine ⟨_, Yl_eqlA rfl rfl (eqg_of rfl) (eqP_t _ _ rfl).run, ?_⟩)
            | (refine w4 ?_; (first | ((fail_if_success have := b1); intro b1) | ((fail_if_success have := b2); intro b2) | ((fail_if_success have := b3); intro b3) | intro _))
            | (refine w5 ?_; (first | ((fail_if_success have := A1); intro A1 c1) | ((fail_if_success have := A2); intro A2 c2) | intro _ _))
            | refine w3 ?_ ?_
            | fail_if_success skip)
        refine loopQ_n (j + 1, A2, c2) ?_ ?_ (show j + 1 ≤ n by omega) (show n - (j + 1) < n - j by omega)
        · rw [ej]; (repeat (first | exact Sub.nil | refine Sub.cons rfl ?_))
        · (repeat (first | exact List.nil_sublist _ | refine List.Sublist.cons_cons _ ?_ | refine List.Sublist.cons _ ?_))
      · obtain rfl : j = n := by omega
        repeat' (first
            | ((with_reducible refine is_idx ?_); (first | ((refine' ⟨_, Yl_index rfl rfl ?q1 ?q2 ?q3 (Rd.some_ hr ?q4), ?_⟩); (case q1 => exact und_of rfl); (case q2 => exact siz_of rfl); (case q3 => exact Nat.lt_succ_self _); (case q4 => omega))))
            | ((with_reducible refine ie_store ?_); (first | ((refine' Ef_storeC (C' := sV k y (A2, c2) (i + 1)) rfl rfl ?q1 ?q2 ?q3 ?q4 ?q5 ?_); (case q1 => rfl); (case q2 => exact siz_of rfl); (case q3 => (first | exact at0 | exact at1 | exact at2 | exact at3 | exact at4 | exact at5 | exact at6)); (case q4 => exact Nat.le_of_ble_eq_true rfl); (case q5 => rfl))))
            | ((with_reducible refine ie_callf ?_); (first  | ((with_reducible refine g_call 15 ?_); (first | refine Ef_callP rfl rfl ent_15 (fun w _ => hnw w) ?_)) | ((with_reducible refine g_call 21 ?_); (first | (((refine' Ef_callN rfl rfl ent_21 (fun w hp => hpu A1 c1 w (hp.rowOf ?q1) (hp.capOf (A := A1) (m := (u j).2.2.1.length) (cap := c1) ?q2)) ?_); (case q1 => (repeat (first | exact .head _ | apply List.Mem.tail))); (case q2 => (repeat (first | exact .head _ | apply List.Mem.tail)))); rintro ⟨A2, c2⟩)))))
            | (first | ((with_reducible refine ie_app ?_); (((refine' Ef_appC_row rfl rfl rfl ?q1 ?q2 ?q3 ?q4 ?q5 ?q6 ?_); (case q1 => exact app_of rfl); (case q2 => (first | exact at0 | exact at1 | exact at2 | exact at3 | exact at4 | exact at5 | exact at6)); (case q3 => (repeat (first | exact .head _ | apply List.Mem.tail))); (case q4 => (first | assumption | (intro u hu; rcases hu with _ | ⟨_, _ | ⟨_, _ | ⟨_, _ | ⟨_, hu⟩⟩⟩⟩ <;> first | rfl | (cases hu; done)))); (case q5 => omega); (case q6 => omega))); intro A2 c2 hcap))
            | ((with_reducible refine g_draw ?_); (first
            | (((refine' T.drawB (id := 5) (.y 0 (.y 2 (.y 3 (.y 4 (.y 5 (.y 6 (.y 7 (.y 8 (.y 9 (.y 10 (.y 11 (.y 12 (.y 13 (.y 14 (.b 1 (.run [(15, false), (16, false), (17, true), (18, false)]) 15 (.run [(1, false), (16, false), (17, true), (18, false)])))))))))))))))) [.blk b1 (.cells (sV k y (A, cap) len) 24 (0, 0))] mixd ?q1 ?q2 ?_); (case q1 => kernel_rfl); (case q2 => (repeat (first | exact List.nil_sublist _ | refine List.Sublist.cons_cons _ ?_ | refine List.Sublist.cons _ ?_)))))
            | (((refine' T.draw (id := 7) [(0, true), (1, true), (2, true), (3, true), (4, true), (5, true), (6, true), (9, true), (7, false), (8, false), (10, false), (11, false), (12, false)] [.blk b3 (.cells (sV k y (A1, c1) len) 30 (0, 0)), .blk b1 (.cells (sV k y (A, cap) len) 24 (0, 0))] mixd ?q1 ?q2 ?_); (case q1 => kernel_rfl); (case q2 => (repeat (first | exact List.nil_sublist _ | refine List.Sublist.cons_cons _ ?_ | refine List.Sublist.cons _ ?_)))))
            | (((refine' T.draw (id := 5) [(1, true), (2, true), (3, true), (4, true), (5, true), (6, true), (7, true), (8, true), (9, true), (0, false), (10, false), (11, false), (12, true), (13, true), (14, false), (15, false)] [] mixd ?q1 ?q2 ?_); (case q1 => kernel_rfl); (case q2 => (repeat (first | exact List.nil_sublist _ | refine List.Sublist.cons_cons _ ?_ | refine List.Sublist.cons _ ?_)))))))
            | refine w1 ?_
            | (refine w2 ?_ ?_ <;> intro hc)
            | (first | refine ⟨_, Yl_eqlA rfl rfl (eqg_of rfl) (eqP_t _ _ rfl).run, ?_⟩)
            | (refine w4 ?_; (first | ((fail_if_success have := b1); intro b1) | ((fail_if_success have := b2); intro b2) | ((fail_if_success have := b3); intro b3) | intro _))
            | (refine w5 ?_; (first | ((fail_if_success have := A1); intro A1 c1) | ((fail_if_success have := A2); intro A2 c2) | intro _ _))
            | refine w3 ?_ ?_
            | fail_if_success skip)
        exact ret_n [rP (u j).2.2.1 (A1, c1)] (resC1 rfl rfl rfl (by (repeat (first | exact .head _ | apply List.Mem.tail))) (agg_of rfl)) (by (repeat (first | exact List.nil_sublist _ | refine List.Sublist.cons_cons _ ?_ | refine List.Sublist.cons _ ?_))) ⟨(A1, c1), rfl, rfl⟩
    · rw [hsk j he]
      by_cases hlt : j < n
      all_goals
        repeat' (first
            | ((with_reducible refine is_idx ?_); (first | ((refine' ⟨_, Yl_index rfl rfl ?q1 ?q2 ?q3 (Rd.some_ hr ?q4), ?_⟩); (case q1 => exact und_of rfl); (case q2 => exact siz_of rfl); (case q3 => exact Nat.lt_succ_self _); (case q4 => omega))))
            | ((with_reducible refine ie_store ?_); (first | ((refine' Ef_storeC (C' := sV k y (A2, c2) (i + 1)) rfl rfl ?q1 ?q2 ?q3 ?q4 ?q5 ?_); (case q1 => rfl); (case q2 => exact siz_of rfl); (case q3 => (first | exact at0 | exact at1 | exact at2 | exact at3 | exact at4 | exact at5 | exact at6)); (case q4 => exact Nat.le_of_ble_eq_true rfl); (case q5 => rfl))))
            | ((with_reducible refine ie_callf ?_); (first  | ((with_reducible refine g_call 15 ?_); (first | refine Ef_callP rfl rfl ent_15 (fun w _ => hnw w) ?_)) | ((with_reducible refine g_call 21 ?_); (first | (((refine' Ef_callN rfl rfl ent_21 (fun w hp => hpu A1 c1 w (hp.rowOf ?q1) (hp.capOf (A := A1) (m := (u j).2.2.1.length) (cap := c1) ?q2)) ?_); (case q1 => (repeat (first | exact .head _ | apply List.Mem.tail))); (case q2 => (repeat (first | exact .head _ | apply List.Mem.tail)))); rintro ⟨A2, c2⟩)))))
            | (first | ((with_reducible refine ie_app ?_); (((refine' Ef_appC_row rfl rfl rfl ?q1 ?q2 ?q3 ?q4 ?q5 ?q6 ?_); (case q1 => exact app_of rfl); (case q2 => (first | exact at0 | exact at1 | exact at2 | exact at3 | exact at4 | exact at5 | exact at6)); (case q3 => (repeat (first | exact .head _ | apply List.Mem.tail))); (case q4 => (first | assumption | (intro u hu; rcases hu with _ | ⟨_, _ | ⟨_, _ | ⟨_, _ | ⟨_, hu⟩⟩⟩⟩ <;> first | rfl | (cases hu; done)))); (case q5 => omega); (case q6 => omega))); intro A2 c2 hcap))
            | ((with_reducible refine g_draw ?_); (first
            | (((refine' T.drawB (id := 5) (.y 0 (.y 2 (.y 3 (.y 4 (.y 5 (.y 6 (.y 7 (.y 8 (.y 9 (.y 10 (.y 11 (.y 12 (.y 13 (.y 14 (.b 1 (.run [(15, false), (16, false), (17, true), (18, false)]) 15 (.run [(1, false), (16, false), (17, true), (18, false)])))))))))))))))) [.blk b1 (.cells (sV k y (A, cap) len) 24 (0, 0))] mixd ?q1 ?q2 ?_); (case q1 => kernel_rfl); (case q2 => (repeat (first | exact List.nil_sublist _ | refine List.Sublist.cons_cons _ ?_ | refine List.Sublist.cons _ ?_)))))
            | (((refine' T.draw (id := 7) [(0, true), (1, true), (2, true), (3, true), (4, true), (5, true), (6, true), (9, true), (7, false), (8, false), (10, false), (11, false), (12, false)] [.blk b3 (.cells (sV k y (A1, c1) len) 30 (0, 0)), .blk b1 (.cells (sV k y (A, cap) len) 24 (0, 0))] mixd ?q1 ?q2 ?_); (case q1 => kernel_rfl); (case q2 => (repeat (first | exact List.nil_sublist _ | refine List.Sublist.cons_cons _ ?_ | refine List.Sublist.cons _ ?_)))))
            | (((refine' T.draw (id := 5) [(1, true), (2, true), (3, true), (4, true), (5, true), (6, true), (7, true), (8, true), (9, true), (0, false), (10, false), (11, false), (12, true), (13, true), (14, false), (15, false)] [] mixd ?q1 ?q2 ?_); (case q1 => kernel_rfl); (case q2 => (repeat (first | exact List.nil_sublist _ | refine List.Sublist.cons_cons _ ?_ | refine List.Sublist.cons _ ?_)))))))
            | refine w1 ?_
            | (refine w2 ?_ ?_ <;> intro hc)
            | (first | refine ⟨_, Yl_eqlA rfl rfl (eqg_of rfl) (eqP_t _ _ rfl).run, ?_⟩)
            | (refine w4 ?_; (first | ((fail_if_success have := b1); intro b1) | ((fail_if_success have := b2); intro b2) | ((fail_if_success have := b3); intro b3) | intro _))
            | (refine w5 ?_; (first | ((fail_if_success have := A1); intro A1 c1) | ((fail_if_success have := A2); intro A2 c2) | intro _ _))
            | refine w3 ?_ ?_
            | fail_if_success skip)
        exact ret_n [rP (u j).2.2.1 (A1, c1)] (resC1 rfl rfl rfl (by (repeat (first | exact .head _ | apply List.Mem.tail))) (agg_of rfl)) (by (repeat (first | exact List.nil_sublist _ | refine List.Sublist.cons_cons _ ?_ | refine List.Sublist.cons _ ?_))) ⟨(A1, c1), rfl, rfl⟩
end
end Go.Proofs.Ytimmabejfigleaa
