/- A net that nobody made: what a call of each comes to; whether acts are great, whatever their size. -/
import Derived.Test.YtdbpnolpgkcjiaaT2
namespace Go.Proofs.Ytdbpnolpgkcjiaa
open Go.RowKit Go.Conc

theorem Yl_addW {P : Program} {n : Nat} {w0 : World} {R : List Nat} {L : List (Nat × Value)} {M : List Asrt} {t ty yt : TypeId} {x y : Operand} {i j : Int} (hx : evl L x = some (.int .i64 i)) (hy : evl L y = some (.int .i64 j)) : Yl P n w0 R (.binOp .add t x y yt) ty L M (.int .i64 (IntKind.wrap .i64 (i + j))) := Yl_bin_int hx hy fun w => by
  rw [run_binInt (by decide)]
  simp [arithI, Op.intArith]

section
variable (A : Option Addr) (cc : Nat) (l : List Ac) (w : World) (ha : Rd w A l.length 3 (l.flatMap aE)) (hin : ∀ a ∈ l, Rd w a.h.1 a.l.length 1 (a.l.flatMap pE)) (hle : l.length ≤ 140737488355328) (hlk : ∀ a ∈ l, a.l.length ≤ 140737488355328)
include ha hin hle hlk
set_option maxHeartbeats 4000000 in
theorem greatAny_c : Sp Try.prog 13 [.slice A l.length cc] w [] fun v N => ∃ q : Bool, v = .bool q ∧ N = [] := by
  refine Sp.enter (n := 38) Try.func13 rfl rfl rfl (Hp.refl w) ?_
  repeat' (first | ((with_reducible refine is_load ?_); (first | ((refine' ⟨_, Yl_load_hp rfl ?q1 (fun w hp => hp.rd ha fun _ => List.not_mem_nil) ?q2, ?_⟩); (case q1 => exact one_of rfl); (case q2 => assumption)) | ((refine' ⟨_, Yl_load_hp rfl ?q1 (fun w hp => hp.rd (hin x (mem_of_some hx)) fun _ => List.not_mem_nil) ?q2, ?_⟩); (case q1 => exact one_of rfl); (case q2 => assumption)))) | ((with_reducible refine is_idx ?_); (first | ((refine' ⟨_, Yl_index rfl rfl ?q1 ?q2 ?q3 ((hin x (mem_of_some hx)).some_ ?q4), ?_⟩); (case q1 => exact und_of rfl); (case q2 => exact siz_of rfl); (case q3 => omega); (case q4 => omega))))       | refine w1 ?_ | (refine w2 ?_ ?_ <;> intro hc) | (first | refine ⟨_, Yl_addW rfl rfl, ?_⟩) | (refine w4 ?_; (intro _)) | (refine w5 ?_; (intro _ _)) | refine w3 ?_ ?_ | fail_if_success skip)
  refine T.loop (α := Nat × Int) (fun z => [(0, .slice A l.length cc), (3, .int .i64 z.2), (4, .int .i64 (z.1 : Int))]) (fun _ => []) (fun z => z.1 ≤ l.length) (fun z => l.length - z.1) (0, 0) ?_ ?_ ?_ ?_
  · (repeat (first | exact Sub.nil | refine Sub.cons rfl ?_))
  · (repeat (first | exact List.nil_sublist _ | refine List.Sublist.cons_cons _ ?_ | refine List.Sublist.cons _ ?_))
  · exact Nat.zero_le _
  · rintro ⟨i, s⟩ hi
    dsimp only at hi ⊢
    by_cases hlt : i < l.length
    · obtain ⟨x, hx⟩ := some_of_lt (l := l) (i := i) hlt
      have e2 : (l.flatMap aE)[i * 3 + 2]? = some (.slice x.h.1 x.l.length x.h.2) := enc_at aE_len hx (j := 2) (by decide)
      have hxl := hlk x (mem_of_some hx)
      obtain ⟨s1, hs1⟩ : ∃ s1, IntKind.wrap .i64 (s + 20) = s1 := ⟨_, rfl⟩
      repeat' (first | ((with_reducible refine is_load ?_); (first | ((refine' ⟨_, Yl_load_hp rfl ?q1 (fun w hp => hp.rd ha fun _ => List.not_mem_nil) ?q2, ?_⟩); (case q1 => exact one_of rfl); (case q2 => assumption)) | ((refine' ⟨_, Yl_load_hp rfl ?q1 (fun w hp => hp.rd (hin x (mem_of_some hx)) fun _ => List.not_mem_nil) ?q2, ?_⟩); (case q1 => exact one_of rfl); (case q2 => assumption)))) | ((with_reducible refine is_idx ?_); (first | ((refine' ⟨_, Yl_index rfl rfl ?q1 ?q2 ?q3 ((hin x (mem_of_some hx)).some_ ?q4), ?_⟩); (case q1 => exact und_of rfl); (case q2 => exact siz_of rfl); (case q3 => omega); (case q4 => omega))))       | refine w1 ?_ | (refine w2 ?_ ?_ <;> intro hc) | (first | refine ⟨_, Yl_addW rfl rfl, ?_⟩) | (refine w4 ?_; (intro _)) | (refine w5 ?_; (intro _ _)) | refine w3 ?_ ?_ | fail_if_success skip)
      refine T.loop (α := Nat × Int) (fun z => [(0, .slice A l.length cc), (3, .int .i64 z.2), (4, .int .i64 (i : Int)), (5, .int .i64 (z.1 : Int))]) (fun _ => []) (fun z => z.1 ≤ x.l.length) (fun z => x.l.length - z.1) (0, IntKind.wrap .i64 (s + 20)) ?_ ?_ ?_ ?_
      · (repeat (first | exact Sub.nil | refine Sub.cons rfl ?_))
      · (repeat (first | exact List.nil_sublist _ | refine List.Sublist.cons_cons _ ?_ | refine List.Sublist.cons _ ?_))
      · exact Nat.zero_le _
      · rintro ⟨j, s2⟩ hj
        dsimp only at hj ⊢
        by_cases hjl : j < x.l.length
        · obtain ⟨p, hp⟩ := some_of_lt (l := x.l) (i := j) hjl
          have e0 : (x.l.flatMap pE)[j * 1]? = some (pV p) := enc_at pE_len hp (j := 0) (by decide)
          unfold pV at e0
          repeat' (first | ((with_reducible refine is_load ?_); (first | ((refine' ⟨_, Yl_load_hp rfl ?q1 (fun w hp => hp.rd ha fun _ => List.not_mem_nil) ?q2, ?_⟩); (case q1 => exact one_of rfl); (case q2 => assumption)) | ((refine' ⟨_, Yl_load_hp rfl ?q1 (fun w hp => hp.rd (hin x (mem_of_some hx)) fun _ => List.not_mem_nil) ?q2, ?_⟩); (case q1 => exact one_of rfl); (case q2 => assumption)))) | ((with_reducible refine is_idx ?_); (first | ((refine' ⟨_, Yl_index rfl rfl ?q1 ?q2 ?q3 ((hin x (mem_of_some hx)).some_ ?q4), ?_⟩); (case q1 => exact und_of rfl); (case q2 => exact siz_of rfl); (case q3 => omega); (case q4 => omega))))       | refine w1 ?_ | (refine w2 ?_ ?_ <;> intro hc) | (first | refine ⟨_, Yl_addW rfl rfl, ?_⟩) | (refine w4 ?_; (intro _)) | (refine w5 ?_; (intro _ _)) | refine w3 ?_ ?_ | fail_if_success skip)
          refine loopQ_n (j + 1, IntKind.wrap .i64 (IntKind.wrap .i64 (s2 + (p.1.length : Int)) + 5)) ?_ (List.Sublist.refl _) (show j + 1 ≤ x.l.length by omega) (show x.l.length - (j + 1) < x.l.length - j by omega)
          (repeat (first | exact Sub.nil | refine Sub.cons rfl ?_))
        · repeat' (first | ((with_reducible refine is_load ?_); (first | ((refine' ⟨_, Yl_load_hp rfl ?q1 (fun w hp => hp.rd ha fun _ => List.not_mem_nil) ?q2, ?_⟩); (case q1 => exact one_of rfl); (case q2 => assumption)) | ((refine' ⟨_, Yl_load_hp rfl ?q1 (fun w hp => hp.rd (hin x (mem_of_some hx)) fun _ => List.not_mem_nil) ?q2, ?_⟩); (case q1 => exact one_of rfl); (case q2 => assumption)))) | ((with_reducible refine is_idx ?_); (first | ((refine' ⟨_, Yl_index rfl rfl ?q1 ?q2 ?q3 ((hin x (mem_of_some hx)).some_ ?q4), ?_⟩); (case q1 => exact und_of rfl); (case q2 => exact siz_of rfl); (case q3 => omega); (case q4 => omega))))       | refine w1 ?_ | (refine w2 ?_ ?_ <;> intro hc) | (first | refine ⟨_, Yl_addW rfl rfl, ?_⟩) | (refine w4 ?_; (intro _)) | (refine w5 ?_; (intro _ _)) | refine w3 ?_ ?_ | fail_if_success skip)
          · exact ret_n [] (res1 rfl rfl) (List.nil_sublist _) ⟨true, rfl, rfl⟩
          · refine loopQ_n (i + 1, s2) ?_ (List.Sublist.refl _) (show i + 1 ≤ l.length by omega) (show l.length - (i + 1) < l.length - i by omega)
            (repeat (first | exact Sub.nil | refine Sub.cons rfl ?_))
    · repeat' (first | ((with_reducible refine is_load ?_); (first | ((refine' ⟨_, Yl_load_hp rfl ?q1 (fun w hp => hp.rd ha fun _ => List.not_mem_nil) ?q2, ?_⟩); (case q1 => exact one_of rfl); (case q2 => assumption)) | ((refine' ⟨_, Yl_load_hp rfl ?q1 (fun w hp => hp.rd (hin x (mem_of_some hx)) fun _ => List.not_mem_nil) ?q2, ?_⟩); (case q1 => exact one_of rfl); (case q2 => assumption)))) | ((with_reducible refine is_idx ?_); (first | ((refine' ⟨_, Yl_index rfl rfl ?q1 ?q2 ?q3 ((hin x (mem_of_some hx)).some_ ?q4), ?_⟩); (case q1 => exact und_of rfl); (case q2 => exact siz_of rfl); (case q3 => omega); (case q4 => omega))))       | refine w1 ?_ | (refine w2 ?_ ?_ <;> intro hc) | (first | refine ⟨_, Yl_addW rfl rfl, ?_⟩) | (refine w4 ?_; (intro _)) | (refine w5 ?_; (intro _ _)) | refine w3 ?_ ?_ | fail_if_success skip)
      exact ret_n [] (res1 rfl rfl) (List.nil_sublist _) ⟨false, rfl, rfl⟩
end

/-- It is a net that nobody made, in any later world. -/
def NilN (pv : Value) (w : World) : Prop := ∀ w', Hp w [] [] w' → Sp Try.prog 21 [pv] w' [] fun v N => v = .bool true ∧ N = []
theorem Hp.after {w0 w w' : World} {M : List Asrt} (h' : Hp w [] [] w') (h : Hp w0 [] M w) : Hp w0 [] [] w' := (h.weaken (List.nil_sublist M)).more (N := []) h'
theorem NilN.at {pv : Value} {w w' : World} {M : List Asrt} (h : NilN pv w) (hp : Hp w [] M w') : Sp Try.prog 21 [pv] w' [] fun v N => v = .bool true ∧ N = [] := h w' (hp.weaken (List.nil_sublist _))
theorem NilN.step {pv : Value} {w w' : World} {M : List Asrt} (h : NilN pv w) (hp : Hp w [] M w') : NilN pv w' := fun w2 hp2 => h w2 (hp2.after hp)
theorem nil_0 (w : World) : NilN (.pointer none) w := fun w' _ => none0_v w'
theorem nil_1 (b : Nat) (w : World) (hb : w.heap[b]? = some (.cells #[.chan none] 36 (0, 0))) : NilN (.pointer (some ⟨b, 0, none⟩)) w := fun w' hp => noneZ_v w' b (hp.blk_old hb List.not_mem_nil)
section
variable (pv : Value) (w : World) (h : NilN pv w)
include h
theorem nil_len : Sp Try.prog 12 [pv] w [] fun v N => v = .int .i64 0 ∧ N = [] := by
  refine Sp.enter (n := 10) Try.func12 rfl rfl rfl (Hp.refl w) ?_
  repeat' (first | ((with_reducible refine is_load ?_); (first | ((refine' ⟨_, Yl_load_hp rfl ?q1 (fun w hp => hp.rd ha fun _ => List.not_mem_nil) ?q2, ?_⟩); (case q1 => exact one_of rfl); (case q2 => assumption)) | ((refine' ⟨_, Yl_load_hp rfl ?q1 (fun w hp => hp.rd (hin x (mem_of_some hx)) fun _ => List.not_mem_nil) ?q2, ?_⟩); (case q1 => exact one_of rfl); (case q2 => assumption))))    | ((with_reducible refine ie_callf ?_); (first | ((with_reducible refine g_call 21 ?_); (first | refine Ef_callP rfl rfl ent_21 (fun _ hp => h.at hp) ?_))))    | refine w1 ?_ | (refine w2 ?_ ?_ <;> intro hc) | (first | refine ⟨_, Yl_addW rfl rfl, ?_⟩) | (refine w4 ?_; (intro _)) | (refine w5 ?_; (intro _ _)) | refine w3 ?_ ?_ | fail_if_success skip)
  exact ret_n [] (res1 rfl rfl) (List.nil_sublist _) ⟨rfl, rfl⟩
theorem nil_send (v : Value) : Sp Try.prog 10 [pv, v] w [] fun v N => v = .int .i64 1 ∧ N = [] := by
  refine Sp.enter (n := 21) Try.func10 rfl rfl rfl (Hp.refl w) ?_
  repeat' (first | ((with_reducible refine is_load ?_); (first | ((refine' ⟨_, Yl_load_hp rfl ?q1 (fun w hp => hp.rd ha fun _ => List.not_mem_nil) ?q2, ?_⟩); (case q1 => exact one_of rfl); (case q2 => assumption)) | ((refine' ⟨_, Yl_load_hp rfl ?q1 (fun w hp => hp.rd (hin x (mem_of_some hx)) fun _ => List.not_mem_nil) ?q2, ?_⟩); (case q1 => exact one_of rfl); (case q2 => assumption)))) | ((with_reducible refine is_idx ?_); (first | ((refine' ⟨_, Yl_index rfl rfl ?q1 ?q2 ?q3 ((hin x (mem_of_some hx)).some_ ?q4), ?_⟩); (case q1 => exact und_of rfl); (case q2 => exact siz_of rfl); (case q3 => omega); (case q4 => omega))))   | ((with_reducible refine ie_callf ?_); (first | ((with_reducible refine g_call 21 ?_); (first | refine Ef_callP rfl rfl ent_21 (fun _ hp => h.at hp) ?_))))    | refine w1 ?_ | (refine w2 ?_ ?_ <;> intro hc) | (first | refine ⟨_, Yl_addW rfl rfl, ?_⟩) | (refine w4 ?_; (intro _)) | (refine w5 ?_; (intro _ _)) | refine w3 ?_ ?_ | fail_if_success skip)
  exact ret_n [] (res1 rfl rfl) (List.nil_sublist _) ⟨rfl, rfl⟩
theorem nil_round (k : Int) (g : Value) : Sp Try.prog 24 [pv, .int .i64 k, g] w [] fun v N => v = .int .i64 1 ∧ N = [] := by
  refine Sp.enter (n := 47) Try.func24 rfl rfl rfl (Hp.refl w) ?_
  repeat' (first     | ((with_reducible refine ie_callf ?_); (first | ((with_reducible refine g_call 21 ?_); (first | refine Ef_callP rfl rfl ent_21 (fun _ hp => h.at hp) ?_)) | ((with_reducible refine g_call 12 ?_); (first | refine Ef_callP rfl rfl ent_12 (fun _ hp => nil_len pv _ (h.step hp)) ?_))))    | refine w1 ?_ | (refine w2 ?_ ?_ <;> intro hc) | (first | refine ⟨_, Yl_addW rfl rfl, ?_⟩) | (refine w4 ?_; (intro _)) | (refine w5 ?_; (intro _ _)) | refine w3 ?_ ?_ | fail_if_success skip)
  exact ret_n [] (res1 rfl rfl) (List.nil_sublist _) ⟨rfl, rfl⟩
theorem nil_take (k : Int) : Sp Try.prog 14 [pv, .int .i64 k] w [] fun v N => v = .tuple #[.slice none 0 0, .int .i64 1] ∧ N = [] := by
  refine Sp.enter (n := 14) Try.func14 rfl rfl rfl (Hp.refl w) ?_
  repeat' (first | ((with_reducible refine is_load ?_); (first | ((refine' ⟨_, Yl_load_hp rfl ?q1 (fun w hp => hp.rd ha fun _ => List.not_mem_nil) ?q2, ?_⟩); (case q1 => exact one_of rfl); (case q2 => assumption)) | ((refine' ⟨_, Yl_load_hp rfl ?q1 (fun w hp => hp.rd (hin x (mem_of_some hx)) fun _ => List.not_mem_nil) ?q2, ?_⟩); (case q1 => exact one_of rfl); (case q2 => assumption))))    | ((with_reducible refine ie_callf ?_); (first   | ((with_reducible refine g_call 24 ?_); (first | refine Ef_callP rfl rfl ent_24 (fun _ hp => nil_round pv _ (h.step hp) _ _) ?_))))    | refine w1 ?_ | (refine w2 ?_ ?_ <;> intro hc) | (first | refine ⟨_, Yl_addW rfl rfl, ?_⟩) | (refine w4 ?_; (intro _)) | (refine w5 ?_; (intro _ _)) | refine w3 ?_ ?_ | fail_if_success skip)
  exact ret_n [] (res2 rfl rfl rfl) (List.nil_sublist _) ⟨rfl, rfl⟩
theorem nil_drop (k : Int) : Sp Try.prog 15 [pv, .int .i64 k] w [] fun v N => v = .int .i64 1 ∧ N = [] := by
  refine Sp.enter (n := 14) Try.func15 rfl rfl rfl (Hp.refl w) ?_
  repeat' (first     | ((with_reducible refine ie_callf ?_); (first    | ((with_reducible refine g_call 14 ?_); (first | refine Ef_callP rfl rfl ent_14 (fun _ hp => nil_take pv _ (h.step hp) _) ?_))))    | refine w1 ?_ | (refine w2 ?_ ?_ <;> intro hc) | (first | refine ⟨_, Yl_addW rfl rfl, ?_⟩) | (refine w4 ?_; (intro _)) | (refine w5 ?_; (intro _ _)) | refine w3 ?_ ?_ | fail_if_success skip)
  exact ret_n [] (res1 rfl rfl) (List.nil_sublist _) ⟨rfl, rfl⟩
theorem nil_double (k : Int) : Sp Try.prog 11 [pv, .int .i64 k] w [] fun v N => v = .int .i64 1 ∧ N = [] := by
  refine Sp.enter (n := 18) Try.func11 rfl rfl rfl (Hp.refl w) ?_
  repeat' (first | ((with_reducible refine is_load ?_); (first | ((refine' ⟨_, Yl_load_hp rfl ?q1 (fun w hp => hp.rd ha fun _ => List.not_mem_nil) ?q2, ?_⟩); (case q1 => exact one_of rfl); (case q2 => assumption)) | ((refine' ⟨_, Yl_load_hp rfl ?q1 (fun w hp => hp.rd (hin x (mem_of_some hx)) fun _ => List.not_mem_nil) ?q2, ?_⟩); (case q1 => exact one_of rfl); (case q2 => assumption))))    | ((with_reducible refine ie_callf ?_); (first   | ((with_reducible refine g_call 24 ?_); (first | refine Ef_callP rfl rfl ent_24 (fun _ hp => nil_round pv _ (h.step hp) _ _) ?_))))    | refine w1 ?_ | (refine w2 ?_ ?_ <;> intro hc) | (first | refine ⟨_, Yl_addW rfl rfl, ?_⟩) | (refine w4 ?_; (intro _)) | (refine w5 ?_; (intro _ _)) | refine w3 ?_ ?_ | fail_if_success skip)
  exact ret_n [] (res1 rfl rfl) (List.nil_sublist _) ⟨rfl, rfl⟩
theorem nil_all : Sp Try.prog 16 [pv] w [] fun v N => v = .slice none 0 0 ∧ N = [] := by
  refine Sp.enter (n := 25) Try.func16 rfl rfl rfl (Hp.refl w) ?_
  repeat' (first     | ((with_reducible refine ie_callf ?_); (first  | ((with_reducible refine g_call 12 ?_); (first | refine Ef_callP rfl rfl ent_12 (fun _ hp => nil_len pv _ (h.step hp)) ?_))))    | refine w1 ?_ | (refine w2 ?_ ?_ <;> intro hc) | (first | refine ⟨_, Yl_addW rfl rfl, ?_⟩) | (refine w4 ?_; (intro _)) | (refine w5 ?_; (intro _ _)) | refine w3 ?_ ?_ | fail_if_success skip)
  refine T.loop (α := Unit) (fun _ => [(3, .slice none 0 0), (7, .int .i64 0), (8, .int .i64 0)]) (fun _ => []) (fun _ => True) (fun _ => 0) () ?_ ?_ trivial ?_
  · (repeat (first | exact Sub.nil | refine Sub.cons rfl ?_))
  · (repeat (first | exact List.nil_sublist _ | refine List.Sublist.cons_cons _ ?_ | refine List.Sublist.cons _ ?_))
  · rintro ⟨⟩ -
    repeat' (first     | ((with_reducible refine ie_callf ?_); (first  | ((with_reducible refine g_call 12 ?_); (first | refine Ef_callP rfl rfl ent_12 (fun _ hp => nil_len pv _ (h.step hp)) ?_))))    | refine w1 ?_ | (refine w2 ?_ ?_ <;> intro hc) | (first | refine ⟨_, Yl_addW rfl rfl, ?_⟩) | (refine w4 ?_; (intro _)) | (refine w5 ?_; (intro _ _)) | refine w3 ?_ ?_ | fail_if_success skip)
    exact ret_n [] (res1 rfl rfl) (List.nil_sublist _) ⟨rfl, rfl⟩
end
end Go.Proofs.Ytdbpnolpgkcjiaa
