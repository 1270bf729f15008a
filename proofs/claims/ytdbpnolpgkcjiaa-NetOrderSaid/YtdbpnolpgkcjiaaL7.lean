/- Law: taking the first one again and again tells all in order: what a call comes to. -/
import Derived.Test.YtdbpnolpgkcjiaaT8
namespace Go.Proofs.Ytdbpnolpgkcjiaa
open Go.RowKit Go.Conc

theorem plc_self {k n : Nat} (h : k < n) : plc (k : Int) n = k := by
  unfold plc
  rw [Int.emod_eq_of_lt (by omega) (by omega)]
  omega
theorem take0_c (b c : Nat) (w : World) (R : List Nat) (p : Pk) (l : List Pk) (hp : Hp w R [nO b c, chA c (p :: l), bag ((p :: l).map bP)] w) (hl : l.length ≤ 4000) : Sp Try.prog 14 [.pointer (some ⟨b, 0, none⟩), .int .i64 0] w R fun v N => v = .tuple #[pV p, .int .i64 0] ∧ N = [nO b c, chA c l, bag (l.map bP), bP p] := by
  have e : plc 0 (p :: l).length = 0 := plc_self (k := 0) (by simp)
  have := take_c b c w R (p :: l) hp 0 (by simp only [List.length_cons]; omega) p (by rw [e]; rfl)
  rw [e] at this
  exact this

section
variable (A : Option Addr) (ca : Nat) (l : List Pk) (B : Option Addr) (cb : Nat) (tw : List Int) (w : World) (ha : Rd w A l.length 1 (l.flatMap pE)) (hin : Ins w l) (hb : Rd w B tw.length 1 (tw.flatMap (eI .i64))) (hle : l.length ≤ 140737488355328) (hle2 : tw.length ≤ 140737488355328) (hlk : ∀ p ∈ l, p.1.length ≤ 140737488355328)
include ha hin hb hle hle2 hlk
set_option maxHeartbeats 8000000 in
theorem order_law : Sp Try.prog 7 [.slice A l.length ca, .slice B tw.length cb] w [] fun v N => v = .bool true ∧ N = [] := by
  by_cases hg : l.length ≤ 100 ∧ tw.length ≤ 50 ∧ 0 < l.length
  · obtain ⟨q1, q2, q3⟩ := hg
    refine Sp.enter (n := 125) Try.func7 rfl rfl rfl (Hp.refl w) ?_
    refine T.mem (fun _ h => h.bagNil) ?_
    refine T.row0 38 1 ?_
    repeat' (first
        | ((with_reducible refine is_load ?_); (first | ((refine' ⟨_, Yl_load_hp rfl ?q1 (fun w hp => hp.rd ha fun _ => List.not_mem_nil) ?q2, ?_⟩); (case q1 => exact one_of rfl); (case q2 => assumption)) | ((refine' ⟨_, Yl_load_hp rfl ?q1 (fun w hp => hp.rd hb fun _ => List.not_mem_nil) ?q2, ?_⟩); (case q1 => exact one_of rfl); (case q2 => assumption))))
        | ((with_reducible refine ie_callf ?_); (first
        | ((with_reducible refine g_call 19 ?_); (first | refine Ef_callP rfl rfl ent_19 (fun w _ => awake_c w) ?_))
        | ((with_reducible refine g_call 9 ?_); (first | (refine Ef_callN rfl rfl ent_9 (fun w _ => new_c w) ?_; rintro ⟨b, c⟩)))
        | ((with_reducible refine g_call 10 ?_); (first | (((refine' Ef_callW [false, true, true] rfl rfl ent_10 rfl rfl rfl (fun w hp hp2 => send_c b c w _ ls hp2 (some ⟨b1, 0, none⟩) 1 [x] (hp.rowOf ?q1) (hp.apartS [false, true, true] rfl rfl (A := .row 38 1 (.slice (some ⟨b1, 0, none⟩) 1 1) 1 [pV x]) ?q2 (.head _)) (fun y hy => by rw [List.mem_singleton.1 hy]; exact hp.in_old hxi) (fun y hy h => by rw [List.mem_singleton.1 hy] at h ⊢; exact hp.outS [false, true, true] rfl (hxi.lt h) List.not_mem_nil) (fun y hy => by rw [List.mem_singleton.1 hy]; omega) hroom) ?_); (case q1 => (repeat (first | exact .head _ | apply List.Mem.tail))); (case q2 => (repeat (first | exact .head _ | apply List.Mem.tail)))); rintro ns hns)))
        | ((with_reducible refine g_call 11 ?_); (first | (((refine' Ef_callX (φ := fun ns : List Pk => ns.map (·.1) = [x0.1]) [true, true, true] rfl rfl ent_11 rfl rfl rfl (fun w hp => double_c b c w _ ls hp hlb (kk : Int) ?q1 x0 hx0) ?_); (case q1 => omega)); rintro ns hns)))
        | ((with_reducible refine g_call 14 ?_); (first | ((refine' Ef_callT [true, true, true] rfl rfl ent_14 rfl rfl rfl (fun w hp => take0_c b c w _ p rest hp ?q1) ?_); (case q1 => omega)) | refine Ef_callT [true, true, true] rfl rfl ent_14 rfl rfl rfl (fun w hp => takeE_c b c w _ 0 hp) ?_))
        | ((with_reducible refine g_call 12 ?_); (first | refine Ef_callT [true, true] rfl rfl ent_12 rfl rfl rfl (fun w hp => len_c b c w _ rest hp) ?_))))
        | (first | ((((refine' Ef_appG_row (xs := wn.flatMap pE) (news := [pV x]) rfl rfl rfl ?q1 ?q2 ?q3 (pE_one x) ?q4 ?q5 ?_); (case q1 => exact app_of rfl); (case q2 => (first | exact at0 | exact at1 | exact at2 | exact at3 | exact at4 | exact at5 | exact at6)); (case q3 => (repeat (first | exact .head _ | apply List.Mem.tail))); (case q4 => omega); (case q5 => omega))); (first | ((fail_if_success have := A1); intro A1 c1) | intro _ _)))
        | ((with_reducible refine g_draw ?_); (first | (((with_reducible refine' T.drawM (id := 26) [(0, false), (1, false), (2, false), (3, true), (4, true), (5, true), (6, false), (7, false), (8, false), (9, false), (10, false), (11, false), (12, false), (13, true), (15, true), (16, true), (17, true), (18, true), (19, true), (14, false), (20, false), (21, false)] mixd ?q1 ?_); (case q1 => kernel_rfl)))))
        | refine w1 ?_
        | (refine w2 ?_ ?_ <;> intro hc)
        | (first
        | ((refine' ⟨_, Yl_convI rfl ?q1 ?q2 ?q3, ?_⟩); (case q1 => exact und_of rfl); (case q2 => exact und_of rfl); (case q3 => ((refine' u64_in ?q1); (case q1 => omega))))
        | ((refine' ⟨_, Yl_convI rfl ?q1 ?q2 ?q3, ?_⟩); (case q1 => exact und_of rfl); (case q2 => exact und_of rfl); (case q3 => ((refine' IntWalk.i64_in _ ?q1); (case q1 => omega))))
        | ((refine' ⟨_, Yl_convW rfl ?q1 ?q2, ?_⟩); (case q1 => exact und_of rfl); (case q2 => exact und_of rfl))
        | ((refine' ⟨_, Yl_remE rfl rfl ?q1 ?q2 hkk, ?_⟩); (case q1 => exact wrap_u64_lo _); (case q2 => omega))
        | ((refine' ⟨_, Yl_str_hp (l := p.1) rfl ?q1 ?q2 ?q3 (fun w hp => hp.in_row (p := p) ?q4), ?_⟩); (case q1 => exact und_of rfl); (case q2 => exact und_of rfl); (case q3 => exact und_of rfl); (case q4 => (repeat (first | exact .head _ | apply List.Mem.tail))))
        | ((refine' ⟨_, Yl_str_hp (l := y.1) rfl ?q1 ?q2 ?q3 (fun w hp => hp.in_old hyi), ?_⟩); (case q1 => exact und_of rfl); (case q2 => exact und_of rfl); (case q3 => exact und_of rfl)))
        | (refine w4 ?_; (first | ((fail_if_success have := b1); intro b1) | intro _))
        | (refine w5 ?_; (first | ((fail_if_success have := A1); intro A1 c1) | intro _ _))
        | refine w3 ?_ ?_
        | fail_if_success skip)
    refine T.loopM (α := Nat × List Pk × List Pk × Option Addr × Nat) (fun z => [(0, .slice A l.length ca), (1, .slice B tw.length cb), (5, .pointer (some ⟨b, 0, none⟩)), (6, .slice z.2.2.2.1 z.2.2.1.length z.2.2.2.2), (7, .int .i64 (z.1 : Int))]) (fun z => [nO b c, chA c z.2.1, bag (z.2.1.map bP), .row 38 1 (.slice z.2.2.2.1 z.2.2.1.length z.2.2.2.2) z.2.2.1.length (z.2.2.1.flatMap pE)])
      (fun z => z.1 ≤ l.length ∧ z.2.2.1 = l.take z.1 ∧ z.2.1.map (·.1) = z.2.2.1.map (·.1) ∧ ∀ p ∈ z.2.2.1, p.1.length ≤ 100) (fun z => l.length - z.1) (0, [], [], none, 0) ?_ ?_ ?_ ?_
    · (repeat (first | exact Sub.nil | refine Sub.cons rfl ?_))
    · exact fun _ h => h.ofPart (by (repeat (first | exact Part.nil | refine Part.p0 ?_ | refine Part.p1 ?_ | refine Part.p2 ?_ | refine Part.p3 ?_ | refine Part.p4 ?_ | refine Part.p5 ?_ | refine Part.p6 ?_)))
    · exact ⟨Nat.zero_le _, rfl, rfl, fun x hx => by cases hx⟩
    · rintro ⟨i, ls, wn, A0, c0⟩ ⟨hi, hwn, hlw, hwb⟩
      dsimp only at hi hwn hlw hwb ⊢
      have hwl : wn.length = i := by rw [hwn, List.length_take]; omega
      have hll : ls.length = wn.length := by have := congrArg List.length hlw; simpa using this
      by_cases hlt : i < l.length
      · obtain ⟨x, hx⟩ := some_of_lt (l := l) (i := i) hlt
        have e0 : (l.flatMap pE)[i * 1]? = some (pV x) := enc_at pE_len hx (j := 0) (by decide)
        have hxi := hin x (mem_of_some hx)
        have hxk := hlk x (mem_of_some hx)
        have hroom : ls.length + 1 ≤ 4096 := by omega
        by_cases hx1 : 100 < x.1.length
        · repeat' (first
            | ((with_reducible refine is_load ?_); (first | ((refine' ⟨_, Yl_load_hp rfl ?q1 (fun w hp => hp.rd ha fun _ => List.not_mem_nil) ?q2, ?_⟩); (case q1 => exact one_of rfl); (case q2 => assumption)) | ((refine' ⟨_, Yl_load_hp rfl ?q1 (fun w hp => hp.rd hb fun _ => List.not_mem_nil) ?q2, ?_⟩); (case q1 => exact one_of rfl); (case q2 => assumption))))
            | ((with_reducible refine ie_callf ?_); (first
            | ((with_reducible refine g_call 19 ?_); (first | refine Ef_callP rfl rfl ent_19 (fun w _ => awake_c w) ?_))
            | ((with_reducible refine g_call 9 ?_); (first | (refine Ef_callN rfl rfl ent_9 (fun w _ => new_c w) ?_; rintro ⟨b, c⟩)))
            | ((with_reducible refine g_call 10 ?_); (first | (((refine' Ef_callW [false, true, true] rfl rfl ent_10 rfl rfl rfl (fun w hp hp2 => send_c b c w _ ls hp2 (some ⟨b1, 0, none⟩) 1 [x] (hp.rowOf ?q1) (hp.apartS [false, true, true] rfl rfl (A := .row 38 1 (.slice (some ⟨b1, 0, none⟩) 1 1) 1 [pV x]) ?q2 (.head _)) (fun y hy => by rw [List.mem_singleton.1 hy]; exact hp.in_old hxi) (fun y hy h => by rw [List.mem_singleton.1 hy] at h ⊢; exact hp.outS [false, true, true] rfl (hxi.lt h) List.not_mem_nil) (fun y hy => by rw [List.mem_singleton.1 hy]; omega) hroom) ?_); (case q1 => (repeat (first | exact .head _ | apply List.Mem.tail))); (case q2 => (repeat (first | exact .head _ | apply List.Mem.tail)))); rintro ns hns)))
            | ((with_reducible refine g_call 11 ?_); (first | (((refine' Ef_callX (φ := fun ns : List Pk => ns.map (·.1) = [x0.1]) [true, true, true] rfl rfl ent_11 rfl rfl rfl (fun w hp => double_c b c w _ ls hp hlb (kk : Int) ?q1 x0 hx0) ?_); (case q1 => omega)); rintro ns hns)))
            | ((with_reducible refine g_call 14 ?_); (first | ((refine' Ef_callT [true, true, true] rfl rfl ent_14 rfl rfl rfl (fun w hp => take0_c b c w _ p rest hp ?q1) ?_); (case q1 => omega)) | refine Ef_callT [true, true, true] rfl rfl ent_14 rfl rfl rfl (fun w hp => takeE_c b c w _ 0 hp) ?_))
            | ((with_reducible refine g_call 12 ?_); (first | refine Ef_callT [true, true] rfl rfl ent_12 rfl rfl rfl (fun w hp => len_c b c w _ rest hp) ?_))))
            | (first | ((((refine' Ef_appG_row (xs := wn.flatMap pE) (news := [pV x]) rfl rfl rfl ?q1 ?q2 ?q3 (pE_one x) ?q4 ?q5 ?_); (case q1 => exact app_of rfl); (case q2 => (first | exact at0 | exact at1 | exact at2 | exact at3 | exact at4 | exact at5 | exact at6)); (case q3 => (repeat (first | exact .head _ | apply List.Mem.tail))); (case q4 => omega); (case q5 => omega))); (first | ((fail_if_success have := A1); intro A1 c1) | intro _ _)))
            | ((with_reducible refine g_draw ?_); (first | (((with_reducible refine' T.drawM (id := 26) [(0, false), (1, false), (2, false), (3, true), (4, true), (5, true), (6, false), (7, false), (8, false), (9, false), (10, false), (11, false), (12, false), (13, true), (15, true), (16, true), (17, true), (18, true), (19, true), (14, false), (20, false), (21, false)] mixd ?q1 ?_); (case q1 => kernel_rfl)))))
            | refine w1 ?_
            | (refine w2 ?_ ?_ <;> intro hc)
            | (first
            | ((refine' ⟨_, Yl_convI rfl ?q1 ?q2 ?q3, ?_⟩); (case q1 => exact und_of rfl); (case q2 => exact und_of rfl); (case q3 => ((refine' u64_in ?q1); (case q1 => omega))))
            | ((refine' ⟨_, Yl_convI rfl ?q1 ?q2 ?q3, ?_⟩); (case q1 => exact und_of rfl); (case q2 => exact und_of rfl); (case q3 => ((refine' IntWalk.i64_in _ ?q1); (case q1 => omega))))
            | ((refine' ⟨_, Yl_convW rfl ?q1 ?q2, ?_⟩); (case q1 => exact und_of rfl); (case q2 => exact und_of rfl))
            | ((refine' ⟨_, Yl_remE rfl rfl ?q1 ?q2 hkk, ?_⟩); (case q1 => exact wrap_u64_lo _); (case q2 => omega))
            | ((refine' ⟨_, Yl_str_hp (l := p.1) rfl ?q1 ?q2 ?q3 (fun w hp => hp.in_row (p := p) ?q4), ?_⟩); (case q1 => exact und_of rfl); (case q2 => exact und_of rfl); (case q3 => exact und_of rfl); (case q4 => (repeat (first | exact .head _ | apply List.Mem.tail))))
            | ((refine' ⟨_, Yl_str_hp (l := y.1) rfl ?q1 ?q2 ?q3 (fun w hp => hp.in_old hyi), ?_⟩); (case q1 => exact und_of rfl); (case q2 => exact und_of rfl); (case q3 => exact und_of rfl)))
            | (refine w4 ?_; (first | ((fail_if_success have := b1); intro b1) | intro _))
            | (refine w5 ?_; (first | ((fail_if_success have := A1); intro A1 c1) | intro _ _))
            | refine w3 ?_ ?_
            | fail_if_success skip)
          exact ret_n [] (res1 rfl rfl) (List.nil_sublist _) ⟨rfl, rfl⟩
        · repeat' (first
            | ((with_reducible refine is_load ?_); (first | ((refine' ⟨_, Yl_load_hp rfl ?q1 (fun w hp => hp.rd ha fun _ => List.not_mem_nil) ?q2, ?_⟩); (case q1 => exact one_of rfl); (case q2 => assumption)) | ((refine' ⟨_, Yl_load_hp rfl ?q1 (fun w hp => hp.rd hb fun _ => List.not_mem_nil) ?q2, ?_⟩); (case q1 => exact one_of rfl); (case q2 => assumption))))
            | ((with_reducible refine ie_callf ?_); (first
            | ((with_reducible refine g_call 19 ?_); (first | refine Ef_callP rfl rfl ent_19 (fun w _ => awake_c w) ?_))
            | ((with_reducible refine g_call 9 ?_); (first | (refine Ef_callN rfl rfl ent_9 (fun w _ => new_c w) ?_; rintro ⟨b, c⟩)))
            | ((with_reducible refine g_call 10 ?_); (first | (((refine' Ef_callW [false, true, true] rfl rfl ent_10 rfl rfl rfl (fun w hp hp2 => send_c b c w _ ls hp2 (some ⟨b1, 0, none⟩) 1 [x] (hp.rowOf ?q1) (hp.apartS [false, true, true] rfl rfl (A := .row 38 1 (.slice (some ⟨b1, 0, none⟩) 1 1) 1 [pV x]) ?q2 (.head _)) (fun y hy => by rw [List.mem_singleton.1 hy]; exact hp.in_old hxi) (fun y hy h => by rw [List.mem_singleton.1 hy] at h ⊢; exact hp.outS [false, true, true] rfl (hxi.lt h) List.not_mem_nil) (fun y hy => by rw [List.mem_singleton.1 hy]; omega) hroom) ?_); (case q1 => (repeat (first | exact .head _ | apply List.Mem.tail))); (case q2 => (repeat (first | exact .head _ | apply List.Mem.tail)))); rintro ns hns)))
            | ((with_reducible refine g_call 11 ?_); (first | (((refine' Ef_callX (φ := fun ns : List Pk => ns.map (·.1) = [x0.1]) [true, true, true] rfl rfl ent_11 rfl rfl rfl (fun w hp => double_c b c w _ ls hp hlb (kk : Int) ?q1 x0 hx0) ?_); (case q1 => omega)); rintro ns hns)))
            | ((with_reducible refine g_call 14 ?_); (first | ((refine' Ef_callT [true, true, true] rfl rfl ent_14 rfl rfl rfl (fun w hp => take0_c b c w _ p rest hp ?q1) ?_); (case q1 => omega)) | refine Ef_callT [true, true, true] rfl rfl ent_14 rfl rfl rfl (fun w hp => takeE_c b c w _ 0 hp) ?_))
            | ((with_reducible refine g_call 12 ?_); (first | refine Ef_callT [true, true] rfl rfl ent_12 rfl rfl rfl (fun w hp => len_c b c w _ rest hp) ?_))))
            | (first | ((((refine' Ef_appG_row (xs := wn.flatMap pE) (news := [pV x]) rfl rfl rfl ?q1 ?q2 ?q3 (pE_one x) ?q4 ?q5 ?_); (case q1 => exact app_of rfl); (case q2 => (first | exact at0 | exact at1 | exact at2 | exact at3 | exact at4 | exact at5 | exact at6)); (case q3 => (repeat (first | exact .head _ | apply List.Mem.tail))); (case q4 => omega); (case q5 => omega))); (first | ((fail_if_success have := A1); intro A1 c1) | intro _ _)))
            | ((with_reducible refine g_draw ?_); (first | (((with_reducible refine' T.drawM (id := 26) [(0, false), (1, false), (2, false), (3, true), (4, true), (5, true), (6, false), (7, false), (8, false), (9, false), (10, false), (11, false), (12, false), (13, true), (15, true), (16, true), (17, true), (18, true), (19, true), (14, false), (20, false), (21, false)] mixd ?q1 ?_); (case q1 => kernel_rfl)))))
            | refine w1 ?_
            | (refine w2 ?_ ?_ <;> intro hc)
            | (first
            | ((refine' ⟨_, Yl_convI rfl ?q1 ?q2 ?q3, ?_⟩); (case q1 => exact und_of rfl); (case q2 => exact und_of rfl); (case q3 => ((refine' u64_in ?q1); (case q1 => omega))))
            | ((refine' ⟨_, Yl_convI rfl ?q1 ?q2 ?q3, ?_⟩); (case q1 => exact und_of rfl); (case q2 => exact und_of rfl); (case q3 => ((refine' IntWalk.i64_in _ ?q1); (case q1 => omega))))
            | ((refine' ⟨_, Yl_convW rfl ?q1 ?q2, ?_⟩); (case q1 => exact und_of rfl); (case q2 => exact und_of rfl))
            | ((refine' ⟨_, Yl_remE rfl rfl ?q1 ?q2 hkk, ?_⟩); (case q1 => exact wrap_u64_lo _); (case q2 => omega))
            | ((refine' ⟨_, Yl_str_hp (l := p.1) rfl ?q1 ?q2 ?q3 (fun w hp => hp.in_row (p := p) ?q4), ?_⟩); (case q1 => exact und_of rfl); (case q2 => exact und_of rfl); (case q3 => exact und_of rfl); (case q4 => (repeat (first | exact .head _ | apply List.Mem.tail))))
            | ((refine' ⟨_, Yl_str_hp (l := y.1) rfl ?q1 ?q2 ?q3 (fun w hp => hp.in_old hyi), ?_⟩); (case q1 => exact und_of rfl); (case q2 => exact und_of rfl); (case q3 => exact und_of rfl)))
            | (refine w4 ?_; (first | ((fail_if_success have := b1); intro b1) | intro _))
            | (refine w5 ?_; (first | ((fail_if_success have := A1); intro A1 c1) | intro _ _))
            | refine w3 ?_ ?_
            | fail_if_success skip)
          refine loopH_n (i + 1, ls ++ ns, wn ++ [x], A1, c1) ?_ (fun w' h => ?_) ⟨show i + 1 ≤ _ by omega, by dsimp only; rw [take_snoc hx, hwn], by dsimp only; rw [List.map_append, List.map_append, hlw, hns] <;> rfl, ?_⟩ (show l.length - (i + 1) < l.length - i by omega)
          · rw [List.length_append]; (repeat (first | exact Sub.nil | refine Sub.cons rfl ?_))
          · dsimp only
            rw [List.length_append, pE_snoc, List.map_append]
            exact ((h.ofPart (M' := [bag (ls.map bP), bag (ns.map bP), nO b c, chA c (ls ++ ns), .row 38 1 (.slice A1 (wn.length + 1) c1) (wn.length + 1) (wn.flatMap pE ++ [pV x])]) (by (repeat (first | exact Part.nil | refine Part.p0 ?_ | refine Part.p1 ?_ | refine Part.p2 ?_ | refine Part.p3 ?_ | refine Part.p4 ?_ | refine Part.p5 ?_ | refine Part.p6 ?_)))).bagApp).ofPart (by (repeat (first | exact Part.nil | refine Part.p0 ?_ | refine Part.p1 ?_ | refine Part.p2 ?_ | refine Part.p3 ?_ | refine Part.p4 ?_ | refine Part.p5 ?_ | refine Part.p6 ?_)))
          · intro p hp
            rcases List.mem_append.1 hp with hp | hp
            · exact hwb p hp
            · rw [List.mem_singleton.1 hp]; omega
      · have hwi : Ins w wn := fun p hp => hin p (List.mem_of_mem_take (hwn ▸ hp))
        have hw1 : 0 < wn.length ∧ wn.length ≤ 100 := by omega
        clear hwn hwl
        repeat' (first
            | ((with_reducible refine is_load ?_); (first | ((refine' ⟨_, Yl_load_hp rfl ?q1 (fun w hp => hp.rd ha fun _ => List.not_mem_nil) ?q2, ?_⟩); (case q1 => exact one_of rfl); (case q2 => assumption)) | ((refine' ⟨_, Yl_load_hp rfl ?q1 (fun w hp => hp.rd hb fun _ => List.not_mem_nil) ?q2, ?_⟩); (case q1 => exact one_of rfl); (case q2 => assumption))))
            | ((with_reducible refine ie_callf ?_); (first
            | ((with_reducible refine g_call 19 ?_); (first | refine Ef_callP rfl rfl ent_19 (fun w _ => awake_c w) ?_))
            | ((with_reducible refine g_call 9 ?_); (first | (refine Ef_callN rfl rfl ent_9 (fun w _ => new_c w) ?_; rintro ⟨b, c⟩)))
            | ((with_reducible refine g_call 10 ?_); (first | (((refine' Ef_callW [false, true, true] rfl rfl ent_10 rfl rfl rfl (fun w hp hp2 => send_c b c w _ ls hp2 (some ⟨b1, 0, none⟩) 1 [x] (hp.rowOf ?q1) (hp.apartS [false, true, true] rfl rfl (A := .row 38 1 (.slice (some ⟨b1, 0, none⟩) 1 1) 1 [pV x]) ?q2 (.head _)) (fun y hy => by rw [List.mem_singleton.1 hy]; exact hp.in_old hxi) (fun y hy h => by rw [List.mem_singleton.1 hy] at h ⊢; exact hp.outS [false, true, true] rfl (hxi.lt h) List.not_mem_nil) (fun y hy => by rw [List.mem_singleton.1 hy]; omega) hroom) ?_); (case q1 => (repeat (first | exact .head _ | apply List.Mem.tail))); (case q2 => (repeat (first | exact .head _ | apply List.Mem.tail)))); rintro ns hns)))
            | ((with_reducible refine g_call 11 ?_); (first | (((refine' Ef_callX (φ := fun ns : List Pk => ns.map (·.1) = [x0.1]) [true, true, true] rfl rfl ent_11 rfl rfl rfl (fun w hp => double_c b c w _ ls hp hlb (kk : Int) ?q1 x0 hx0) ?_); (case q1 => omega)); rintro ns hns)))
            | ((with_reducible refine g_call 14 ?_); (first | ((refine' Ef_callT [true, true, true] rfl rfl ent_14 rfl rfl rfl (fun w hp => take0_c b c w _ p rest hp ?q1) ?_); (case q1 => omega)) | refine Ef_callT [true, true, true] rfl rfl ent_14 rfl rfl rfl (fun w hp => takeE_c b c w _ 0 hp) ?_))
            | ((with_reducible refine g_call 12 ?_); (first | refine Ef_callT [true, true] rfl rfl ent_12 rfl rfl rfl (fun w hp => len_c b c w _ rest hp) ?_))))
            | (first | ((((refine' Ef_appG_row (xs := wn.flatMap pE) (news := [pV x]) rfl rfl rfl ?q1 ?q2 ?q3 (pE_one x) ?q4 ?q5 ?_); (case q1 => exact app_of rfl); (case q2 => (first | exact at0 | exact at1 | exact at2 | exact at3 | exact at4 | exact at5 | exact at6)); (case q3 => (repeat (first | exact .head _ | apply List.Mem.tail))); (case q4 => omega); (case q5 => omega))); (first | ((fail_if_success have := A1); intro A1 c1) | intro _ _)))
            | ((with_reducible refine g_draw ?_); (first | (((with_reducible refine' T.drawM (id := 26) [(0, false), (1, false), (2, false), (3, true), (4, true), (5, true), (6, false), (7, false), (8, false), (9, false), (10, false), (11, false), (12, false), (13, true), (15, true), (16, true), (17, true), (18, true), (19, true), (14, false), (20, false), (21, false)] mixd ?q1 ?_); (case q1 => kernel_rfl)))))
            | refine w1 ?_
            | (refine w2 ?_ ?_ <;> intro hc)
            | (first
            | ((refine' ⟨_, Yl_convI rfl ?q1 ?q2 ?q3, ?_⟩); (case q1 => exact und_of rfl); (case q2 => exact und_of rfl); (case q3 => ((refine' u64_in ?q1); (case q1 => omega))))
            | ((refine' ⟨_, Yl_convI rfl ?q1 ?q2 ?q3, ?_⟩); (case q1 => exact und_of rfl); (case q2 => exact und_of rfl); (case q3 => ((refine' IntWalk.i64_in _ ?q1); (case q1 => omega))))
            | ((refine' ⟨_, Yl_convW rfl ?q1 ?q2, ?_⟩); (case q1 => exact und_of rfl); (case q2 => exact und_of rfl))
            | ((refine' ⟨_, Yl_remE rfl rfl ?q1 ?q2 hkk, ?_⟩); (case q1 => exact wrap_u64_lo _); (case q2 => omega))
            | ((refine' ⟨_, Yl_str_hp (l := p.1) rfl ?q1 ?q2 ?q3 (fun w hp => hp.in_row (p := p) ?q4), ?_⟩); (case q1 => exact und_of rfl); (case q2 => exact und_of rfl); (case q3 => exact und_of rfl); (case q4 => (repeat (first | exact .head _ | apply List.Mem.tail))))
            | ((refine' ⟨_, Yl_str_hp (l := y.1) rfl ?q1 ?q2 ?q3 (fun w hp => hp.in_old hyi), ?_⟩); (case q1 => exact und_of rfl); (case q2 => exact und_of rfl); (case q3 => exact und_of rfl)))
            | (refine w4 ?_; (first | ((fail_if_success have := b1); intro b1) | intro _))
            | (refine w5 ?_; (first | ((fail_if_success have := A1); intro A1 c1) | intro _ _))
            | refine w3 ?_ ?_
            | fail_if_success skip)
        refine T.loopM (α := Nat × List Pk × List Pk × Option Addr × Nat) (fun z => [(1, .slice B tw.length cb), (5, .pointer (some ⟨b, 0, none⟩)), (6, .slice z.2.2.2.1 z.2.2.1.length z.2.2.2.2), (8, .int .i64 (z.1 : Int))]) (fun z => [nO b c, chA c z.2.1, bag (z.2.1.map bP), .row 38 1 (.slice z.2.2.2.1 z.2.2.1.length z.2.2.2.2) z.2.2.1.length (z.2.2.1.flatMap pE)])
          (fun z => z.1 ≤ tw.length ∧ z.2.1.map (·.1) = z.2.2.1.map (·.1) ∧ (∀ p ∈ z.2.2.1, p.1.length ≤ 100) ∧ Ins w z.2.2.1 ∧ 0 < z.2.2.1.length ∧ z.2.2.1.length ≤ 100 + z.1) (fun z => tw.length - z.1) (0, ls, wn, A0, c0) ?_ ?_ ?_ ?_
        · (repeat (first | exact Sub.nil | refine Sub.cons rfl ?_))
        · exact fun _ h => h
        · exact ⟨Nat.zero_le _, hlw, hwb, hwi, hw1.1, hw1.2⟩
        · clear hlw hwb hwi hw1 hll hi hlt
          rintro ⟨j, ls, wn, A0, c0⟩ ⟨hj, hlw, hwb, hwi, hw0, hw1⟩
          dsimp only at hj hlw hwb hwi hw0 hw1 ⊢
          have hll : ls.length = wn.length := by have := congrArg List.length hlw; simpa using this
          by_cases hjl : j < tw.length
          · obtain ⟨tv, htv⟩ := some_of_lt (l := tw) (i := j) hjl
            have eT : (tw.flatMap (eI .i64))[j * 1]? = some (.int .i64 tv) := enc_at (eI_len .i64) htv (j := 0) (by decide)
            obtain ⟨kk, hk1, hkk⟩ := rem_nat (IntKind.wrap .u64 tv) wn.length hw0
            obtain ⟨x, hx⟩ := some_of_lt (l := wn) (i := kk) hk1
            obtain ⟨x0, hx0'⟩ := some_of_lt (l := ls) (i := kk) (by omega)
            have hx0 : ls[plc (kk : Int) ls.length]? = some x0 := by rw [plc_self (by omega)]; exact hx0'
            have hxx : x0.1 = x.1 := by
              have h1 : (ls.map (·.1))[kk]? = some x0.1 := by rw [List.getElem?_map, hx0']; rfl
              rw [hlw, List.getElem?_map, hx] at h1
              exact (Option.some.inj h1).symm
            have eW : (wn.flatMap pE)[kk * 1]? = some (pV x) := enc_at pE_len hx (j := 0) (by decide)
            have hlb : ∀ p ∈ ls, p.1.length ≤ 6000 := fun p hp => by
              have h1 : p.1 ∈ wn.map (·.1) := hlw ▸ List.mem_map.2 ⟨p, hp, rfl⟩
              obtain ⟨y, hy, hyp⟩ := List.mem_map.1 h1
              have := hwb y hy
              rw [← hyp]; omega
            repeat' (first
                | ((with_reducible refine is_load ?_); (first | ((refine' ⟨_, Yl_load_hp rfl ?q1 (fun w hp => hp.rd ha fun _ => List.not_mem_nil) ?q2, ?_⟩); (case q1 => exact one_of rfl); (case q2 => assumption)) | ((refine' ⟨_, Yl_load_hp rfl ?q1 (fun w hp => hp.rd hb fun _ => List.not_mem_nil) ?q2, ?_⟩); (case q1 => exact one_of rfl); (case q2 => assumption))))
                | ((with_reducible refine ie_callf ?_); (first
                | ((with_reducible refine g_call 19 ?_); (first | refine Ef_callP rfl rfl ent_19 (fun w _ => awake_c w) ?_))
                | ((with_reducible refine g_call 9 ?_); (first | (refine Ef_callN rfl rfl ent_9 (fun w _ => new_c w) ?_; rintro ⟨b, c⟩)))
                | ((with_reducible refine g_call 10 ?_); (first | (((refine' Ef_callW [false, true, true] rfl rfl ent_10 rfl rfl rfl (fun w hp hp2 => send_c b c w _ ls hp2 (some ⟨b1, 0, none⟩) 1 [x] (hp.rowOf ?q1) (hp.apartS [false, true, true] rfl rfl (A := .row 38 1 (.slice (some ⟨b1, 0, none⟩) 1 1) 1 [pV x]) ?q2 (.head _)) (fun y hy => by rw [List.mem_singleton.1 hy]; exact hp.in_old hxi) (fun y hy h => by rw [List.mem_singleton.1 hy] at h ⊢; exact hp.outS [false, true, true] rfl (hxi.lt h) List.not_mem_nil) (fun y hy => by rw [List.mem_singleton.1 hy]; omega) hroom) ?_); (case q1 => (repeat (first | exact .head _ | apply List.Mem.tail))); (case q2 => (repeat (first | exact .head _ | apply List.Mem.tail)))); rintro ns hns)))
                | ((with_reducible refine g_call 11 ?_); (first | (((refine' Ef_callX (φ := fun ns : List Pk => ns.map (·.1) = [x0.1]) [true, true, true] rfl rfl ent_11 rfl rfl rfl (fun w hp => double_c b c w _ ls hp hlb (kk : Int) ?q1 x0 hx0) ?_); (case q1 => omega)); rintro ns hns)))
                | ((with_reducible refine g_call 14 ?_); (first | ((refine' Ef_callT [true, true, true] rfl rfl ent_14 rfl rfl rfl (fun w hp => take0_c b c w _ p rest hp ?q1) ?_); (case q1 => omega)) | refine Ef_callT [true, true, true] rfl rfl ent_14 rfl rfl rfl (fun w hp => takeE_c b c w _ 0 hp) ?_))
                | ((with_reducible refine g_call 12 ?_); (first | refine Ef_callT [true, true] rfl rfl ent_12 rfl rfl rfl (fun w hp => len_c b c w _ rest hp) ?_))))
                | (first | ((((refine' Ef_appG_row (xs := wn.flatMap pE) (news := [pV x]) rfl rfl rfl ?q1 ?q2 ?q3 (pE_one x) ?q4 ?q5 ?_); (case q1 => exact app_of rfl); (case q2 => (first | exact at0 | exact at1 | exact at2 | exact at3 | exact at4 | exact at5 | exact at6)); (case q3 => (repeat (first | exact .head _ | apply List.Mem.tail))); (case q4 => omega); (case q5 => omega))); (first | ((fail_if_success have := A1); intro A1 c1) | intro _ _)))
                | ((with_reducible refine g_draw ?_); (first | (((with_reducible refine' T.drawM (id := 26) [(0, false), (1, false), (2, false), (3, true), (4, true), (5, true), (6, false), (7, false), (8, false), (9, false), (10, false), (11, false), (12, false), (13, true), (15, true), (16, true), (17, true), (18, true), (19, true), (14, false), (20, false), (21, false)] mixd ?q1 ?_); (case q1 => kernel_rfl)))))
                | refine w1 ?_
                | (refine w2 ?_ ?_ <;> intro hc)
                | (first
                | ((refine' ⟨_, Yl_convI rfl ?q1 ?q2 ?q3, ?_⟩); (case q1 => exact und_of rfl); (case q2 => exact und_of rfl); (case q3 => ((refine' u64_in ?q1); (case q1 => omega))))
                | ((refine' ⟨_, Yl_convI rfl ?q1 ?q2 ?q3, ?_⟩); (case q1 => exact und_of rfl); (case q2 => exact und_of rfl); (case q3 => ((refine' IntWalk.i64_in _ ?q1); (case q1 => omega))))
                | ((refine' ⟨_, Yl_convW rfl ?q1 ?q2, ?_⟩); (case q1 => exact und_of rfl); (case q2 => exact und_of rfl))
                | ((refine' ⟨_, Yl_remE rfl rfl ?q1 ?q2 hkk, ?_⟩); (case q1 => exact wrap_u64_lo _); (case q2 => omega))
                | ((refine' ⟨_, Yl_str_hp (l := p.1) rfl ?q1 ?q2 ?q3 (fun w hp => hp.in_row (p := p) ?q4), ?_⟩); (case q1 => exact und_of rfl); (case q2 => exact und_of rfl); (case q3 => exact und_of rfl); (case q4 => (repeat (first | exact .head _ | apply List.Mem.tail))))
                | ((refine' ⟨_, Yl_str_hp (l := y.1) rfl ?q1 ?q2 ?q3 (fun w hp => hp.in_old hyi), ?_⟩); (case q1 => exact und_of rfl); (case q2 => exact und_of rfl); (case q3 => exact und_of rfl)))
                | (refine w4 ?_; (first | ((fail_if_success have := b1); intro b1) | intro _))
                | (refine w5 ?_; (first | ((fail_if_success have := A1); intro A1 c1) | intro _ _))
                | refine w3 ?_ ?_
                | fail_if_success skip)
            refine loopH_n (j + 1, ls ++ ns, wn ++ [x], A1, c1) ?_ (fun w' h => ?_) ⟨show j + 1 ≤ _ by omega, by dsimp only; rw [List.map_append, List.map_append, hlw, hns, hxx] <;> rfl, ?_, ?_, by dsimp only; rw [List.length_append]; omega, by dsimp only; rw [List.length_append]; simp only [List.length_cons, List.length_nil]; omega⟩ (show tw.length - (j + 1) < tw.length - j by omega)
            · rw [List.length_append]; (repeat (first | exact Sub.nil | refine Sub.cons rfl ?_))
            · dsimp only
              rw [List.length_append, pE_snoc]
              exact h.ofPart (by (repeat (first | exact Part.nil | refine Part.p0 ?_ | refine Part.p1 ?_ | refine Part.p2 ?_ | refine Part.p3 ?_ | refine Part.p4 ?_ | refine Part.p5 ?_ | refine Part.p6 ?_)))
            · intro p hp
              rcases List.mem_append.1 hp with hp | hp
              · exact hwb p hp
              · rw [List.mem_singleton.1 hp]; exact hwb x (mem_of_some hx)
            · intro p hp
              rcases List.mem_append.1 hp with hp | hp
              · exact hwi p hp
              · rw [List.mem_singleton.1 hp]; exact hwi x (mem_of_some hx)
          · repeat' (first
              | ((with_reducible refine is_load ?_); (first | ((refine' ⟨_, Yl_load_hp rfl ?q1 (fun w hp => hp.rd ha fun _ => List.not_mem_nil) ?q2, ?_⟩); (case q1 => exact one_of rfl); (case q2 => assumption)) | ((refine' ⟨_, Yl_load_hp rfl ?q1 (fun w hp => hp.rd hb fun _ => List.not_mem_nil) ?q2, ?_⟩); (case q1 => exact one_of rfl); (case q2 => assumption))))
              | ((with_reducible refine ie_callf ?_); (first
              | ((with_reducible refine g_call 19 ?_); (first | refine Ef_callP rfl rfl ent_19 (fun w _ => awake_c w) ?_))
              | ((with_reducible refine g_call 9 ?_); (first | (refine Ef_callN rfl rfl ent_9 (fun w _ => new_c w) ?_; rintro ⟨b, c⟩)))
              | ((with_reducible refine g_call 10 ?_); (first | (((refine' Ef_callW [false, true, true] rfl rfl ent_10 rfl rfl rfl (fun w hp hp2 => send_c b c w _ ls hp2 (some ⟨b1, 0, none⟩) 1 [x] (hp.rowOf ?q1) (hp.apartS [false, true, true] rfl rfl (A := .row 38 1 (.slice (some ⟨b1, 0, none⟩) 1 1) 1 [pV x]) ?q2 (.head _)) (fun y hy => by rw [List.mem_singleton.1 hy]; exact hp.in_old hxi) (fun y hy h => by rw [List.mem_singleton.1 hy] at h ⊢; exact hp.outS [false, true, true] rfl (hxi.lt h) List.not_mem_nil) (fun y hy => by rw [List.mem_singleton.1 hy]; omega) hroom) ?_); (case q1 => (repeat (first | exact .head _ | apply List.Mem.tail))); (case q2 => (repeat (first | exact .head _ | apply List.Mem.tail)))); rintro ns hns)))
              | ((with_reducible refine g_call 11 ?_); (first | (((refine' Ef_callX (φ := fun ns : List Pk => ns.map (·.1) = [x0.1]) [true, true, true] rfl rfl ent_11 rfl rfl rfl (fun w hp => double_c b c w _ ls hp hlb (kk : Int) ?q1 x0 hx0) ?_); (case q1 => omega)); rintro ns hns)))
              | ((with_reducible refine g_call 14 ?_); (first | ((refine' Ef_callT [true, true, true] rfl rfl ent_14 rfl rfl rfl (fun w hp => take0_c b c w _ p rest hp ?q1) ?_); (case q1 => omega)) | refine Ef_callT [true, true, true] rfl rfl ent_14 rfl rfl rfl (fun w hp => takeE_c b c w _ 0 hp) ?_))
              | ((with_reducible refine g_call 12 ?_); (first | refine Ef_callT [true, true] rfl rfl ent_12 rfl rfl rfl (fun w hp => len_c b c w _ rest hp) ?_))))
              | (first | ((((refine' Ef_appG_row (xs := wn.flatMap pE) (news := [pV x]) rfl rfl rfl ?q1 ?q2 ?q3 (pE_one x) ?q4 ?q5 ?_); (case q1 => exact app_of rfl); (case q2 => (first | exact at0 | exact at1 | exact at2 | exact at3 | exact at4 | exact at5 | exact at6)); (case q3 => (repeat (first | exact .head _ | apply List.Mem.tail))); (case q4 => omega); (case q5 => omega))); (first | ((fail_if_success have := A1); intro A1 c1) | intro _ _)))
              | ((with_reducible refine g_draw ?_); (first | (((with_reducible refine' T.drawM (id := 26) [(0, false), (1, false), (2, false), (3, true), (4, true), (5, true), (6, false), (7, false), (8, false), (9, false), (10, false), (11, false), (12, false), (13, true), (15, true), (16, true), (17, true), (18, true), (19, true), (14, false), (20, false), (21, false)] mixd ?q1 ?_); (case q1 => kernel_rfl)))))
              | refine w1 ?_
              | (refine w2 ?_ ?_ <;> intro hc)
              | (first
              | ((refine' ⟨_, Yl_convI rfl ?q1 ?q2 ?q3, ?_⟩); (case q1 => exact und_of rfl); (case q2 => exact und_of rfl); (case q3 => ((refine' u64_in ?q1); (case q1 => omega))))
              | ((refine' ⟨_, Yl_convI rfl ?q1 ?q2 ?q3, ?_⟩); (case q1 => exact und_of rfl); (case q2 => exact und_of rfl); (case q3 => ((refine' IntWalk.i64_in _ ?q1); (case q1 => omega))))
              | ((refine' ⟨_, Yl_convW rfl ?q1 ?q2, ?_⟩); (case q1 => exact und_of rfl); (case q2 => exact und_of rfl))
              | ((refine' ⟨_, Yl_remE rfl rfl ?q1 ?q2 hkk, ?_⟩); (case q1 => exact wrap_u64_lo _); (case q2 => omega))
              | ((refine' ⟨_, Yl_str_hp (l := p.1) rfl ?q1 ?q2 ?q3 (fun w hp => hp.in_row (p := p) ?q4), ?_⟩); (case q1 => exact und_of rfl); (case q2 => exact und_of rfl); (case q3 => exact und_of rfl); (case q4 => (repeat (first | exact .head _ | apply List.Mem.tail))))
              | ((refine' ⟨_, Yl_str_hp (l := y.1) rfl ?q1 ?q2 ?q3 (fun w hp => hp.in_old hyi), ?_⟩); (case q1 => exact und_of rfl); (case q2 => exact und_of rfl); (case q3 => exact und_of rfl)))
              | (refine w4 ?_; (first | ((fail_if_success have := b1); intro b1) | intro _))
              | (refine w5 ?_; (first | ((fail_if_success have := A1); intro A1 c1) | intro _ _))
              | refine w3 ?_ ?_
              | fail_if_success skip)
            refine T.loopM (α := Nat × List Pk) (fun z => [(5, .pointer (some ⟨b, 0, none⟩)), (6, .slice A0 wn.length c0), (10, .int .i64 (z.1 : Int))]) (fun z => [nO b c, chA c z.2, bag (z.2.map bP), .row 38 1 (.slice A0 wn.length c0) wn.length (wn.flatMap pE)])
              (fun z => z.1 ≤ wn.length ∧ z.2.map (·.1) = (wn.drop z.1).map (·.1)) (fun z => wn.length - z.1) (0, ls) ?_ ?_ ?_ ?_
            · (repeat (first | exact Sub.nil | refine Sub.cons rfl ?_))
            · exact fun _ h => h
            · exact ⟨Nat.zero_le _, hlw⟩
            · rintro ⟨i, ls'⟩ ⟨hi, hls⟩
              dsimp only at hi hls ⊢
              by_cases hil : i < wn.length
              · obtain ⟨y, hy⟩ := some_of_lt (l := wn) (i := i) hil
                rw [drop_at hy, List.map_cons] at hls
                obtain ⟨p, rest, rfl, hpy, hrest⟩ := List.map_eq_cons_iff.1 hls
                have hrl : rest.length = wn.length - (i + 1) := by have := congrArg List.length hrest; simpa using this
                have eY : (wn.flatMap pE)[i * 1]? = some (pV y) := enc_at pE_len hy (j := 0) (by decide)
                have hyi := hwi y (mem_of_some hy)
                have hs : (⟨p.1.toArray⟩ : ByteArray) = ⟨y.1.toArray⟩ := by rw [hpy]
                repeat' (first
                    | ((with_reducible refine is_load ?_); (first | ((refine' ⟨_, Yl_load_hp rfl ?q1 (fun w hp => hp.rd ha fun _ => List.not_mem_nil) ?q2, ?_⟩); (case q1 => exact one_of rfl); (case q2 => assumption)) | ((refine' ⟨_, Yl_load_hp rfl ?q1 (fun w hp => hp.rd hb fun _ => List.not_mem_nil) ?q2, ?_⟩); (case q1 => exact one_of rfl); (case q2 => assumption))))
                    | ((with_reducible refine ie_callf ?_); (first
                    | ((with_reducible refine g_call 19 ?_); (first | refine Ef_callP rfl rfl ent_19 (fun w _ => awake_c w) ?_))
                    | ((with_reducible refine g_call 9 ?_); (first | (refine Ef_callN rfl rfl ent_9 (fun w _ => new_c w) ?_; rintro ⟨b, c⟩)))
                    | ((with_reducible refine g_call 10 ?_); (first | (((refine' Ef_callW [false, true, true] rfl rfl ent_10 rfl rfl rfl (fun w hp hp2 => send_c b c w _ ls hp2 (some ⟨b1, 0, none⟩) 1 [x] (hp.rowOf ?q1) (hp.apartS [false, true, true] rfl rfl (A := .row 38 1 (.slice (some ⟨b1, 0, none⟩) 1 1) 1 [pV x]) ?q2 (.head _)) (fun y hy => by rw [List.mem_singleton.1 hy]; exact hp.in_old hxi) (fun y hy h => by rw [List.mem_singleton.1 hy] at h ⊢; exact hp.outS [false, true, true] rfl (hxi.lt h) List.not_mem_nil) (fun y hy => by rw [List.mem_singleton.1 hy]; omega) hroom) ?_); (case q1 => (repeat (first | exact .head _ | apply List.Mem.tail))); (case q2 => (repeat (first | exact .head _ | apply List.Mem.tail)))); rintro ns hns)))
                    | ((with_reducible refine g_call 11 ?_); (first | (((refine' Ef_callX (φ := fun ns : List Pk => ns.map (·.1) = [x0.1]) [true, true, true] rfl rfl ent_11 rfl rfl rfl (fun w hp => double_c b c w _ ls hp hlb (kk : Int) ?q1 x0 hx0) ?_); (case q1 => omega)); rintro ns hns)))
                    | ((with_reducible refine g_call 14 ?_); (first | ((refine' Ef_callT [true, true, true] rfl rfl ent_14 rfl rfl rfl (fun w hp => take0_c b c w _ p rest hp ?q1) ?_); (case q1 => omega)) | refine Ef_callT [true, true, true] rfl rfl ent_14 rfl rfl rfl (fun w hp => takeE_c b c w _ 0 hp) ?_))
                    | ((with_reducible refine g_call 12 ?_); (first | refine Ef_callT [true, true] rfl rfl ent_12 rfl rfl rfl (fun w hp => len_c b c w _ rest hp) ?_))))
                    | (first | ((((refine' Ef_appG_row (xs := wn.flatMap pE) (news := [pV x]) rfl rfl rfl ?q1 ?q2 ?q3 (pE_one x) ?q4 ?q5 ?_); (case q1 => exact app_of rfl); (case q2 => (first | exact at0 | exact at1 | exact at2 | exact at3 | exact at4 | exact at5 | exact at6)); (case q3 => (repeat (first | exact .head _ | apply List.Mem.tail))); (case q4 => omega); (case q5 => omega))); (first | ((fail_if_success have := A1); intro A1 c1) | intro _ _)))
                    | ((with_reducible refine g_draw ?_); (first | (((with_reducible refine' T.drawM (id := 26) [(0, false), (1, false), (2, false), (3, true), (4, true), (5, true), (6, false), (7, false), (8, false), (9, false), (10, false), (11, false), (12, false), (13, true), (15, true), (16, true), (17, true), (18, true), (19, true), (14, false), (20, false), (21, false)] mixd ?q1 ?_); (case q1 => kernel_rfl)))))
                    | refine w1 ?_
                    | (refine w2 ?_ ?_ <;> intro hc)
                    | (first
                    | ((refine' ⟨_, Yl_convI rfl ?q1 ?q2 ?q3, ?_⟩); (case q1 => exact und_of rfl); (case q2 => exact und_of rfl); (case q3 => ((refine' u64_in ?q1); (case q1 => omega))))
                    | ((refine' ⟨_, Yl_convI rfl ?q1 ?q2 ?q3, ?_⟩); (case q1 => exact und_of rfl); (case q2 => exact und_of rfl); (case q3 => ((refine' IntWalk.i64_in _ ?q1); (case q1 => omega))))
                    | ((refine' ⟨_, Yl_convW rfl ?q1 ?q2, ?_⟩); (case q1 => exact und_of rfl); (case q2 => exact und_of rfl))
                    | ((refine' ⟨_, Yl_remE rfl rfl ?q1 ?q2 hkk, ?_⟩); (case q1 => exact wrap_u64_lo _); (case q2 => omega))
                    | ((refine' ⟨_, Yl_str_hp (l := p.1) rfl ?q1 ?q2 ?q3 (fun w hp => hp.in_row (p := p) ?q4), ?_⟩); (case q1 => exact und_of rfl); (case q2 => exact und_of rfl); (case q3 => exact und_of rfl); (case q4 => (repeat (first | exact .head _ | apply List.Mem.tail))))
                    | ((refine' ⟨_, Yl_str_hp (l := y.1) rfl ?q1 ?q2 ?q3 (fun w hp => hp.in_old hyi), ?_⟩); (case q1 => exact und_of rfl); (case q2 => exact und_of rfl); (case q3 => exact und_of rfl)))
                    | (refine w4 ?_; (first | ((fail_if_success have := b1); intro b1) | intro _))
                    | (refine w5 ?_; (first | ((fail_if_success have := A1); intro A1 c1) | intro _ _))
                    | refine w3 ?_ ?_
                    | fail_if_success skip)
                refine loopH_n (i + 1, rest) ?_ (fun w' h => h.ofPart (by (repeat (first | exact Part.nil | refine Part.p0 ?_ | refine Part.p1 ?_ | refine Part.p2 ?_ | refine Part.p3 ?_ | refine Part.p4 ?_ | refine Part.p5 ?_ | refine Part.p6 ?_)))) ⟨show i + 1 ≤ _ by omega, hrest⟩ (show wn.length - (i + 1) < wn.length - i by omega)
                (repeat (first | exact Sub.nil | refine Sub.cons rfl ?_))
              · rw [List.drop_of_length_le (by omega)] at hls
                obtain rfl : ls' = [] := List.map_eq_nil_iff.1 hls
                repeat' (first
                    | ((with_reducible refine is_load ?_); (first | ((refine' ⟨_, Yl_load_hp rfl ?q1 (fun w hp => hp.rd ha fun _ => List.not_mem_nil) ?q2, ?_⟩); (case q1 => exact one_of rfl); (case q2 => assumption)) | ((refine' ⟨_, Yl_load_hp rfl ?q1 (fun w hp => hp.rd hb fun _ => List.not_mem_nil) ?q2, ?_⟩); (case q1 => exact one_of rfl); (case q2 => assumption))))
                    | ((with_reducible refine ie_callf ?_); (first
                    | ((with_reducible refine g_call 19 ?_); (first | refine Ef_callP rfl rfl ent_19 (fun w _ => awake_c w) ?_))
                    | ((with_reducible refine g_call 9 ?_); (first | (refine Ef_callN rfl rfl ent_9 (fun w _ => new_c w) ?_; rintro ⟨b, c⟩)))
                    | ((with_reducible refine g_call 10 ?_); (first | (((refine' Ef_callW [false, true, true] rfl rfl ent_10 rfl rfl rfl (fun w hp hp2 => send_c b c w _ ls hp2 (some ⟨b1, 0, none⟩) 1 [x] (hp.rowOf ?q1) (hp.apartS [false, true, true] rfl rfl (A := .row 38 1 (.slice (some ⟨b1, 0, none⟩) 1 1) 1 [pV x]) ?q2 (.head _)) (fun y hy => by rw [List.mem_singleton.1 hy]; exact hp.in_old hxi) (fun y hy h => by rw [List.mem_singleton.1 hy] at h ⊢; exact hp.outS [false, true, true] rfl (hxi.lt h) List.not_mem_nil) (fun y hy => by rw [List.mem_singleton.1 hy]; omega) hroom) ?_); (case q1 => (repeat (first | exact .head _ | apply List.Mem.tail))); (case q2 => (repeat (first | exact .head _ | apply List.Mem.tail)))); rintro ns hns)))
                    | ((with_reducible refine g_call 11 ?_); (first | (((refine' Ef_callX (φ := fun ns : List Pk => ns.map (·.1) = [x0.1]) [true, true, true] rfl rfl ent_11 rfl rfl rfl (fun w hp => double_c b c w _ ls hp hlb (kk : Int) ?q1 x0 hx0) ?_); (case q1 => omega)); rintro ns hns)))
                    | ((with_reducible refine g_call 14 ?_); (first | ((refine' Ef_callT [true, true, true] rfl rfl ent_14 rfl rfl rfl (fun w hp => take0_c b c w _ p rest hp ?q1) ?_); (case q1 => omega)) | refine Ef_callT [true, true, true] rfl rfl ent_14 rfl rfl rfl (fun w hp => takeE_c b c w _ 0 hp) ?_))
                    | ((with_reducible refine g_call 12 ?_); (first | refine Ef_callT [true, true] rfl rfl ent_12 rfl rfl rfl (fun w hp => len_c b c w _ rest hp) ?_))))
                    | (first | ((((refine' Ef_appG_row (xs := wn.flatMap pE) (news := [pV x]) rfl rfl rfl ?q1 ?q2 ?q3 (pE_one x) ?q4 ?q5 ?_); (case q1 => exact app_of rfl); (case q2 => (first | exact at0 | exact at1 | exact at2 | exact at3 | exact at4 | exact at5 | exact at6)); (case q3 => (repeat (first | exact .head _ | apply List.Mem.tail))); (case q4 => omega); (case q5 => omega))); (first | ((fail_if_success have := A1); intro A1 c1) | intro _ _)))
                    | ((with_reducible refine g_draw ?_); (first | (((with_reducible refine' T.drawM (id := 26) [(0, false), (1, false), (2, false), (3, true), (4, true), (5, true), (6, false), (7, false), (8, false), (9, false), (10, false), (11, false), (12, false), (13, true), (15, true), (16, true), (17, true), (18, true), (19, true), (14, false), (20, false), (21, false)] mixd ?q1 ?_); (case q1 => kernel_rfl)))))
                    | refine w1 ?_
                    | (refine w2 ?_ ?_ <;> intro hc)
                    | (first
                    | ((refine' ⟨_, Yl_convI rfl ?q1 ?q2 ?q3, ?_⟩); (case q1 => exact und_of rfl); (case q2 => exact und_of rfl); (case q3 => ((refine' u64_in ?q1); (case q1 => omega))))
                    | ((refine' ⟨_, Yl_convI rfl ?q1 ?q2 ?q3, ?_⟩); (case q1 => exact und_of rfl); (case q2 => exact und_of rfl); (case q3 => ((refine' IntWalk.i64_in _ ?q1); (case q1 => omega))))
                    | ((refine' ⟨_, Yl_convW rfl ?q1 ?q2, ?_⟩); (case q1 => exact und_of rfl); (case q2 => exact und_of rfl))
                    | ((refine' ⟨_, Yl_remE rfl rfl ?q1 ?q2 hkk, ?_⟩); (case q1 => exact wrap_u64_lo _); (case q2 => omega))
                    | ((refine' ⟨_, Yl_str_hp (l := p.1) rfl ?q1 ?q2 ?q3 (fun w hp => hp.in_row (p := p) ?q4), ?_⟩); (case q1 => exact und_of rfl); (case q2 => exact und_of rfl); (case q3 => exact und_of rfl); (case q4 => (repeat (first | exact .head _ | apply List.Mem.tail))))
                    | ((refine' ⟨_, Yl_str_hp (l := y.1) rfl ?q1 ?q2 ?q3 (fun w hp => hp.in_old hyi), ?_⟩); (case q1 => exact und_of rfl); (case q2 => exact und_of rfl); (case q3 => exact und_of rfl)))
                    | (refine w4 ?_; (first | ((fail_if_success have := b1); intro b1) | intro _))
                    | (refine w5 ?_; (first | ((fail_if_success have := A1); intro A1 c1) | intro _ _))
                    | refine w3 ?_ ?_
                    | fail_if_success skip)
                exact ret_n [] (res1 rfl rfl) (List.nil_sublist _) ⟨rfl, rfl⟩
  · have h2 : 100 < l.length ∨ (¬ 100 < l.length ∧ 50 < tw.length) ∨ (¬ 100 < l.length ∧ ¬ 50 < tw.length ∧ l.length = 0) := by omega
    rcases h2 with h2 | ⟨h2, h3⟩ | ⟨h2, h3, h4⟩
    all_goals
      refine Sp.enter (n := 125) Try.func7 rfl rfl rfl (Hp.refl w) ?_
      repeat' (first
          | ((with_reducible refine is_load ?_); (first | ((refine' ⟨_, Yl_load_hp rfl ?q1 (fun w hp => hp.rd ha fun _ => List.not_mem_nil) ?q2, ?_⟩); (case q1 => exact one_of rfl); (case q2 => assumption)) | ((refine' ⟨_, Yl_load_hp rfl ?q1 (fun w hp => hp.rd hb fun _ => List.not_mem_nil) ?q2, ?_⟩); (case q1 => exact one_of rfl); (case q2 => assumption))))
          | ((with_reducible refine ie_callf ?_); (first
          | ((with_reducible refine g_call 19 ?_); (first | refine Ef_callP rfl rfl ent_19 (fun w _ => awake_c w) ?_))
          | ((with_reducible refine g_call 9 ?_); (first | (refine Ef_callN rfl rfl ent_9 (fun w _ => new_c w) ?_; rintro ⟨b, c⟩)))
          | ((with_reducible refine g_call 10 ?_); (first | (((refine' Ef_callW [false, true, true] rfl rfl ent_10 rfl rfl rfl (fun w hp hp2 => send_c b c w _ ls hp2 (some ⟨b1, 0, none⟩) 1 [x] (hp.rowOf ?q1) (hp.apartS [false, true, true] rfl rfl (A := .row 38 1 (.slice (some ⟨b1, 0, none⟩) 1 1) 1 [pV x]) ?q2 (.head _)) (fun y hy => by rw [List.mem_singleton.1 hy]; exact hp.in_old hxi) (fun y hy h => by rw [List.mem_singleton.1 hy] at h ⊢; exact hp.outS [false, true, true] rfl (hxi.lt h) List.not_mem_nil) (fun y hy => by rw [List.mem_singleton.1 hy]; omega) hroom) ?_); (case q1 => (repeat (first | exact .head _ | apply List.Mem.tail))); (case q2 => (repeat (first | exact .head _ | apply List.Mem.tail)))); rintro ns hns)))
          | ((with_reducible refine g_call 11 ?_); (first | (((refine' Ef_callX (φ := fun ns : List Pk => ns.map (·.1) = [x0.1]) [true, true, true] rfl rfl ent_11 rfl rfl rfl (fun w hp => double_c b c w _ ls hp hlb (kk : Int) ?q1 x0 hx0) ?_); (case q1 => omega)); rintro ns hns)))
          | ((with_reducible refine g_call 14 ?_); (first | ((refine' Ef_callT [true, true, true] rfl rfl ent_14 rfl rfl rfl (fun w hp => take0_c b c w _ p rest hp ?q1) ?_); (case q1 => omega)) | refine Ef_callT [true, true, true] rfl rfl ent_14 rfl rfl rfl (fun w hp => takeE_c b c w _ 0 hp) ?_))
          | ((with_reducible refine g_call 12 ?_); (first | refine Ef_callT [true, true] rfl rfl ent_12 rfl rfl rfl (fun w hp => len_c b c w _ rest hp) ?_))))
          | (first | ((((refine' Ef_appG_row (xs := wn.flatMap pE) (news := [pV x]) rfl rfl rfl ?q1 ?q2 ?q3 (pE_one x) ?q4 ?q5 ?_); (case q1 => exact app_of rfl); (case q2 => (first | exact at0 | exact at1 | exact at2 | exact at3 | exact at4 | exact at5 | exact at6)); (case q3 => (repeat (first | exact .head _ | apply List.Mem.tail))); (case q4 => omega); (case q5 => omega))); (first | ((fail_if_success have := A1); intro A1 c1) | intro _ _)))
          | ((with_reducible refine g_draw ?_); (first | (((with_reducible refine' T.drawM (id := 26) [(0, false), (1, false), (2, false), (3, true), (4, true), (5, true), (6, false), (7, false), (8, false), (9, false), (10, false), (11, false), (12, false), (13, true), (15, true), (16, true), (17, true), (18, true), (19, true), (14, false), (20, false), (21, false)] mixd ?q1 ?_); (case q1 => kernel_rfl)))))
          | refine w1 ?_
          | (refine w2 ?_ ?_ <;> intro hc)
          | (first
          | ((refine' ⟨_, Yl_convI rfl ?q1 ?q2 ?q3, ?_⟩); (case q1 => exact und_of rfl); (case q2 => exact und_of rfl); (case q3 => ((refine' u64_in ?q1); (case q1 => omega))))
          | ((refine' ⟨_, Yl_convI rfl ?q1 ?q2 ?q3, ?_⟩); (case q1 => exact und_of rfl); (case q2 => exact und_of rfl); (case q3 => ((refine' IntWalk.i64_in _ ?q1); (case q1 => omega))))
          | ((refine' ⟨_, Yl_convW rfl ?q1 ?q2, ?_⟩); (case q1 => exact und_of rfl); (case q2 => exact und_of rfl))
          | ((refine' ⟨_, Yl_remE rfl rfl ?q1 ?q2 hkk, ?_⟩); (case q1 => exact wrap_u64_lo _); (case q2 => omega))
          | ((refine' ⟨_, Yl_str_hp (l := p.1) rfl ?q1 ?q2 ?q3 (fun w hp => hp.in_row (p := p) ?q4), ?_⟩); (case q1 => exact und_of rfl); (case q2 => exact und_of rfl); (case q3 => exact und_of rfl); (case q4 => (repeat (first | exact .head _ | apply List.Mem.tail))))
          | ((refine' ⟨_, Yl_str_hp (l := y.1) rfl ?q1 ?q2 ?q3 (fun w hp => hp.in_old hyi), ?_⟩); (case q1 => exact und_of rfl); (case q2 => exact und_of rfl); (case q3 => exact und_of rfl)))
          | (refine w4 ?_; (first | ((fail_if_success have := b1); intro b1) | intro _))
          | (refine w5 ?_; (first | ((fail_if_success have := A1); intro A1 c1) | intro _ _))
          | refine w3 ?_ ?_
          | fail_if_success skip)
      exact ret_n [] (res1 rfl rfl) (List.nil_sublist _) ⟨rfl, rfl⟩
end
end Go.Proofs.Ytdbpnolpgkcjiaa
