/- Law: what is taken is the one in its place, the others stay in order, whatever the size: what a call comes to. -/
import Derived.Test.YtdbpnolpgkcjiaaT8
import Derived.Test.YtdbpnolpgkcjiaaT15
import Derived.Test.YtdbpnolpgkcjiaaT6
import Derived.Test.YtdbpnolpgkcjiaaT7
import Derived.Test.YtdbpnolpgkcjiaaL8
namespace Go.Proofs.Ytdbpnolpgkcjiaa
open Go.RowKit Go.Conc

theorem pks_all {ns m : List Pk} (hn : ns.map (·.1) = m.map (·.1)) (h2 : ∀ p ∈ m, p.1.length ≤ 140737488355328) : ∀ p ∈ ns, p.1.length ≤ 140737488355328 := fun p hp => by
  have h1 : p.1 ∈ m.map (·.1) := hn ▸ List.mem_map.2 ⟨p, hp, rfl⟩
  obtain ⟨y, hy, hyp⟩ := List.mem_map.1 h1
  rw [← hyp]; exact h2 y hy

section
variable (A : Option Addr) (ca : Nat) (l : List Ac) (k : Int) (w : World) (ha : Rd w A l.length 3 (l.flatMap aE)) (hin : ∀ a ∈ l, ArgIn w a) (hle : l.length ≤ 140737488355328) (hlk : ∀ a ∈ l, a.l.length ≤ 140737488355328) (hpk : ∀ a ∈ l, ∀ p ∈ a.l, p.1.length ≤ 140737488355328)
include ha hin hle hlk hpk
set_option maxHeartbeats 16000000 in
theorem restG_law : Sp Try.prog 8 [.slice A l.length ca, .int .i64 k] w [] fun v N => v = .bool true ∧ N = [] := by
  have hgr : ∀ w' : World, Hp w [] [bag []] w' → Sp Try.prog 13 [.slice A l.length ca] w' [] fun v N => ∃ q : Bool, v = .bool q ∧ N = [] := fun w' hp => greatAny_c A ca l w' (hp.rd ha fun _ => List.not_mem_nil) (fun a h => hp.rd (hin a h).1 fun _ => List.not_mem_nil) hle hlk
  refine Sp.enter (n := 126) Try.func8 rfl rfl rfl (Hp.refl w) ?_
  refine T.mem (fun _ h => h.bagNil) ?_
  repeat' (first
      | ((with_reducible refine is_load ?_); (first | ((refine' ⟨_, Yl_load_hp rfl ?q1 (fun w hp => hp.rd ha fun _ => List.not_mem_nil) ?q2, ?_⟩); (case q1 => exact one_of rfl); (case q2 => assumption)) | ((refine' ⟨_, Yl_load_row rfl ?q1 ?q2 eY, ?_⟩); (case q1 => exact one_of rfl); (case q2 => (repeat (first | exact .head _ | apply List.Mem.tail)))) | ((refine' ⟨_, Yl_load_row rfl ?q1 ?q2 eZ, ?_⟩); (case q1 => exact one_of rfl); (case q2 => (repeat (first | exact .head _ | apply List.Mem.tail))))))
      | ((with_reducible refine is_idx ?_); (first | ((refine' ⟨_, Yl_index_hp (j := j + 1) rfl rfl ?q1 ?q2 ?q3 (fun w hp => hp.rowOf ?q4), ?_⟩); (case q1 => exact und_of rfl); (case q2 => exact siz_of rfl); (case q3 => omega); (case q4 => (repeat (first | exact .head _ | apply List.Mem.tail))))))
      | ((with_reducible refine ie_callf ?_); (first
      | ((with_reducible refine g_call 19 ?_); (first | refine Ef_callP rfl rfl ent_19 (fun w _ => awake_c w) ?_))
      | ((with_reducible refine g_call 13 ?_); (first | (refine Ef_callN rfl rfl ent_13 (fun w hp => hgr w hp) ?_; rintro (_ | _))))
      | ((with_reducible refine g_call 9 ?_); (first | (refine Ef_callN rfl rfl ent_9 (fun w _ => new_c w) ?_; rintro ⟨b, c⟩)))
      | ((with_reducible refine g_call 10 ?_); (first | (refine Ef_callW [true, true, false] rfl rfl ent_10 rfl rfl rfl (fun w hp hp2 => sendG_c b w _ ls hlz x.h.1 x.h.2 x.l (hp.rd hxa.1 fun _ => List.not_mem_nil) (fun h => hp.outS [true, true, false] rfl (hxa.1.lt h) List.not_mem_nil) (hp.ins_old hxa.2) (fun y hy h => hp.outS [true, true, false] rfl ((hxa.2 y hy).lt h) List.not_mem_nil) hx6 hxl c hp2) ?_; rintro ns hns)))
      | ((with_reducible refine g_call 11 ?_); (first | (((refine' Ef_callX (φ := fun ns : List Pk => ns.map (·.1) = [x0.1]) [true, true, true] rfl rfl ent_11 rfl rfl rfl (fun w hp => double_c b c w _ ls hp hlb x.n ?q1 x0 hx0) ?_); (case q1 => omega)); rintro ns hns) | ((refine' Ef_callT [true, true, true] rfl rfl ent_11 rfl rfl rfl (fun w hp => doubleF_c b c w _ ls ?q1 hp hlb x.n ?q2 x0 hx0) ?_); (case q1 => omega); (case q2 => omega)) | refine Ef_callT [true, true, true] rfl rfl ent_11 rfl rfl rfl (fun w hp => doubleE_c b c w _ x.n hp) ?_))
      | ((with_reducible refine g_call 14 ?_); (first | refine Ef_callT [false, false, true, true, true] rfl rfl ent_14 rfl rfl rfl (fun w hp => htake w _ hp) ?_ | refine Ef_callT [false, false, true, true, true] rfl rfl ent_14 rfl rfl rfl (fun w hp => takeE_c b c w _ k hp) ?_))
      | ((with_reducible refine g_call 16 ?_); (first
      | (((refine' Ef_callX (φ := fun y : Hd × List Pk => y.2.map (·.1) = (ls.eraseIdx p).map (·.1)) [true, true, true, false, false, false] rfl rfl ent_16 rfl rfl rfl (fun w hp => all2_c b c w _ (ls.eraseIdx p) hp (fun q hp' => hlb q (List.mem_of_mem_eraseIdx hp')) ?q1) ?_); (case q1 => rw [hel]; omega)); rintro ⟨⟨A6, c6⟩, now⟩ hnow; dsimp only at hnow ⊢; have hnl := len_of hnow)
      | (((refine' Ef_callX (φ := fun y : Hd × List Pk => y.2.map (·.1) = ls.map (·.1)) [true, true, true] rfl rfl ent_16 rfl rfl rfl (fun w hp => all2_c b c w _ ls hp hlb ?q1) ?_); (case q1 => omega)); rintro ⟨⟨A5, c5⟩, was⟩ hwas; dsimp only at hwas ⊢; have hwl := len_of hwas; obtain ⟨y, hy, hyx⟩ := at_of hwas h0; have eY : (was.flatMap pE)[p * 1]? = some (pV y) := enc_at pE_len hy (j := 0) Nat.one_pos; have hs := str_of hyx; have hpl := tm_of k hwl hz hp0; have htr := tr_of k hwl hz)
      | (((refine' Ef_callX (φ := fun y : Hd × List Pk => y.2.map (·.1) = ([] : List Pk).map (·.1)) [true, true, true] rfl rfl ent_16 rfl rfl rfl (fun w hp => all2_c b c w _ [] hp (fun x hx => by cases hx) ?q1) ?_); (case q1 => simp)); rintro ⟨⟨A5, c5⟩, was⟩ hwas; obtain rfl : was = [] := List.map_eq_nil_iff.1 hwas; dsimp only [List.length_nil])
      | (((refine' Ef_callX (φ := fun y : Hd × List Pk => y.2.map (·.1) = ([] : List Pk).map (·.1)) [true, true, true, false, false] rfl rfl ent_16 rfl rfl rfl (fun w hp => all2_c b c w _ [] hp (fun x hx => by cases hx) ?q1) ?_); (case q1 => simp)); rintro ⟨⟨A6, c6⟩, now⟩ hnow; obtain rfl : now = [] := List.map_eq_nil_iff.1 hnow; dsimp only [List.length_nil])))))
      | ((with_reducible refine g_draw ?_); (first | (((with_reducible refine' T.drawM (id := 24) [(0, true), (1, true), (2, true), (3, false), (4, false), (5, false), (6, false), (7, false)] mixd ?q1 ?_); (case q1 => kernel_rfl))) | (((with_reducible refine' T.drawM (id := 32) [(0, true), (1, true), (2, true), (3, true), (4, true), (5, true), (6, false), (7, false), (8, false), (9, false), (10, false)] mixd ?q1 ?_); (case q1 => kernel_rfl)))))
      | refine w1 ?_
      | (refine w2 ?_ ?_ <;> intro hc)
      | (first
      | ((refine' ⟨_, Yl_remE (r := (p : Int)) rfl rfl ?q1 ?q2 hpl, ?_⟩); (case q1 => omega); (case q2 => omega))
      | ((refine' ⟨_, Yl_rem_t rfl rfl ?q1, ?_⟩); (case q1 => omega))
      | ((refine' ⟨_, Yl_str_hp (l := x0.1) rfl ?q1 ?q2 ?q3 (fun w hp => hp.in_row (p := x0) ?q4), ?_⟩); (case q1 => exact und_of rfl); (case q2 => exact und_of rfl); (case q3 => exact und_of rfl); (case q4 => (repeat (first | exact .head _ | apply List.Mem.tail))))
      | ((refine' ⟨_, Yl_str_hp (l := y.1) rfl ?q1 ?q2 ?q3 (fun w hp => hp.ins_bag (ps := was) ?q4 y (mem_of_some hy)), ?_⟩); (case q1 => exact und_of rfl); (case q2 => exact und_of rfl); (case q3 => exact und_of rfl); (case q4 => (repeat (first | exact .head _ | apply List.Mem.tail))))
      | ((refine' ⟨_, Yl_str_hp (l := z.1) rfl ?q1 ?q2 ?q3 (fun w hp => hp.ins_bag (ps := now) ?q4 z (mem_of_some hz)), ?_⟩); (case q1 => exact und_of rfl); (case q2 => exact und_of rfl); (case q3 => exact und_of rfl); (case q4 => (repeat (first | exact .head _ | apply List.Mem.tail)))))
      | (refine w4 ?_; (intro _))
      | (refine w5 ?_; (first | ((fail_if_success have := A1); intro A1 c1) | ((fail_if_success have := A2); intro A2 c2) | ((fail_if_success have := A3); intro A3 c3) | ((fail_if_success have := A4); intro A4 c4) | ((fail_if_success have := A5); intro A5 c5) | ((fail_if_success have := A6); intro A6 c6) | intro _ _))
      | refine w3 ?_ ?_
      | fail_if_success skip)
  · refine T.loopM (α := Nat × List Pk) (fun z => [(0, .slice A l.length ca), (1, .int .i64 k), (5, .pointer (some ⟨b, 0, none⟩)), (6, .int .i64 (z.1 : Int))]) (fun z => [nO b c, chA c z.2, bag (z.2.map bP)])
      (fun z => z.1 ≤ l.length ∧ z.2.length ≤ 4096 ∧ ∀ p ∈ z.2, p.1.length ≤ 140737488355328) (fun z => l.length - z.1) (0, []) ?_ ?_ ?_ ?_
    · (repeat (first | exact Sub.nil | refine Sub.cons rfl ?_))
    · exact fun _ h => h.ofPart (by (repeat (first | exact Part.nil | refine Part.p0 ?_ | refine Part.p1 ?_ | refine Part.p2 ?_ | refine Part.p3 ?_ | refine Part.p4 ?_ | refine Part.p5 ?_ | refine Part.p6 ?_)))
    · exact ⟨Nat.zero_le _, Nat.zero_le _, fun x hx => by cases hx⟩
    · rintro ⟨i, ls⟩ ⟨hi, hlz, hlb⟩
      dsimp only at hi hlz hlb ⊢
      by_cases hlt : i < l.length
      · obtain ⟨x, hx⟩ := some_of_lt (l := l) (i := i) hlt
        have e0 : (l.flatMap aE)[i * 3 + 0]? = some (.int .i64 x.kind) := enc_at aE_len hx (j := 0) (by decide)
        have e1 : (l.flatMap aE)[i * 3 + 1]? = some (.int .i64 x.n) := enc_at aE_len hx (j := 1) (by decide)
        have e2 : (l.flatMap aE)[i * 3 + 2]? = some (.slice x.h.1 x.l.length x.h.2) := enc_at aE_len hx (j := 2) (by decide)
        have hxa := hin x (mem_of_some hx)
        have hx6 := hpk x (mem_of_some hx)
        have hxl := hlk x (mem_of_some hx)
        have hcs : (x.kind = 0 ∨ x.kind = 1 ∨ x.kind = 2) ∨ (¬ x.kind = 0 ∧ ¬ x.kind = 1 ∧ ¬ x.kind = 2) := by omega
        rcases hcs with hcs | ⟨k0, k1, k2⟩
        · rcases hcs with hcs | hcs | hcs
          all_goals
            repeat' (first
                | ((with_reducible refine is_load ?_); (first | ((refine' ⟨_, Yl_load_hp rfl ?q1 (fun w hp => hp.rd ha fun _ => List.not_mem_nil) ?q2, ?_⟩); (case q1 => exact one_of rfl); (case q2 => assumption)) | ((refine' ⟨_, Yl_load_row rfl ?q1 ?q2 eY, ?_⟩); (case q1 => exact one_of rfl); (case q2 => (repeat (first | exact .head _ | apply List.Mem.tail)))) | ((refine' ⟨_, Yl_load_row rfl ?q1 ?q2 eZ, ?_⟩); (case q1 => exact one_of rfl); (case q2 => (repeat (first | exact .head _ | apply List.Mem.tail))))))
                | ((with_reducible refine is_idx ?_); (first | ((refine' ⟨_, Yl_index_hp (j := j + 1) rfl rfl ?q1 ?q2 ?q3 (fun w hp => hp.rowOf ?q4), ?_⟩); (case q1 => exact und_of rfl); (case q2 => exact siz_of rfl); (case q3 => omega); (case q4 => (repeat (first | exact .head _ | apply List.Mem.tail))))))
                | ((with_reducible refine ie_callf ?_); (first
                | ((with_reducible refine g_call 19 ?_); (first | refine Ef_callP rfl rfl ent_19 (fun w _ => awake_c w) ?_))
                | ((with_reducible refine g_call 13 ?_); (first | (refine Ef_callN rfl rfl ent_13 (fun w hp => hgr w hp) ?_; rintro (_ | _))))
                | ((with_reducible refine g_call 9 ?_); (first | (refine Ef_callN rfl rfl ent_9 (fun w _ => new_c w) ?_; rintro ⟨b, c⟩)))
                | ((with_reducible refine g_call 10 ?_); (first | (refine Ef_callW [true, true, false] rfl rfl ent_10 rfl rfl rfl (fun w hp hp2 => sendG_c b w _ ls hlz x.h.1 x.h.2 x.l (hp.rd hxa.1 fun _ => List.not_mem_nil) (fun h => hp.outS [true, true, false] rfl (hxa.1.lt h) List.not_mem_nil) (hp.ins_old hxa.2) (fun y hy h => hp.outS [true, true, false] rfl ((hxa.2 y hy).lt h) List.not_mem_nil) hx6 hxl c hp2) ?_; rintro ns hns)))
                | ((with_reducible refine g_call 11 ?_); (first | (((refine' Ef_callX (φ := fun ns : List Pk => ns.map (·.1) = [x0.1]) [true, true, true] rfl rfl ent_11 rfl rfl rfl (fun w hp => double_c b c w _ ls hp hlb x.n ?q1 x0 hx0) ?_); (case q1 => omega)); rintro ns hns) | ((refine' Ef_callT [true, true, true] rfl rfl ent_11 rfl rfl rfl (fun w hp => doubleF_c b c w _ ls ?q1 hp hlb x.n ?q2 x0 hx0) ?_); (case q1 => omega); (case q2 => omega)) | refine Ef_callT [true, true, true] rfl rfl ent_11 rfl rfl rfl (fun w hp => doubleE_c b c w _ x.n hp) ?_))
                | ((with_reducible refine g_call 14 ?_); (first | refine Ef_callT [false, false, true, true, true] rfl rfl ent_14 rfl rfl rfl (fun w hp => htake w _ hp) ?_ | refine Ef_callT [false, false, true, true, true] rfl rfl ent_14 rfl rfl rfl (fun w hp => takeE_c b c w _ k hp) ?_))
                | ((with_reducible refine g_call 16 ?_); (first
                | (((refine' Ef_callX (φ := fun y : Hd × List Pk => y.2.map (·.1) = (ls.eraseIdx p).map (·.1)) [true, true, true, false, false, false] rfl rfl ent_16 rfl rfl rfl (fun w hp => all2_c b c w _ (ls.eraseIdx p) hp (fun q hp' => hlb q (List.mem_of_mem_eraseIdx hp')) ?q1) ?_); (case q1 => rw [hel]; omega)); rintro ⟨⟨A6, c6⟩, now⟩ hnow; dsimp only at hnow ⊢; have hnl := len_of hnow)
                | (((refine' Ef_callX (φ := fun y : Hd × List Pk => y.2.map (·.1) = ls.map (·.1)) [true, true, true] rfl rfl ent_16 rfl rfl rfl (fun w hp => all2_c b c w _ ls hp hlb ?q1) ?_); (case q1 => omega)); rintro ⟨⟨A5, c5⟩, was⟩ hwas; dsimp only at hwas ⊢; have hwl := len_of hwas; obtain ⟨y, hy, hyx⟩ := at_of hwas h0; have eY : (was.flatMap pE)[p * 1]? = some (pV y) := enc_at pE_len hy (j := 0) Nat.one_pos; have hs := str_of hyx; have hpl := tm_of k hwl hz hp0; have htr := tr_of k hwl hz)
                | (((refine' Ef_callX (φ := fun y : Hd × List Pk => y.2.map (·.1) = ([] : List Pk).map (·.1)) [true, true, true] rfl rfl ent_16 rfl rfl rfl (fun w hp => all2_c b c w _ [] hp (fun x hx => by cases hx) ?q1) ?_); (case q1 => simp)); rintro ⟨⟨A5, c5⟩, was⟩ hwas; obtain rfl : was = [] := List.map_eq_nil_iff.1 hwas; dsimp only [List.length_nil])
                | (((refine' Ef_callX (φ := fun y : Hd × List Pk => y.2.map (·.1) = ([] : List Pk).map (·.1)) [true, true, true, false, false] rfl rfl ent_16 rfl rfl rfl (fun w hp => all2_c b c w _ [] hp (fun x hx => by cases hx) ?q1) ?_); (case q1 => simp)); rintro ⟨⟨A6, c6⟩, now⟩ hnow; obtain rfl : now = [] := List.map_eq_nil_iff.1 hnow; dsimp only [List.length_nil])))))
                | ((with_reducible refine g_draw ?_); (first | (((with_reducible refine' T.drawM (id := 24) [(0, true), (1, true), (2, true), (3, false), (4, false), (5, false), (6, false), (7, false)] mixd ?q1 ?_); (case q1 => kernel_rfl))) | (((with_reducible refine' T.drawM (id := 32) [(0, true), (1, true), (2, true), (3, true), (4, true), (5, true), (6, false), (7, false), (8, false), (9, false), (10, false)] mixd ?q1 ?_); (case q1 => kernel_rfl)))))
                | refine w1 ?_
                | (refine w2 ?_ ?_ <;> intro hc)
                | (first
                | ((refine' ⟨_, Yl_remE (r := (p : Int)) rfl rfl ?q1 ?q2 hpl, ?_⟩); (case q1 => omega); (case q2 => omega))
                | ((refine' ⟨_, Yl_rem_t rfl rfl ?q1, ?_⟩); (case q1 => omega))
                | ((refine' ⟨_, Yl_str_hp (l := x0.1) rfl ?q1 ?q2 ?q3 (fun w hp => hp.in_row (p := x0) ?q4), ?_⟩); (case q1 => exact und_of rfl); (case q2 => exact und_of rfl); (case q3 => exact und_of rfl); (case q4 => (repeat (first | exact .head _ | apply List.Mem.tail))))
                | ((refine' ⟨_, Yl_str_hp (l := y.1) rfl ?q1 ?q2 ?q3 (fun w hp => hp.ins_bag (ps := was) ?q4 y (mem_of_some hy)), ?_⟩); (case q1 => exact und_of rfl); (case q2 => exact und_of rfl); (case q3 => exact und_of rfl); (case q4 => (repeat (first | exact .head _ | apply List.Mem.tail))))
                | ((refine' ⟨_, Yl_str_hp (l := z.1) rfl ?q1 ?q2 ?q3 (fun w hp => hp.ins_bag (ps := now) ?q4 z (mem_of_some hz)), ?_⟩); (case q1 => exact und_of rfl); (case q2 => exact und_of rfl); (case q3 => exact und_of rfl); (case q4 => (repeat (first | exact .head _ | apply List.Mem.tail)))))
                | (refine w4 ?_; (intro _))
                | (refine w5 ?_; (first | ((fail_if_success have := A1); intro A1 c1) | ((fail_if_success have := A2); intro A2 c2) | ((fail_if_success have := A3); intro A3 c3) | ((fail_if_success have := A4); intro A4 c4) | ((fail_if_success have := A5); intro A5 c5) | ((fail_if_success have := A6); intro A6 c6) | intro _ _))
                | refine w3 ?_ ?_
                | fail_if_success skip)
            refine loopH_n (i + 1, ls ++ ns) ?_ (fun w' h => ?_) ⟨show i + 1 ≤ _ by omega, ?_, ?_⟩ (show l.length - (i + 1) < l.length - i by omega)
            · (repeat (first | exact Sub.nil | refine Sub.cons rfl ?_))
            · dsimp only
              rw [List.map_append]
              exact ((h.ofPart (M' := [bag (ls.map bP), bag (ns.map bP), nO b c, chA c (ls ++ ns)]) (by (repeat (first | exact Part.nil | refine Part.p0 ?_ | refine Part.p1 ?_ | refine Part.p2 ?_ | refine Part.p3 ?_ | refine Part.p4 ?_ | refine Part.p5 ?_ | refine Part.p6 ?_)))).bagApp).ofPart (by (repeat (first | exact Part.nil | refine Part.p0 ?_ | refine Part.p1 ?_ | refine Part.p2 ?_ | refine Part.p3 ?_ | refine Part.p4 ?_ | refine Part.p5 ?_ | refine Part.p6 ?_)))
            · dsimp only
              have hnl := len_of hns
              rw [List.length_take] at hnl
              rw [List.length_append]; omega
            · intro p hp
              rcases List.mem_append.1 hp with hp | hp
              · exact hlb p hp
              · exact pks_all hns (fun q hq => hx6 q (List.mem_of_mem_take hq)) p hp
        · by_cases k6 : x.kind = 6
          · rcases Nat.eq_zero_or_pos ls.length with hz | hz
            · obtain rfl : ls = [] := List.eq_nil_of_length_eq_zero hz
              repeat' (first
                  | ((with_reducible refine is_load ?_); (first | ((refine' ⟨_, Yl_load_hp rfl ?q1 (fun w hp => hp.rd ha fun _ => List.not_mem_nil) ?q2, ?_⟩); (case q1 => exact one_of rfl); (case q2 => assumption)) | ((refine' ⟨_, Yl_load_row rfl ?q1 ?q2 eY, ?_⟩); (case q1 => exact one_of rfl); (case q2 => (repeat (first | exact .head _ | apply List.Mem.tail)))) | ((refine' ⟨_, Yl_load_row rfl ?q1 ?q2 eZ, ?_⟩); (case q1 => exact one_of rfl); (case q2 => (repeat (first | exact .head _ | apply List.Mem.tail))))))
                  | ((with_reducible refine is_idx ?_); (first | ((refine' ⟨_, Yl_index_hp (j := j + 1) rfl rfl ?q1 ?q2 ?q3 (fun w hp => hp.rowOf ?q4), ?_⟩); (case q1 => exact und_of rfl); (case q2 => exact siz_of rfl); (case q3 => omega); (case q4 => (repeat (first | exact .head _ | apply List.Mem.tail))))))
                  | ((with_reducible refine ie_callf ?_); (first
                  | ((with_reducible refine g_call 19 ?_); (first | refine Ef_callP rfl rfl ent_19 (fun w _ => awake_c w) ?_))
                  | ((with_reducible refine g_call 13 ?_); (first | (refine Ef_callN rfl rfl ent_13 (fun w hp => hgr w hp) ?_; rintro (_ | _))))
                  | ((with_reducible refine g_call 9 ?_); (first | (refine Ef_callN rfl rfl ent_9 (fun w _ => new_c w) ?_; rintro ⟨b, c⟩)))
                  | ((with_reducible refine g_call 10 ?_); (first | (refine Ef_callW [true, true, false] rfl rfl ent_10 rfl rfl rfl (fun w hp hp2 => sendG_c b w _ ls hlz x.h.1 x.h.2 x.l (hp.rd hxa.1 fun _ => List.not_mem_nil) (fun h => hp.outS [true, true, false] rfl (hxa.1.lt h) List.not_mem_nil) (hp.ins_old hxa.2) (fun y hy h => hp.outS [true, true, false] rfl ((hxa.2 y hy).lt h) List.not_mem_nil) hx6 hxl c hp2) ?_; rintro ns hns)))
                  | ((with_reducible refine g_call 11 ?_); (first | (((refine' Ef_callX (φ := fun ns : List Pk => ns.map (·.1) = [x0.1]) [true, true, true] rfl rfl ent_11 rfl rfl rfl (fun w hp => double_c b c w _ ls hp hlb x.n ?q1 x0 hx0) ?_); (case q1 => omega)); rintro ns hns) | ((refine' Ef_callT [true, true, true] rfl rfl ent_11 rfl rfl rfl (fun w hp => doubleF_c b c w _ ls ?q1 hp hlb x.n ?q2 x0 hx0) ?_); (case q1 => omega); (case q2 => omega)) | refine Ef_callT [true, true, true] rfl rfl ent_11 rfl rfl rfl (fun w hp => doubleE_c b c w _ x.n hp) ?_))
                  | ((with_reducible refine g_call 14 ?_); (first | refine Ef_callT [false, false, true, true, true] rfl rfl ent_14 rfl rfl rfl (fun w hp => htake w _ hp) ?_ | refine Ef_callT [false, false, true, true, true] rfl rfl ent_14 rfl rfl rfl (fun w hp => takeE_c b c w _ k hp) ?_))
                  | ((with_reducible refine g_call 16 ?_); (first
                  | (((refine' Ef_callX (φ := fun y : Hd × List Pk => y.2.map (·.1) = (ls.eraseIdx p).map (·.1)) [true, true, true, false, false, false] rfl rfl ent_16 rfl rfl rfl (fun w hp => all2_c b c w _ (ls.eraseIdx p) hp (fun q hp' => hlb q (List.mem_of_mem_eraseIdx hp')) ?q1) ?_); (case q1 => rw [hel]; omega)); rintro ⟨⟨A6, c6⟩, now⟩ hnow; dsimp only at hnow ⊢; have hnl := len_of hnow)
                  | (((refine' Ef_callX (φ := fun y : Hd × List Pk => y.2.map (·.1) = ls.map (·.1)) [true, true, true] rfl rfl ent_16 rfl rfl rfl (fun w hp => all2_c b c w _ ls hp hlb ?q1) ?_); (case q1 => omega)); rintro ⟨⟨A5, c5⟩, was⟩ hwas; dsimp only at hwas ⊢; have hwl := len_of hwas; obtain ⟨y, hy, hyx⟩ := at_of hwas h0; have eY : (was.flatMap pE)[p * 1]? = some (pV y) := enc_at pE_len hy (j := 0) Nat.one_pos; have hs := str_of hyx; have hpl := tm_of k hwl hz hp0; have htr := tr_of k hwl hz)
                  | (((refine' Ef_callX (φ := fun y : Hd × List Pk => y.2.map (·.1) = ([] : List Pk).map (·.1)) [true, true, true] rfl rfl ent_16 rfl rfl rfl (fun w hp => all2_c b c w _ [] hp (fun x hx => by cases hx) ?q1) ?_); (case q1 => simp)); rintro ⟨⟨A5, c5⟩, was⟩ hwas; obtain rfl : was = [] := List.map_eq_nil_iff.1 hwas; dsimp only [List.length_nil])
                  | (((refine' Ef_callX (φ := fun y : Hd × List Pk => y.2.map (·.1) = ([] : List Pk).map (·.1)) [true, true, true, false, false] rfl rfl ent_16 rfl rfl rfl (fun w hp => all2_c b c w _ [] hp (fun x hx => by cases hx) ?q1) ?_); (case q1 => simp)); rintro ⟨⟨A6, c6⟩, now⟩ hnow; obtain rfl : now = [] := List.map_eq_nil_iff.1 hnow; dsimp only [List.length_nil])))))
                  | ((with_reducible refine g_draw ?_); (first | (((with_reducible refine' T.drawM (id := 24) [(0, true), (1, true), (2, true), (3, false), (4, false), (5, false), (6, false), (7, false)] mixd ?q1 ?_); (case q1 => kernel_rfl))) | (((with_reducible refine' T.drawM (id := 32) [(0, true), (1, true), (2, true), (3, true), (4, true), (5, true), (6, false), (7, false), (8, false), (9, false), (10, false)] mixd ?q1 ?_); (case q1 => kernel_rfl)))))
                  | refine w1 ?_
                  | (refine w2 ?_ ?_ <;> intro hc)
                  | (first
                  | ((refine' ⟨_, Yl_remE (r := (p : Int)) rfl rfl ?q1 ?q2 hpl, ?_⟩); (case q1 => omega); (case q2 => omega))
                  | ((refine' ⟨_, Yl_rem_t rfl rfl ?q1, ?_⟩); (case q1 => omega))
                  | ((refine' ⟨_, Yl_str_hp (l := x0.1) rfl ?q1 ?q2 ?q3 (fun w hp => hp.in_row (p := x0) ?q4), ?_⟩); (case q1 => exact und_of rfl); (case q2 => exact und_of rfl); (case q3 => exact und_of rfl); (case q4 => (repeat (first | exact .head _ | apply List.Mem.tail))))
                  | ((refine' ⟨_, Yl_str_hp (l := y.1) rfl ?q1 ?q2 ?q3 (fun w hp => hp.ins_bag (ps := was) ?q4 y (mem_of_some hy)), ?_⟩); (case q1 => exact und_of rfl); (case q2 => exact und_of rfl); (case q3 => exact und_of rfl); (case q4 => (repeat (first | exact .head _ | apply List.Mem.tail))))
                  | ((refine' ⟨_, Yl_str_hp (l := z.1) rfl ?q1 ?q2 ?q3 (fun w hp => hp.ins_bag (ps := now) ?q4 z (mem_of_some hz)), ?_⟩); (case q1 => exact und_of rfl); (case q2 => exact und_of rfl); (case q3 => exact und_of rfl); (case q4 => (repeat (first | exact .head _ | apply List.Mem.tail)))))
                  | (refine w4 ?_; (intro _))
                  | (refine w5 ?_; (first | ((fail_if_success have := A1); intro A1 c1) | ((fail_if_success have := A2); intro A2 c2) | ((fail_if_success have := A3); intro A3 c3) | ((fail_if_success have := A4); intro A4 c4) | ((fail_if_success have := A5); intro A5 c5) | ((fail_if_success have := A6); intro A6 c6) | intro _ _))
                  | refine w3 ?_ ?_
                  | fail_if_success skip)
              refine loopH_n (i + 1, []) ?_ (fun w' h => h.ofPart (by (repeat (first | exact Part.nil | refine Part.p0 ?_ | refine Part.p1 ?_ | refine Part.p2 ?_ | refine Part.p3 ?_ | refine Part.p4 ?_ | refine Part.p5 ?_ | refine Part.p6 ?_)))) ⟨show i + 1 ≤ _ by omega, Nat.zero_le _, hlb⟩ (show l.length - (i + 1) < l.length - i by omega)
              (repeat (first | exact Sub.nil | refine Sub.cons rfl ?_))
            · obtain ⟨x0, hx0⟩ := some_of_lt (l := ls) (i := plc x.n ls.length) (plc_lt hz)
              by_cases hfl : ls.length < 4096
              · repeat' (first
                  | ((with_reducible refine is_load ?_); (first | ((refine' ⟨_, Yl_load_hp rfl ?q1 (fun w hp => hp.rd ha fun _ => List.not_mem_nil) ?q2, ?_⟩); (case q1 => exact one_of rfl); (case q2 => assumption)) | ((refine' ⟨_, Yl_load_row rfl ?q1 ?q2 eY, ?_⟩); (case q1 => exact one_of rfl); (case q2 => (repeat (first | exact .head _ | apply List.Mem.tail)))) | ((refine' ⟨_, Yl_load_row rfl ?q1 ?q2 eZ, ?_⟩); (case q1 => exact one_of rfl); (case q2 => (repeat (first | exact .head _ | apply List.Mem.tail))))))
                  | ((with_reducible refine is_idx ?_); (first | ((refine' ⟨_, Yl_index_hp (j := j + 1) rfl rfl ?q1 ?q2 ?q3 (fun w hp => hp.rowOf ?q4), ?_⟩); (case q1 => exact und_of rfl); (case q2 => exact siz_of rfl); (case q3 => omega); (case q4 => (repeat (first | exact .head _ | apply List.Mem.tail))))))
                  | ((with_reducible refine ie_callf ?_); (first
                  | ((with_reducible refine g_call 19 ?_); (first | refine Ef_callP rfl rfl ent_19 (fun w _ => awake_c w) ?_))
                  | ((with_reducible refine g_call 13 ?_); (first | (refine Ef_callN rfl rfl ent_13 (fun w hp => hgr w hp) ?_; rintro (_ | _))))
                  | ((with_reducible refine g_call 9 ?_); (first | (refine Ef_callN rfl rfl ent_9 (fun w _ => new_c w) ?_; rintro ⟨b, c⟩)))
                  | ((with_reducible refine g_call 10 ?_); (first | (refine Ef_callW [true, true, false] rfl rfl ent_10 rfl rfl rfl (fun w hp hp2 => sendG_c b w _ ls hlz x.h.1 x.h.2 x.l (hp.rd hxa.1 fun _ => List.not_mem_nil) (fun h => hp.outS [true, true, false] rfl (hxa.1.lt h) List.not_mem_nil) (hp.ins_old hxa.2) (fun y hy h => hp.outS [true, true, false] rfl ((hxa.2 y hy).lt h) List.not_mem_nil) hx6 hxl c hp2) ?_; rintro ns hns)))
                  | ((with_reducible refine g_call 11 ?_); (first | (((refine' Ef_callX (φ := fun ns : List Pk => ns.map (·.1) = [x0.1]) [true, true, true] rfl rfl ent_11 rfl rfl rfl (fun w hp => double_c b c w _ ls hp hlb x.n ?q1 x0 hx0) ?_); (case q1 => omega)); rintro ns hns) | ((refine' Ef_callT [true, true, true] rfl rfl ent_11 rfl rfl rfl (fun w hp => doubleF_c b c w _ ls ?q1 hp hlb x.n ?q2 x0 hx0) ?_); (case q1 => omega); (case q2 => omega)) | refine Ef_callT [true, true, true] rfl rfl ent_11 rfl rfl rfl (fun w hp => doubleE_c b c w _ x.n hp) ?_))
                  | ((with_reducible refine g_call 14 ?_); (first | refine Ef_callT [false, false, true, true, true] rfl rfl ent_14 rfl rfl rfl (fun w hp => htake w _ hp) ?_ | refine Ef_callT [false, false, true, true, true] rfl rfl ent_14 rfl rfl rfl (fun w hp => takeE_c b c w _ k hp) ?_))
                  | ((with_reducible refine g_call 16 ?_); (first
                  | (((refine' Ef_callX (φ := fun y : Hd × List Pk => y.2.map (·.1) = (ls.eraseIdx p).map (·.1)) [true, true, true, false, false, false] rfl rfl ent_16 rfl rfl rfl (fun w hp => all2_c b c w _ (ls.eraseIdx p) hp (fun q hp' => hlb q (List.mem_of_mem_eraseIdx hp')) ?q1) ?_); (case q1 => rw [hel]; omega)); rintro ⟨⟨A6, c6⟩, now⟩ hnow; dsimp only at hnow ⊢; have hnl := len_of hnow)
                  | (((refine' Ef_callX (φ := fun y : Hd × List Pk => y.2.map (·.1) = ls.map (·.1)) [true, true, true] rfl rfl ent_16 rfl rfl rfl (fun w hp => all2_c b c w _ ls hp hlb ?q1) ?_); (case q1 => omega)); rintro ⟨⟨A5, c5⟩, was⟩ hwas; dsimp only at hwas ⊢; have hwl := len_of hwas; obtain ⟨y, hy, hyx⟩ := at_of hwas h0; have eY : (was.flatMap pE)[p * 1]? = some (pV y) := enc_at pE_len hy (j := 0) Nat.one_pos; have hs := str_of hyx; have hpl := tm_of k hwl hz hp0; have htr := tr_of k hwl hz)
                  | (((refine' Ef_callX (φ := fun y : Hd × List Pk => y.2.map (·.1) = ([] : List Pk).map (·.1)) [true, true, true] rfl rfl ent_16 rfl rfl rfl (fun w hp => all2_c b c w _ [] hp (fun x hx => by cases hx) ?q1) ?_); (case q1 => simp)); rintro ⟨⟨A5, c5⟩, was⟩ hwas; obtain rfl : was = [] := List.map_eq_nil_iff.1 hwas; dsimp only [List.length_nil])
                  | (((refine' Ef_callX (φ := fun y : Hd × List Pk => y.2.map (·.1) = ([] : List Pk).map (·.1)) [true, true, true, false, false] rfl rfl ent_16 rfl rfl rfl (fun w hp => all2_c b c w _ [] hp (fun x hx => by cases hx) ?q1) ?_); (case q1 => simp)); rintro ⟨⟨A6, c6⟩, now⟩ hnow; obtain rfl : now = [] := List.map_eq_nil_iff.1 hnow; dsimp only [List.length_nil])))))
                  | ((with_reducible refine g_draw ?_); (first | (((with_reducible refine' T.drawM (id := 24) [(0, true), (1, true), (2, true), (3, false), (4, false), (5, false), (6, false), (7, false)] mixd ?q1 ?_); (case q1 => kernel_rfl))) | (((with_reducible refine' T.drawM (id := 32) [(0, true), (1, true), (2, true), (3, true), (4, true), (5, true), (6, false), (7, false), (8, false), (9, false), (10, false)] mixd ?q1 ?_); (case q1 => kernel_rfl)))))
                  | refine w1 ?_
                  | (refine w2 ?_ ?_ <;> intro hc)
                  | (first
                  | ((refine' ⟨_, Yl_remE (r := (p : Int)) rfl rfl ?q1 ?q2 hpl, ?_⟩); (case q1 => omega); (case q2 => omega))
                  | ((refine' ⟨_, Yl_rem_t rfl rfl ?q1, ?_⟩); (case q1 => omega))
                  | ((refine' ⟨_, Yl_str_hp (l := x0.1) rfl ?q1 ?q2 ?q3 (fun w hp => hp.in_row (p := x0) ?q4), ?_⟩); (case q1 => exact und_of rfl); (case q2 => exact und_of rfl); (case q3 => exact und_of rfl); (case q4 => (repeat (first | exact .head _ | apply List.Mem.tail))))
                  | ((refine' ⟨_, Yl_str_hp (l := y.1) rfl ?q1 ?q2 ?q3 (fun w hp => hp.ins_bag (ps := was) ?q4 y (mem_of_some hy)), ?_⟩); (case q1 => exact und_of rfl); (case q2 => exact und_of rfl); (case q3 => exact und_of rfl); (case q4 => (repeat (first | exact .head _ | apply List.Mem.tail))))
                  | ((refine' ⟨_, Yl_str_hp (l := z.1) rfl ?q1 ?q2 ?q3 (fun w hp => hp.ins_bag (ps := now) ?q4 z (mem_of_some hz)), ?_⟩); (case q1 => exact und_of rfl); (case q2 => exact und_of rfl); (case q3 => exact und_of rfl); (case q4 => (repeat (first | exact .head _ | apply List.Mem.tail)))))
                  | (refine w4 ?_; (intro _))
                  | (refine w5 ?_; (first | ((fail_if_success have := A1); intro A1 c1) | ((fail_if_success have := A2); intro A2 c2) | ((fail_if_success have := A3); intro A3 c3) | ((fail_if_success have := A4); intro A4 c4) | ((fail_if_success have := A5); intro A5 c5) | ((fail_if_success have := A6); intro A6 c6) | intro _ _))
                  | refine w3 ?_ ?_
                  | fail_if_success skip)
                refine loopH_n (i + 1, ls ++ ns) ?_ (fun w' h => h.ofPart (by (repeat (first | exact Part.nil | refine Part.p0 ?_ | refine Part.p1 ?_ | refine Part.p2 ?_ | refine Part.p3 ?_ | refine Part.p4 ?_ | refine Part.p5 ?_ | refine Part.p6 ?_)))) ⟨show i + 1 ≤ _ by omega, ?_, ?_⟩ (show l.length - (i + 1) < l.length - i by omega)
                · (repeat (first | exact Sub.nil | refine Sub.cons rfl ?_))
                · dsimp only
                  have hnl : ns.length = 1 := by have := congrArg List.length hns; simpa using this
                  rw [List.length_append]; omega
                · intro p hp
                  rcases List.mem_append.1 hp with hp | hp
                  · exact hlb p hp
                  · have h1 : p.1 ∈ [x0.1] := hns ▸ List.mem_map.2 ⟨p, hp, rfl⟩
                    rw [List.mem_singleton.1 h1]; exact hlb x0 (mem_of_some hx0)
              · repeat' (first
                  | ((with_reducible refine is_load ?_); (first | ((refine' ⟨_, Yl_load_hp rfl ?q1 (fun w hp => hp.rd ha fun _ => List.not_mem_nil) ?q2, ?_⟩); (case q1 => exact one_of rfl); (case q2 => assumption)) | ((refine' ⟨_, Yl_load_row rfl ?q1 ?q2 eY, ?_⟩); (case q1 => exact one_of rfl); (case q2 => (repeat (first | exact .head _ | apply List.Mem.tail)))) | ((refine' ⟨_, Yl_load_row rfl ?q1 ?q2 eZ, ?_⟩); (case q1 => exact one_of rfl); (case q2 => (repeat (first | exact .head _ | apply List.Mem.tail))))))
                  | ((with_reducible refine is_idx ?_); (first | ((refine' ⟨_, Yl_index_hp (j := j + 1) rfl rfl ?q1 ?q2 ?q3 (fun w hp => hp.rowOf ?q4), ?_⟩); (case q1 => exact und_of rfl); (case q2 => exact siz_of rfl); (case q3 => omega); (case q4 => (repeat (first | exact .head _ | apply List.Mem.tail))))))
                  | ((with_reducible refine ie_callf ?_); (first
                  | ((with_reducible refine g_call 19 ?_); (first | refine Ef_callP rfl rfl ent_19 (fun w _ => awake_c w) ?_))
                  | ((with_reducible refine g_call 13 ?_); (first | (refine Ef_callN rfl rfl ent_13 (fun w hp => hgr w hp) ?_; rintro (_ | _))))
                  | ((with_reducible refine g_call 9 ?_); (first | (refine Ef_callN rfl rfl ent_9 (fun w _ => new_c w) ?_; rintro ⟨b, c⟩)))
                  | ((with_reducible refine g_call 10 ?_); (first | (refine Ef_callW [true, true, false] rfl rfl ent_10 rfl rfl rfl (fun w hp hp2 => sendG_c b w _ ls hlz x.h.1 x.h.2 x.l (hp.rd hxa.1 fun _ => List.not_mem_nil) (fun h => hp.outS [true, true, false] rfl (hxa.1.lt h) List.not_mem_nil) (hp.ins_old hxa.2) (fun y hy h => hp.outS [true, true, false] rfl ((hxa.2 y hy).lt h) List.not_mem_nil) hx6 hxl c hp2) ?_; rintro ns hns)))
                  | ((with_reducible refine g_call 11 ?_); (first | (((refine' Ef_callX (φ := fun ns : List Pk => ns.map (·.1) = [x0.1]) [true, true, true] rfl rfl ent_11 rfl rfl rfl (fun w hp => double_c b c w _ ls hp hlb x.n ?q1 x0 hx0) ?_); (case q1 => omega)); rintro ns hns) | ((refine' Ef_callT [true, true, true] rfl rfl ent_11 rfl rfl rfl (fun w hp => doubleF_c b c w _ ls ?q1 hp hlb x.n ?q2 x0 hx0) ?_); (case q1 => omega); (case q2 => omega)) | refine Ef_callT [true, true, true] rfl rfl ent_11 rfl rfl rfl (fun w hp => doubleE_c b c w _ x.n hp) ?_))
                  | ((with_reducible refine g_call 14 ?_); (first | refine Ef_callT [false, false, true, true, true] rfl rfl ent_14 rfl rfl rfl (fun w hp => htake w _ hp) ?_ | refine Ef_callT [false, false, true, true, true] rfl rfl ent_14 rfl rfl rfl (fun w hp => takeE_c b c w _ k hp) ?_))
                  | ((with_reducible refine g_call 16 ?_); (first
                  | (((refine' Ef_callX (φ := fun y : Hd × List Pk => y.2.map (·.1) = (ls.eraseIdx p).map (·.1)) [true, true, true, false, false, false] rfl rfl ent_16 rfl rfl rfl (fun w hp => all2_c b c w _ (ls.eraseIdx p) hp (fun q hp' => hlb q (List.mem_of_mem_eraseIdx hp')) ?q1) ?_); (case q1 => rw [hel]; omega)); rintro ⟨⟨A6, c6⟩, now⟩ hnow; dsimp only at hnow ⊢; have hnl := len_of hnow)
                  | (((refine' Ef_callX (φ := fun y : Hd × List Pk => y.2.map (·.1) = ls.map (·.1)) [true, true, true] rfl rfl ent_16 rfl rfl rfl (fun w hp => all2_c b c w _ ls hp hlb ?q1) ?_); (case q1 => omega)); rintro ⟨⟨A5, c5⟩, was⟩ hwas; dsimp only at hwas ⊢; have hwl := len_of hwas; obtain ⟨y, hy, hyx⟩ := at_of hwas h0; have eY : (was.flatMap pE)[p * 1]? = some (pV y) := enc_at pE_len hy (j := 0) Nat.one_pos; have hs := str_of hyx; have hpl := tm_of k hwl hz hp0; have htr := tr_of k hwl hz)
                  | (((refine' Ef_callX (φ := fun y : Hd × List Pk => y.2.map (·.1) = ([] : List Pk).map (·.1)) [true, true, true] rfl rfl ent_16 rfl rfl rfl (fun w hp => all2_c b c w _ [] hp (fun x hx => by cases hx) ?q1) ?_); (case q1 => simp)); rintro ⟨⟨A5, c5⟩, was⟩ hwas; obtain rfl : was = [] := List.map_eq_nil_iff.1 hwas; dsimp only [List.length_nil])
                  | (((refine' Ef_callX (φ := fun y : Hd × List Pk => y.2.map (·.1) = ([] : List Pk).map (·.1)) [true, true, true, false, false] rfl rfl ent_16 rfl rfl rfl (fun w hp => all2_c b c w _ [] hp (fun x hx => by cases hx) ?q1) ?_); (case q1 => simp)); rintro ⟨⟨A6, c6⟩, now⟩ hnow; obtain rfl : now = [] := List.map_eq_nil_iff.1 hnow; dsimp only [List.length_nil])))))
                  | ((with_reducible refine g_draw ?_); (first | (((with_reducible refine' T.drawM (id := 24) [(0, true), (1, true), (2, true), (3, false), (4, false), (5, false), (6, false), (7, false)] mixd ?q1 ?_); (case q1 => kernel_rfl))) | (((with_reducible refine' T.drawM (id := 32) [(0, true), (1, true), (2, true), (3, true), (4, true), (5, true), (6, false), (7, false), (8, false), (9, false), (10, false)] mixd ?q1 ?_); (case q1 => kernel_rfl)))))
                  | refine w1 ?_
                  | (refine w2 ?_ ?_ <;> intro hc)
                  | (first
                  | ((refine' ⟨_, Yl_remE (r := (p : Int)) rfl rfl ?q1 ?q2 hpl, ?_⟩); (case q1 => omega); (case q2 => omega))
                  | ((refine' ⟨_, Yl_rem_t rfl rfl ?q1, ?_⟩); (case q1 => omega))
                  | ((refine' ⟨_, Yl_str_hp (l := x0.1) rfl ?q1 ?q2 ?q3 (fun w hp => hp.in_row (p := x0) ?q4), ?_⟩); (case q1 => exact und_of rfl); (case q2 => exact und_of rfl); (case q3 => exact und_of rfl); (case q4 => (repeat (first | exact .head _ | apply List.Mem.tail))))
                  | ((refine' ⟨_, Yl_str_hp (l := y.1) rfl ?q1 ?q2 ?q3 (fun w hp => hp.ins_bag (ps := was) ?q4 y (mem_of_some hy)), ?_⟩); (case q1 => exact und_of rfl); (case q2 => exact und_of rfl); (case q3 => exact und_of rfl); (case q4 => (repeat (first | exact .head _ | apply List.Mem.tail))))
                  | ((refine' ⟨_, Yl_str_hp (l := z.1) rfl ?q1 ?q2 ?q3 (fun w hp => hp.ins_bag (ps := now) ?q4 z (mem_of_some hz)), ?_⟩); (case q1 => exact und_of rfl); (case q2 => exact und_of rfl); (case q3 => exact und_of rfl); (case q4 => (repeat (first | exact .head _ | apply List.Mem.tail)))))
                  | (refine w4 ?_; (intro _))
                  | (refine w5 ?_; (first | ((fail_if_success have := A1); intro A1 c1) | ((fail_if_success have := A2); intro A2 c2) | ((fail_if_success have := A3); intro A3 c3) | ((fail_if_success have := A4); intro A4 c4) | ((fail_if_success have := A5); intro A5 c5) | ((fail_if_success have := A6); intro A6 c6) | intro _ _))
                  | refine w3 ?_ ?_
                  | fail_if_success skip)
                refine loopH_n (i + 1, ls) ?_ (fun w' h => h.ofPart (by (repeat (first | exact Part.nil | refine Part.p0 ?_ | refine Part.p1 ?_ | refine Part.p2 ?_ | refine Part.p3 ?_ | refine Part.p4 ?_ | refine Part.p5 ?_ | refine Part.p6 ?_)))) ⟨show i + 1 ≤ _ by omega, hlz, hlb⟩ (show l.length - (i + 1) < l.length - i by omega)
                (repeat (first | exact Sub.nil | refine Sub.cons rfl ?_))
          · repeat' (first
              | ((with_reducible refine is_load ?_); (first | ((refine' ⟨_, Yl_load_hp rfl ?q1 (fun w hp => hp.rd ha fun _ => List.not_mem_nil) ?q2, ?_⟩); (case q1 => exact one_of rfl); (case q2 => assumption)) | ((refine' ⟨_, Yl_load_row rfl ?q1 ?q2 eY, ?_⟩); (case q1 => exact one_of rfl); (case q2 => (repeat (first | exact .head _ | apply List.Mem.tail)))) | ((refine' ⟨_, Yl_load_row rfl ?q1 ?q2 eZ, ?_⟩); (case q1 => exact one_of rfl); (case q2 => (repeat (first | exact .head _ | apply List.Mem.tail))))))
              | ((with_reducible refine is_idx ?_); (first | ((refine' ⟨_, Yl_index_hp (j := j + 1) rfl rfl ?q1 ?q2 ?q3 (fun w hp => hp.rowOf ?q4), ?_⟩); (case q1 => exact und_of rfl); (case q2 => exact siz_of rfl); (case q3 => omega); (case q4 => (repeat (first | exact .head _ | apply List.Mem.tail))))))
              | ((with_reducible refine ie_callf ?_); (first
              | ((with_reducible refine g_call 19 ?_); (first | refine Ef_callP rfl rfl ent_19 (fun w _ => awake_c w) ?_))
              | ((with_reducible refine g_call 13 ?_); (first | (refine Ef_callN rfl rfl ent_13 (fun w hp => hgr w hp) ?_; rintro (_ | _))))
              | ((with_reducible refine g_call 9 ?_); (first | (refine Ef_callN rfl rfl ent_9 (fun w _ => new_c w) ?_; rintro ⟨b, c⟩)))
              | ((with_reducible refine g_call 10 ?_); (first | (refine Ef_callW [true, true, false] rfl rfl ent_10 rfl rfl rfl (fun w hp hp2 => sendG_c b w _ ls hlz x.h.1 x.h.2 x.l (hp.rd hxa.1 fun _ => List.not_mem_nil) (fun h => hp.outS [true, true, false] rfl (hxa.1.lt h) List.not_mem_nil) (hp.ins_old hxa.2) (fun y hy h => hp.outS [true, true, false] rfl ((hxa.2 y hy).lt h) List.not_mem_nil) hx6 hxl c hp2) ?_; rintro ns hns)))
              | ((with_reducible refine g_call 11 ?_); (first | (((refine' Ef_callX (φ := fun ns : List Pk => ns.map (·.1) = [x0.1]) [true, true, true] rfl rfl ent_11 rfl rfl rfl (fun w hp => double_c b c w _ ls hp hlb x.n ?q1 x0 hx0) ?_); (case q1 => omega)); rintro ns hns) | ((refine' Ef_callT [true, true, true] rfl rfl ent_11 rfl rfl rfl (fun w hp => doubleF_c b c w _ ls ?q1 hp hlb x.n ?q2 x0 hx0) ?_); (case q1 => omega); (case q2 => omega)) | refine Ef_callT [true, true, true] rfl rfl ent_11 rfl rfl rfl (fun w hp => doubleE_c b c w _ x.n hp) ?_))
              | ((with_reducible refine g_call 14 ?_); (first | refine Ef_callT [false, false, true, true, true] rfl rfl ent_14 rfl rfl rfl (fun w hp => htake w _ hp) ?_ | refine Ef_callT [false, false, true, true, true] rfl rfl ent_14 rfl rfl rfl (fun w hp => takeE_c b c w _ k hp) ?_))
              | ((with_reducible refine g_call 16 ?_); (first
              | (((refine' Ef_callX (φ := fun y : Hd × List Pk => y.2.map (·.1) = (ls.eraseIdx p).map (·.1)) [true, true, true, false, false, false] rfl rfl ent_16 rfl rfl rfl (fun w hp => all2_c b c w _ (ls.eraseIdx p) hp (fun q hp' => hlb q (List.mem_of_mem_eraseIdx hp')) ?q1) ?_); (case q1 => rw [hel]; omega)); rintro ⟨⟨A6, c6⟩, now⟩ hnow; dsimp only at hnow ⊢; have hnl := len_of hnow)
              | (((refine' Ef_callX (φ := fun y : Hd × List Pk => y.2.map (·.1) = ls.map (·.1)) [true, true, true] rfl rfl ent_16 rfl rfl rfl (fun w hp => all2_c b c w _ ls hp hlb ?q1) ?_); (case q1 => omega)); rintro ⟨⟨A5, c5⟩, was⟩ hwas; dsimp only at hwas ⊢; have hwl := len_of hwas; obtain ⟨y, hy, hyx⟩ := at_of hwas h0; have eY : (was.flatMap pE)[p * 1]? = some (pV y) := enc_at pE_len hy (j := 0) Nat.one_pos; have hs := str_of hyx; have hpl := tm_of k hwl hz hp0; have htr := tr_of k hwl hz)
              | (((refine' Ef_callX (φ := fun y : Hd × List Pk => y.2.map (·.1) = ([] : List Pk).map (·.1)) [true, true, true] rfl rfl ent_16 rfl rfl rfl (fun w hp => all2_c b c w _ [] hp (fun x hx => by cases hx) ?q1) ?_); (case q1 => simp)); rintro ⟨⟨A5, c5⟩, was⟩ hwas; obtain rfl : was = [] := List.map_eq_nil_iff.1 hwas; dsimp only [List.length_nil])
              | (((refine' Ef_callX (φ := fun y : Hd × List Pk => y.2.map (·.1) = ([] : List Pk).map (·.1)) [true, true, true, false, false] rfl rfl ent_16 rfl rfl rfl (fun w hp => all2_c b c w _ [] hp (fun x hx => by cases hx) ?q1) ?_); (case q1 => simp)); rintro ⟨⟨A6, c6⟩, now⟩ hnow; obtain rfl : now = [] := List.map_eq_nil_iff.1 hnow; dsimp only [List.length_nil])))))
              | ((with_reducible refine g_draw ?_); (first | (((with_reducible refine' T.drawM (id := 24) [(0, true), (1, true), (2, true), (3, false), (4, false), (5, false), (6, false), (7, false)] mixd ?q1 ?_); (case q1 => kernel_rfl))) | (((with_reducible refine' T.drawM (id := 32) [(0, true), (1, true), (2, true), (3, true), (4, true), (5, true), (6, false), (7, false), (8, false), (9, false), (10, false)] mixd ?q1 ?_); (case q1 => kernel_rfl)))))
              | refine w1 ?_
              | (refine w2 ?_ ?_ <;> intro hc)
              | (first
              | ((refine' ⟨_, Yl_remE (r := (p : Int)) rfl rfl ?q1 ?q2 hpl, ?_⟩); (case q1 => omega); (case q2 => omega))
              | ((refine' ⟨_, Yl_rem_t rfl rfl ?q1, ?_⟩); (case q1 => omega))
              | ((refine' ⟨_, Yl_str_hp (l := x0.1) rfl ?q1 ?q2 ?q3 (fun w hp => hp.in_row (p := x0) ?q4), ?_⟩); (case q1 => exact und_of rfl); (case q2 => exact und_of rfl); (case q3 => exact und_of rfl); (case q4 => (repeat (first | exact .head _ | apply List.Mem.tail))))
              | ((refine' ⟨_, Yl_str_hp (l := y.1) rfl ?q1 ?q2 ?q3 (fun w hp => hp.ins_bag (ps := was) ?q4 y (mem_of_some hy)), ?_⟩); (case q1 => exact und_of rfl); (case q2 => exact und_of rfl); (case q3 => exact und_of rfl); (case q4 => (repeat (first | exact .head _ | apply List.Mem.tail))))
              | ((refine' ⟨_, Yl_str_hp (l := z.1) rfl ?q1 ?q2 ?q3 (fun w hp => hp.ins_bag (ps := now) ?q4 z (mem_of_some hz)), ?_⟩); (case q1 => exact und_of rfl); (case q2 => exact und_of rfl); (case q3 => exact und_of rfl); (case q4 => (repeat (first | exact .head _ | apply List.Mem.tail)))))
              | (refine w4 ?_; (intro _))
              | (refine w5 ?_; (first | ((fail_if_success have := A1); intro A1 c1) | ((fail_if_success have := A2); intro A2 c2) | ((fail_if_success have := A3); intro A3 c3) | ((fail_if_success have := A4); intro A4 c4) | ((fail_if_success have := A5); intro A5 c5) | ((fail_if_success have := A6); intro A6 c6) | intro _ _))
              | refine w3 ?_ ?_
              | fail_if_success skip)
            refine loopH_n (i + 1, ls) ?_ (fun w' h => h.ofPart (by (repeat (first | exact Part.nil | refine Part.p0 ?_ | refine Part.p1 ?_ | refine Part.p2 ?_ | refine Part.p3 ?_ | refine Part.p4 ?_ | refine Part.p5 ?_ | refine Part.p6 ?_)))) ⟨show i + 1 ≤ _ by omega, hlz, hlb⟩ (show l.length - (i + 1) < l.length - i by omega)
            (repeat (first | exact Sub.nil | refine Sub.cons rfl ?_))
      · have hll : ls.length ≤ 4096 := hlz
        clear hlz
        rcases Nat.eq_zero_or_pos ls.length with hz | hz
        · obtain rfl : ls = [] := List.eq_nil_of_length_eq_zero hz
          repeat' (first
              | ((with_reducible refine is_load ?_); (first | ((refine' ⟨_, Yl_load_hp rfl ?q1 (fun w hp => hp.rd ha fun _ => List.not_mem_nil) ?q2, ?_⟩); (case q1 => exact one_of rfl); (case q2 => assumption)) | ((refine' ⟨_, Yl_load_row rfl ?q1 ?q2 eY, ?_⟩); (case q1 => exact one_of rfl); (case q2 => (repeat (first | exact .head _ | apply List.Mem.tail)))) | ((refine' ⟨_, Yl_load_row rfl ?q1 ?q2 eZ, ?_⟩); (case q1 => exact one_of rfl); (case q2 => (repeat (first | exact .head _ | apply List.Mem.tail))))))
              | ((with_reducible refine is_idx ?_); (first | ((refine' ⟨_, Yl_index_hp (j := j + 1) rfl rfl ?q1 ?q2 ?q3 (fun w hp => hp.rowOf ?q4), ?_⟩); (case q1 => exact und_of rfl); (case q2 => exact siz_of rfl); (case q3 => omega); (case q4 => (repeat (first | exact .head _ | apply List.Mem.tail))))))
              | ((with_reducible refine ie_callf ?_); (first
              | ((with_reducible refine g_call 19 ?_); (first | refine Ef_callP rfl rfl ent_19 (fun w _ => awake_c w) ?_))
              | ((with_reducible refine g_call 13 ?_); (first | (refine Ef_callN rfl rfl ent_13 (fun w hp => hgr w hp) ?_; rintro (_ | _))))
              | ((with_reducible refine g_call 9 ?_); (first | (refine Ef_callN rfl rfl ent_9 (fun w _ => new_c w) ?_; rintro ⟨b, c⟩)))
              | ((with_reducible refine g_call 10 ?_); (first | (refine Ef_callW [true, true, false] rfl rfl ent_10 rfl rfl rfl (fun w hp hp2 => sendG_c b w _ ls hlz x.h.1 x.h.2 x.l (hp.rd hxa.1 fun _ => List.not_mem_nil) (fun h => hp.outS [true, true, false] rfl (hxa.1.lt h) List.not_mem_nil) (hp.ins_old hxa.2) (fun y hy h => hp.outS [true, true, false] rfl ((hxa.2 y hy).lt h) List.not_mem_nil) hx6 hxl c hp2) ?_; rintro ns hns)))
              | ((with_reducible refine g_call 11 ?_); (first | (((refine' Ef_callX (φ := fun ns : List Pk => ns.map (·.1) = [x0.1]) [true, true, true] rfl rfl ent_11 rfl rfl rfl (fun w hp => double_c b c w _ ls hp hlb x.n ?q1 x0 hx0) ?_); (case q1 => omega)); rintro ns hns) | ((refine' Ef_callT [true, true, true] rfl rfl ent_11 rfl rfl rfl (fun w hp => doubleF_c b c w _ ls ?q1 hp hlb x.n ?q2 x0 hx0) ?_); (case q1 => omega); (case q2 => omega)) | refine Ef_callT [true, true, true] rfl rfl ent_11 rfl rfl rfl (fun w hp => doubleE_c b c w _ x.n hp) ?_))
              | ((with_reducible refine g_call 14 ?_); (first | refine Ef_callT [false, false, true, true, true] rfl rfl ent_14 rfl rfl rfl (fun w hp => htake w _ hp) ?_ | refine Ef_callT [false, false, true, true, true] rfl rfl ent_14 rfl rfl rfl (fun w hp => takeE_c b c w _ k hp) ?_))
              | ((with_reducible refine g_call 16 ?_); (first
              | (((refine' Ef_callX (φ := fun y : Hd × List Pk => y.2.map (·.1) = (ls.eraseIdx p).map (·.1)) [true, true, true, false, false, false] rfl rfl ent_16 rfl rfl rfl (fun w hp => all2_c b c w _ (ls.eraseIdx p) hp (fun q hp' => hlb q (List.mem_of_mem_eraseIdx hp')) ?q1) ?_); (case q1 => rw [hel]; omega)); rintro ⟨⟨A6, c6⟩, now⟩ hnow; dsimp only at hnow ⊢; have hnl := len_of hnow)
              | (((refine' Ef_callX (φ := fun y : Hd × List Pk => y.2.map (·.1) = ls.map (·.1)) [true, true, true] rfl rfl ent_16 rfl rfl rfl (fun w hp => all2_c b c w _ ls hp hlb ?q1) ?_); (case q1 => omega)); rintro ⟨⟨A5, c5⟩, was⟩ hwas; dsimp only at hwas ⊢; have hwl := len_of hwas; obtain ⟨y, hy, hyx⟩ := at_of hwas h0; have eY : (was.flatMap pE)[p * 1]? = some (pV y) := enc_at pE_len hy (j := 0) Nat.one_pos; have hs := str_of hyx; have hpl := tm_of k hwl hz hp0; have htr := tr_of k hwl hz)
              | (((refine' Ef_callX (φ := fun y : Hd × List Pk => y.2.map (·.1) = ([] : List Pk).map (·.1)) [true, true, true] rfl rfl ent_16 rfl rfl rfl (fun w hp => all2_c b c w _ [] hp (fun x hx => by cases hx) ?q1) ?_); (case q1 => simp)); rintro ⟨⟨A5, c5⟩, was⟩ hwas; obtain rfl : was = [] := List.map_eq_nil_iff.1 hwas; dsimp only [List.length_nil])
              | (((refine' Ef_callX (φ := fun y : Hd × List Pk => y.2.map (·.1) = ([] : List Pk).map (·.1)) [true, true, true, false, false] rfl rfl ent_16 rfl rfl rfl (fun w hp => all2_c b c w _ [] hp (fun x hx => by cases hx) ?q1) ?_); (case q1 => simp)); rintro ⟨⟨A6, c6⟩, now⟩ hnow; obtain rfl : now = [] := List.map_eq_nil_iff.1 hnow; dsimp only [List.length_nil])))))
              | ((with_reducible refine g_draw ?_); (first | (((with_reducible refine' T.drawM (id := 24) [(0, true), (1, true), (2, true), (3, false), (4, false), (5, false), (6, false), (7, false)] mixd ?q1 ?_); (case q1 => kernel_rfl))) | (((with_reducible refine' T.drawM (id := 32) [(0, true), (1, true), (2, true), (3, true), (4, true), (5, true), (6, false), (7, false), (8, false), (9, false), (10, false)] mixd ?q1 ?_); (case q1 => kernel_rfl)))))
              | refine w1 ?_
              | (refine w2 ?_ ?_ <;> intro hc)
              | (first
              | ((refine' ⟨_, Yl_remE (r := (p : Int)) rfl rfl ?q1 ?q2 hpl, ?_⟩); (case q1 => omega); (case q2 => omega))
              | ((refine' ⟨_, Yl_rem_t rfl rfl ?q1, ?_⟩); (case q1 => omega))
              | ((refine' ⟨_, Yl_str_hp (l := x0.1) rfl ?q1 ?q2 ?q3 (fun w hp => hp.in_row (p := x0) ?q4), ?_⟩); (case q1 => exact und_of rfl); (case q2 => exact und_of rfl); (case q3 => exact und_of rfl); (case q4 => (repeat (first | exact .head _ | apply List.Mem.tail))))
              | ((refine' ⟨_, Yl_str_hp (l := y.1) rfl ?q1 ?q2 ?q3 (fun w hp => hp.ins_bag (ps := was) ?q4 y (mem_of_some hy)), ?_⟩); (case q1 => exact und_of rfl); (case q2 => exact und_of rfl); (case q3 => exact und_of rfl); (case q4 => (repeat (first | exact .head _ | apply List.Mem.tail))))
              | ((refine' ⟨_, Yl_str_hp (l := z.1) rfl ?q1 ?q2 ?q3 (fun w hp => hp.ins_bag (ps := now) ?q4 z (mem_of_some hz)), ?_⟩); (case q1 => exact und_of rfl); (case q2 => exact und_of rfl); (case q3 => exact und_of rfl); (case q4 => (repeat (first | exact .head _ | apply List.Mem.tail)))))
              | (refine w4 ?_; (intro _))
              | (refine w5 ?_; (first | ((fail_if_success have := A1); intro A1 c1) | ((fail_if_success have := A2); intro A2 c2) | ((fail_if_success have := A3); intro A3 c3) | ((fail_if_success have := A4); intro A4 c4) | ((fail_if_success have := A5); intro A5 c5) | ((fail_if_success have := A6); intro A6 c6) | intro _ _))
              | refine w3 ?_ ?_
              | fail_if_success skip)
          exact ret_n [] (res1 rfl rfl) (List.nil_sublist _) ⟨rfl, rfl⟩
        · obtain ⟨x0, h0⟩ := some_of_lt (l := ls) (i := plc k ls.length) (plc_lt hz)
          have hplt := plc_lt (k := k) hz
          have htake := fun w R hp => take_c b c w R ls hp k (by omega) x0 h0
          obtain ⟨p, hp0⟩ : ∃ p, plc k ls.length = p := ⟨_, rfl⟩
          rw [hp0] at htake h0 hplt
          have hel : (ls.eraseIdx p).length = ls.length - 1 := List.length_eraseIdx_of_lt hplt
          repeat' (first
              | ((with_reducible refine is_load ?_); (first | ((refine' ⟨_, Yl_load_hp rfl ?q1 (fun w hp => hp.rd ha fun _ => List.not_mem_nil) ?q2, ?_⟩); (case q1 => exact one_of rfl); (case q2 => assumption)) | ((refine' ⟨_, Yl_load_row rfl ?q1 ?q2 eY, ?_⟩); (case q1 => exact one_of rfl); (case q2 => (repeat (first | exact .head _ | apply List.Mem.tail)))) | ((refine' ⟨_, Yl_load_row rfl ?q1 ?q2 eZ, ?_⟩); (case q1 => exact one_of rfl); (case q2 => (repeat (first | exact .head _ | apply List.Mem.tail))))))
              | ((with_reducible refine is_idx ?_); (first | ((refine' ⟨_, Yl_index_hp (j := j + 1) rfl rfl ?q1 ?q2 ?q3 (fun w hp => hp.rowOf ?q4), ?_⟩); (case q1 => exact und_of rfl); (case q2 => exact siz_of rfl); (case q3 => omega); (case q4 => (repeat (first | exact .head _ | apply List.Mem.tail))))))
              | ((with_reducible refine ie_callf ?_); (first
              | ((with_reducible refine g_call 19 ?_); (first | refine Ef_callP rfl rfl ent_19 (fun w _ => awake_c w) ?_))
              | ((with_reducible refine g_call 13 ?_); (first | (refine Ef_callN rfl rfl ent_13 (fun w hp => hgr w hp) ?_; rintro (_ | _))))
              | ((with_reducible refine g_call 9 ?_); (first | (refine Ef_callN rfl rfl ent_9 (fun w _ => new_c w) ?_; rintro ⟨b, c⟩)))
              | ((with_reducible refine g_call 10 ?_); (first | (refine Ef_callW [true, true, false] rfl rfl ent_10 rfl rfl rfl (fun w hp hp2 => sendG_c b w _ ls hlz x.h.1 x.h.2 x.l (hp.rd hxa.1 fun _ => List.not_mem_nil) (fun h => hp.outS [true, true, false] rfl (hxa.1.lt h) List.not_mem_nil) (hp.ins_old hxa.2) (fun y hy h => hp.outS [true, true, false] rfl ((hxa.2 y hy).lt h) List.not_mem_nil) hx6 hxl c hp2) ?_; rintro ns hns)))
              | ((with_reducible refine g_call 11 ?_); (first | (((refine' Ef_callX (φ := fun ns : List Pk => ns.map (·.1) = [x0.1]) [true, true, true] rfl rfl ent_11 rfl rfl rfl (fun w hp => double_c b c w _ ls hp hlb x.n ?q1 x0 hx0) ?_); (case q1 => omega)); rintro ns hns) | ((refine' Ef_callT [true, true, true] rfl rfl ent_11 rfl rfl rfl (fun w hp => doubleF_c b c w _ ls ?q1 hp hlb x.n ?q2 x0 hx0) ?_); (case q1 => omega); (case q2 => omega)) | refine Ef_callT [true, true, true] rfl rfl ent_11 rfl rfl rfl (fun w hp => doubleE_c b c w _ x.n hp) ?_))
              | ((with_reducible refine g_call 14 ?_); (first | refine Ef_callT [false, false, true, true, true] rfl rfl ent_14 rfl rfl rfl (fun w hp => htake w _ hp) ?_ | refine Ef_callT [false, false, true, true, true] rfl rfl ent_14 rfl rfl rfl (fun w hp => takeE_c b c w _ k hp) ?_))
              | ((with_reducible refine g_call 16 ?_); (first
              | (((refine' Ef_callX (φ := fun y : Hd × List Pk => y.2.map (·.1) = (ls.eraseIdx p).map (·.1)) [true, true, true, false, false, false] rfl rfl ent_16 rfl rfl rfl (fun w hp => all2_c b c w _ (ls.eraseIdx p) hp (fun q hp' => hlb q (List.mem_of_mem_eraseIdx hp')) ?q1) ?_); (case q1 => rw [hel]; omega)); rintro ⟨⟨A6, c6⟩, now⟩ hnow; dsimp only at hnow ⊢; have hnl := len_of hnow)
              | (((refine' Ef_callX (φ := fun y : Hd × List Pk => y.2.map (·.1) = ls.map (·.1)) [true, true, true] rfl rfl ent_16 rfl rfl rfl (fun w hp => all2_c b c w _ ls hp hlb ?q1) ?_); (case q1 => omega)); rintro ⟨⟨A5, c5⟩, was⟩ hwas; dsimp only at hwas ⊢; have hwl := len_of hwas; obtain ⟨y, hy, hyx⟩ := at_of hwas h0; have eY : (was.flatMap pE)[p * 1]? = some (pV y) := enc_at pE_len hy (j := 0) Nat.one_pos; have hs := str_of hyx; have hpl := tm_of k hwl hz hp0; have htr := tr_of k hwl hz)
              | (((refine' Ef_callX (φ := fun y : Hd × List Pk => y.2.map (·.1) = ([] : List Pk).map (·.1)) [true, true, true] rfl rfl ent_16 rfl rfl rfl (fun w hp => all2_c b c w _ [] hp (fun x hx => by cases hx) ?q1) ?_); (case q1 => simp)); rintro ⟨⟨A5, c5⟩, was⟩ hwas; obtain rfl : was = [] := List.map_eq_nil_iff.1 hwas; dsimp only [List.length_nil])
              | (((refine' Ef_callX (φ := fun y : Hd × List Pk => y.2.map (·.1) = ([] : List Pk).map (·.1)) [true, true, true, false, false] rfl rfl ent_16 rfl rfl rfl (fun w hp => all2_c b c w _ [] hp (fun x hx => by cases hx) ?q1) ?_); (case q1 => simp)); rintro ⟨⟨A6, c6⟩, now⟩ hnow; obtain rfl : now = [] := List.map_eq_nil_iff.1 hnow; dsimp only [List.length_nil])))))
              | ((with_reducible refine g_draw ?_); (first | (((with_reducible refine' T.drawM (id := 24) [(0, true), (1, true), (2, true), (3, false), (4, false), (5, false), (6, false), (7, false)] mixd ?q1 ?_); (case q1 => kernel_rfl))) | (((with_reducible refine' T.drawM (id := 32) [(0, true), (1, true), (2, true), (3, true), (4, true), (5, true), (6, false), (7, false), (8, false), (9, false), (10, false)] mixd ?q1 ?_); (case q1 => kernel_rfl)))))
              | refine w1 ?_
              | (refine w2 ?_ ?_ <;> intro hc)
              | (first
              | ((refine' ⟨_, Yl_remE (r := (p : Int)) rfl rfl ?q1 ?q2 hpl, ?_⟩); (case q1 => omega); (case q2 => omega))
              | ((refine' ⟨_, Yl_rem_t rfl rfl ?q1, ?_⟩); (case q1 => omega))
              | ((refine' ⟨_, Yl_str_hp (l := x0.1) rfl ?q1 ?q2 ?q3 (fun w hp => hp.in_row (p := x0) ?q4), ?_⟩); (case q1 => exact und_of rfl); (case q2 => exact und_of rfl); (case q3 => exact und_of rfl); (case q4 => (repeat (first | exact .head _ | apply List.Mem.tail))))
              | ((refine' ⟨_, Yl_str_hp (l := y.1) rfl ?q1 ?q2 ?q3 (fun w hp => hp.ins_bag (ps := was) ?q4 y (mem_of_some hy)), ?_⟩); (case q1 => exact und_of rfl); (case q2 => exact und_of rfl); (case q3 => exact und_of rfl); (case q4 => (repeat (first | exact .head _ | apply List.Mem.tail))))
              | ((refine' ⟨_, Yl_str_hp (l := z.1) rfl ?q1 ?q2 ?q3 (fun w hp => hp.ins_bag (ps := now) ?q4 z (mem_of_some hz)), ?_⟩); (case q1 => exact und_of rfl); (case q2 => exact und_of rfl); (case q3 => exact und_of rfl); (case q4 => (repeat (first | exact .head _ | apply List.Mem.tail)))))
              | (refine w4 ?_; (intro _))
              | (refine w5 ?_; (first | ((fail_if_success have := A1); intro A1 c1) | ((fail_if_success have := A2); intro A2 c2) | ((fail_if_success have := A3); intro A3 c3) | ((fail_if_success have := A4); intro A4 c4) | ((fail_if_success have := A5); intro A5 c5) | ((fail_if_success have := A6); intro A6 c6) | intro _ _))
              | refine w3 ?_ ?_
              | fail_if_success skip)
          refine T.loopM (α := Nat) (fun j => [(7, .slice A5 was.length c5), (10, .slice A6 now.length c6), (11, .int .i64 (p : Int)), (12, .int .i64 (j : Int))]) (fun _ => [.row 38 1 (.slice A6 now.length c6) now.length (now.flatMap pE), bag (now.map bP), nO b c, .row 38 1 (.slice A5 was.length c5) was.length (was.flatMap pE), bag (was.map bP)]) (fun j => j ≤ now.length) (fun j => now.length - j) 0 ?_ ?_ (Nat.zero_le _) ?_
          · (repeat (first | exact Sub.nil | refine Sub.cons rfl ?_))
          · exact fun _ h => h.ofPart (by (repeat (first | exact Part.nil | refine Part.p0 ?_ | refine Part.p1 ?_ | refine Part.p2 ?_ | refine Part.p3 ?_ | refine Part.p4 ?_ | refine Part.p5 ?_ | refine Part.p6 ?_)))
          · clear hy hyx eY hs hpl htr
            rintro j hj
            by_cases hjl : j < now.length
            · obtain ⟨z, hz⟩ := some_of_lt (l := now) (i := j) hjl
              obtain ⟨x, hx, hxz⟩ := at_of hnow.symm hz
              have eZ : (now.flatMap pE)[j * 1]? = some (pV z) := enc_at pE_len hz (j := 0) Nat.one_pos
              rw [List.getElem?_eraseIdx] at hx
              by_cases hjp : j < p
              · rw [if_pos hjp] at hx
                obtain ⟨y, hy, hyx⟩ := at_of hwas hx
                have eY : (was.flatMap pE)[j * 1]? = some (pV y) := enc_at pE_len hy (j := 0) Nat.one_pos
                have hs : (⟨z.1.toArray⟩ : ByteArray) = ⟨y.1.toArray⟩ := str_of (hyx.trans hxz)
                repeat' (first
                    | ((with_reducible refine is_load ?_); (first | ((refine' ⟨_, Yl_load_hp rfl ?q1 (fun w hp => hp.rd ha fun _ => List.not_mem_nil) ?q2, ?_⟩); (case q1 => exact one_of rfl); (case q2 => assumption)) | ((refine' ⟨_, Yl_load_row rfl ?q1 ?q2 eY, ?_⟩); (case q1 => exact one_of rfl); (case q2 => (repeat (first | exact .head _ | apply List.Mem.tail)))) | ((refine' ⟨_, Yl_load_row rfl ?q1 ?q2 eZ, ?_⟩); (case q1 => exact one_of rfl); (case q2 => (repeat (first | exact .head _ | apply List.Mem.tail))))))
                    | ((with_reducible refine is_idx ?_); (first | ((refine' ⟨_, Yl_index_hp (j := j + 1) rfl rfl ?q1 ?q2 ?q3 (fun w hp => hp.rowOf ?q4), ?_⟩); (case q1 => exact und_of rfl); (case q2 => exact siz_of rfl); (case q3 => omega); (case q4 => (repeat (first | exact .head _ | apply List.Mem.tail))))))
                    | ((with_reducible refine ie_callf ?_); (first
                    | ((with_reducible refine g_call 19 ?_); (first | refine Ef_callP rfl rfl ent_19 (fun w _ => awake_c w) ?_))
                    | ((with_reducible refine g_call 13 ?_); (first | (refine Ef_callN rfl rfl ent_13 (fun w hp => hgr w hp) ?_; rintro (_ | _))))
                    | ((with_reducible refine g_call 9 ?_); (first | (refine Ef_callN rfl rfl ent_9 (fun w _ => new_c w) ?_; rintro ⟨b, c⟩)))
                    | ((with_reducible refine g_call 10 ?_); (first | (refine Ef_callW [true, true, false] rfl rfl ent_10 rfl rfl rfl (fun w hp hp2 => sendG_c b w _ ls hlz x.h.1 x.h.2 x.l (hp.rd hxa.1 fun _ => List.not_mem_nil) (fun h => hp.outS [true, true, false] rfl (hxa.1.lt h) List.not_mem_nil) (hp.ins_old hxa.2) (fun y hy h => hp.outS [true, true, false] rfl ((hxa.2 y hy).lt h) List.not_mem_nil) hx6 hxl c hp2) ?_; rintro ns hns)))
                    | ((with_reducible refine g_call 11 ?_); (first | (((refine' Ef_callX (φ := fun ns : List Pk => ns.map (·.1) = [x0.1]) [true, true, true] rfl rfl ent_11 rfl rfl rfl (fun w hp => double_c b c w _ ls hp hlb x.n ?q1 x0 hx0) ?_); (case q1 => omega)); rintro ns hns) | ((refine' Ef_callT [true, true, true] rfl rfl ent_11 rfl rfl rfl (fun w hp => doubleF_c b c w _ ls ?q1 hp hlb x.n ?q2 x0 hx0) ?_); (case q1 => omega); (case q2 => omega)) | refine Ef_callT [true, true, true] rfl rfl ent_11 rfl rfl rfl (fun w hp => doubleE_c b c w _ x.n hp) ?_))
                    | ((with_reducible refine g_call 14 ?_); (first | refine Ef_callT [false, false, true, true, true] rfl rfl ent_14 rfl rfl rfl (fun w hp => htake w _ hp) ?_ | refine Ef_callT [false, false, true, true, true] rfl rfl ent_14 rfl rfl rfl (fun w hp => takeE_c b c w _ k hp) ?_))
                    | ((with_reducible refine g_call 16 ?_); (first
                    | (((refine' Ef_callX (φ := fun y : Hd × List Pk => y.2.map (·.1) = (ls.eraseIdx p).map (·.1)) [true, true, true, false, false, false] rfl rfl ent_16 rfl rfl rfl (fun w hp => all2_c b c w _ (ls.eraseIdx p) hp (fun q hp' => hlb q (List.mem_of_mem_eraseIdx hp')) ?q1) ?_); (case q1 => rw [hel]; omega)); rintro ⟨⟨A6, c6⟩, now⟩ hnow; dsimp only at hnow ⊢; have hnl := len_of hnow)
                    | (((refine' Ef_callX (φ := fun y : Hd × List Pk => y.2.map (·.1) = ls.map (·.1)) [true, true, true] rfl rfl ent_16 rfl rfl rfl (fun w hp => all2_c b c w _ ls hp hlb ?q1) ?_); (case q1 => omega)); rintro ⟨⟨A5, c5⟩, was⟩ hwas; dsimp only at hwas ⊢; have hwl := len_of hwas; obtain ⟨y, hy, hyx⟩ := at_of hwas h0; have eY : (was.flatMap pE)[p * 1]? = some (pV y) := enc_at pE_len hy (j := 0) Nat.one_pos; have hs := str_of hyx; have hpl := tm_of k hwl hz hp0; have htr := tr_of k hwl hz)
                    | (((refine' Ef_callX (φ := fun y : Hd × List Pk => y.2.map (·.1) = ([] : List Pk).map (·.1)) [true, true, true] rfl rfl ent_16 rfl rfl rfl (fun w hp => all2_c b c w _ [] hp (fun x hx => by cases hx) ?q1) ?_); (case q1 => simp)); rintro ⟨⟨A5, c5⟩, was⟩ hwas; obtain rfl : was = [] := List.map_eq_nil_iff.1 hwas; dsimp only [List.length_nil])
                    | (((refine' Ef_callX (φ := fun y : Hd × List Pk => y.2.map (·.1) = ([] : List Pk).map (·.1)) [true, true, true, false, false] rfl rfl ent_16 rfl rfl rfl (fun w hp => all2_c b c w _ [] hp (fun x hx => by cases hx) ?q1) ?_); (case q1 => simp)); rintro ⟨⟨A6, c6⟩, now⟩ hnow; obtain rfl : now = [] := List.map_eq_nil_iff.1 hnow; dsimp only [List.length_nil])))))
                    | ((with_reducible refine g_draw ?_); (first | (((with_reducible refine' T.drawM (id := 24) [(0, true), (1, true), (2, true), (3, false), (4, false), (5, false), (6, false), (7, false)] mixd ?q1 ?_); (case q1 => kernel_rfl))) | (((with_reducible refine' T.drawM (id := 32) [(0, true), (1, true), (2, true), (3, true), (4, true), (5, true), (6, false), (7, false), (8, false), (9, false), (10, false)] mixd ?q1 ?_); (case q1 => kernel_rfl)))))
                    | refine w1 ?_
                    | (refine w2 ?_ ?_ <;> intro hc)
                    | (first
                    | ((refine' ⟨_, Yl_remE (r := (p : Int)) rfl rfl ?q1 ?q2 hpl, ?_⟩); (case q1 => omega); (case q2 => omega))
                    | ((refine' ⟨_, Yl_rem_t rfl rfl ?q1, ?_⟩); (case q1 => omega))
                    | ((refine' ⟨_, Yl_str_hp (l := x0.1) rfl ?q1 ?q2 ?q3 (fun w hp => hp.in_row (p := x0) ?q4), ?_⟩); (case q1 => exact und_of rfl); (case q2 => exact und_of rfl); (case q3 => exact und_of rfl); (case q4 => (repeat (first | exact .head _ | apply List.Mem.tail))))
                    | ((refine' ⟨_, Yl_str_hp (l := y.1) rfl ?q1 ?q2 ?q3 (fun w hp => hp.ins_bag (ps := was) ?q4 y (mem_of_some hy)), ?_⟩); (case q1 => exact und_of rfl); (case q2 => exact und_of rfl); (case q3 => exact und_of rfl); (case q4 => (repeat (first | exact .head _ | apply List.Mem.tail))))
                    | ((refine' ⟨_, Yl_str_hp (l := z.1) rfl ?q1 ?q2 ?q3 (fun w hp => hp.ins_bag (ps := now) ?q4 z (mem_of_some hz)), ?_⟩); (case q1 => exact und_of rfl); (case q2 => exact und_of rfl); (case q3 => exact und_of rfl); (case q4 => (repeat (first | exact .head _ | apply List.Mem.tail)))))
                    | (refine w4 ?_; (intro _))
                    | (refine w5 ?_; (first | ((fail_if_success have := A1); intro A1 c1) | ((fail_if_success have := A2); intro A2 c2) | ((fail_if_success have := A3); intro A3 c3) | ((fail_if_success have := A4); intro A4 c4) | ((fail_if_success have := A5); intro A5 c5) | ((fail_if_success have := A6); intro A6 c6) | intro _ _))
                    | refine w3 ?_ ?_
                    | fail_if_success skip)
                refine loopH_n (j + 1) ?_ (fun w' h => h.ofPart (by (repeat (first | exact Part.nil | refine Part.p0 ?_ | refine Part.p1 ?_ | refine Part.p2 ?_ | refine Part.p3 ?_ | refine Part.p4 ?_ | refine Part.p5 ?_ | refine Part.p6 ?_)))) (show j + 1 ≤ _ by omega) (show now.length - (j + 1) < now.length - j by omega)
                (repeat (first | exact Sub.nil | refine Sub.cons rfl ?_))
              · rw [if_neg hjp] at hx
                obtain ⟨y, hy, hyx⟩ := at_of hwas hx
                have eY : (was.flatMap pE)[(j + 1) * 1]? = some (pV y) := enc_at pE_len hy (j := 0) Nat.one_pos
                have hs : (⟨z.1.toArray⟩ : ByteArray) = ⟨y.1.toArray⟩ := str_of (hyx.trans hxz)
                repeat' (first
                    | ((with_reducible refine is_load ?_); (first | ((refine' ⟨_, Yl_load_hp rfl ?q1 (fun w hp => hp.rd ha fun _ => List.not_mem_nil) ?q2, ?_⟩); (case q1 => exact one_of rfl); (case q2 => assumption)) | ((refine' ⟨_, Yl_load_row rfl ?q1 ?q2 eY, ?_⟩); (case q1 => exact one_of rfl); (case q2 => (repeat (first | exact .head _ | apply List.Mem.tail)))) | ((refine' ⟨_, Yl_load_row rfl ?q1 ?q2 eZ, ?_⟩); (case q1 => exact one_of rfl); (case q2 => (repeat (first | exact .head _ | apply List.Mem.tail))))))
                    | ((with_reducible refine is_idx ?_); (first | ((refine' ⟨_, Yl_index_hp (j := j + 1) rfl rfl ?q1 ?q2 ?q3 (fun w hp => hp.rowOf ?q4), ?_⟩); (case q1 => exact und_of rfl); (case q2 => exact siz_of rfl); (case q3 => omega); (case q4 => (repeat (first | exact .head _ | apply List.Mem.tail))))))
                    | ((with_reducible refine ie_callf ?_); (first
                    | ((with_reducible refine g_call 19 ?_); (first | refine Ef_callP rfl rfl ent_19 (fun w _ => awake_c w) ?_))
                    | ((with_reducible refine g_call 13 ?_); (first | (refine Ef_callN rfl rfl ent_13 (fun w hp => hgr w hp) ?_; rintro (_ | _))))
                    | ((with_reducible refine g_call 9 ?_); (first | (refine Ef_callN rfl rfl ent_9 (fun w _ => new_c w) ?_; rintro ⟨b, c⟩)))
                    | ((with_reducible refine g_call 10 ?_); (first | (refine Ef_callW [true, true, false] rfl rfl ent_10 rfl rfl rfl (fun w hp hp2 => sendG_c b w _ ls hlz x.h.1 x.h.2 x.l (hp.rd hxa.1 fun _ => List.not_mem_nil) (fun h => hp.outS [true, true, false] rfl (hxa.1.lt h) List.not_mem_nil) (hp.ins_old hxa.2) (fun y hy h => hp.outS [true, true, false] rfl ((hxa.2 y hy).lt h) List.not_mem_nil) hx6 hxl c hp2) ?_; rintro ns hns)))
                    | ((with_reducible refine g_call 11 ?_); (first | (((refine' Ef_callX (φ := fun ns : List Pk => ns.map (·.1) = [x0.1]) [true, true, true] rfl rfl ent_11 rfl rfl rfl (fun w hp => double_c b c w _ ls hp hlb x.n ?q1 x0 hx0) ?_); (case q1 => omega)); rintro ns hns) | ((refine' Ef_callT [true, true, true] rfl rfl ent_11 rfl rfl rfl (fun w hp => doubleF_c b c w _ ls ?q1 hp hlb x.n ?q2 x0 hx0) ?_); (case q1 => omega); (case q2 => omega)) | refine Ef_callT [true, true, true] rfl rfl ent_11 rfl rfl rfl (fun w hp => doubleE_c b c w _ x.n hp) ?_))
                    | ((with_reducible refine g_call 14 ?_); (first | refine Ef_callT [false, false, true, true, true] rfl rfl ent_14 rfl rfl rfl (fun w hp => htake w _ hp) ?_ | refine Ef_callT [false, false, true, true, true] rfl rfl ent_14 rfl rfl rfl (fun w hp => takeE_c b c w _ k hp) ?_))
                    | ((with_reducible refine g_call 16 ?_); (first
                    | (((refine' Ef_callX (φ := fun y : Hd × List Pk => y.2.map (·.1) = (ls.eraseIdx p).map (·.1)) [true, true, true, false, false, false] rfl rfl ent_16 rfl rfl rfl (fun w hp => all2_c b c w _ (ls.eraseIdx p) hp (fun q hp' => hlb q (List.mem_of_mem_eraseIdx hp')) ?q1) ?_); (case q1 => rw [hel]; omega)); rintro ⟨⟨A6, c6⟩, now⟩ hnow; dsimp only at hnow ⊢; have hnl := len_of hnow)
                    | (((refine' Ef_callX (φ := fun y : Hd × List Pk => y.2.map (·.1) = ls.map (·.1)) [true, true, true] rfl rfl ent_16 rfl rfl rfl (fun w hp => all2_c b c w _ ls hp hlb ?q1) ?_); (case q1 => omega)); rintro ⟨⟨A5, c5⟩, was⟩ hwas; dsimp only at hwas ⊢; have hwl := len_of hwas; obtain ⟨y, hy, hyx⟩ := at_of hwas h0; have eY : (was.flatMap pE)[p * 1]? = some (pV y) := enc_at pE_len hy (j := 0) Nat.one_pos; have hs := str_of hyx; have hpl := tm_of k hwl hz hp0; have htr := tr_of k hwl hz)
                    | (((refine' Ef_callX (φ := fun y : Hd × List Pk => y.2.map (·.1) = ([] : List Pk).map (·.1)) [true, true, true] rfl rfl ent_16 rfl rfl rfl (fun w hp => all2_c b c w _ [] hp (fun x hx => by cases hx) ?q1) ?_); (case q1 => simp)); rintro ⟨⟨A5, c5⟩, was⟩ hwas; obtain rfl : was = [] := List.map_eq_nil_iff.1 hwas; dsimp only [List.length_nil])
                    | (((refine' Ef_callX (φ := fun y : Hd × List Pk => y.2.map (·.1) = ([] : List Pk).map (·.1)) [true, true, true, false, false] rfl rfl ent_16 rfl rfl rfl (fun w hp => all2_c b c w _ [] hp (fun x hx => by cases hx) ?q1) ?_); (case q1 => simp)); rintro ⟨⟨A6, c6⟩, now⟩ hnow; obtain rfl : now = [] := List.map_eq_nil_iff.1 hnow; dsimp only [List.length_nil])))))
                    | ((with_reducible refine g_draw ?_); (first | (((with_reducible refine' T.drawM (id := 24) [(0, true), (1, true), (2, true), (3, false), (4, false), (5, false), (6, false), (7, false)] mixd ?q1 ?_); (case q1 => kernel_rfl))) | (((with_reducible refine' T.drawM (id := 32) [(0, true), (1, true), (2, true), (3, true), (4, true), (5, true), (6, false), (7, false), (8, false), (9, false), (10, false)] mixd ?q1 ?_); (case q1 => kernel_rfl)))))
                    | refine w1 ?_
                    | (refine w2 ?_ ?_ <;> intro hc)
                    | (first
                    | ((refine' ⟨_, Yl_remE (r := (p : Int)) rfl rfl ?q1 ?q2 hpl, ?_⟩); (case q1 => omega); (case q2 => omega))
                    | ((refine' ⟨_, Yl_rem_t rfl rfl ?q1, ?_⟩); (case q1 => omega))
                    | ((refine' ⟨_, Yl_str_hp (l := x0.1) rfl ?q1 ?q2 ?q3 (fun w hp => hp.in_row (p := x0) ?q4), ?_⟩); (case q1 => exact und_of rfl); (case q2 => exact und_of rfl); (case q3 => exact und_of rfl); (case q4 => (repeat (first | exact .head _ | apply List.Mem.tail))))
                    | ((refine' ⟨_, Yl_str_hp (l := y.1) rfl ?q1 ?q2 ?q3 (fun w hp => hp.ins_bag (ps := was) ?q4 y (mem_of_some hy)), ?_⟩); (case q1 => exact und_of rfl); (case q2 => exact und_of rfl); (case q3 => exact und_of rfl); (case q4 => (repeat (first | exact .head _ | apply List.Mem.tail))))
                    | ((refine' ⟨_, Yl_str_hp (l := z.1) rfl ?q1 ?q2 ?q3 (fun w hp => hp.ins_bag (ps := now) ?q4 z (mem_of_some hz)), ?_⟩); (case q1 => exact und_of rfl); (case q2 => exact und_of rfl); (case q3 => exact und_of rfl); (case q4 => (repeat (first | exact .head _ | apply List.Mem.tail)))))
                    | (refine w4 ?_; (intro _))
                    | (refine w5 ?_; (first | ((fail_if_success have := A1); intro A1 c1) | ((fail_if_success have := A2); intro A2 c2) | ((fail_if_success have := A3); intro A3 c3) | ((fail_if_success have := A4); intro A4 c4) | ((fail_if_success have := A5); intro A5 c5) | ((fail_if_success have := A6); intro A6 c6) | intro _ _))
                    | refine w3 ?_ ?_
                    | fail_if_success skip)
                refine loopH_n (j + 1) ?_ (fun w' h => h.ofPart (by (repeat (first | exact Part.nil | refine Part.p0 ?_ | refine Part.p1 ?_ | refine Part.p2 ?_ | refine Part.p3 ?_ | refine Part.p4 ?_ | refine Part.p5 ?_ | refine Part.p6 ?_)))) (show j + 1 ≤ _ by omega) (show now.length - (j + 1) < now.length - j by omega)
                (repeat (first | exact Sub.nil | refine Sub.cons rfl ?_))
            · repeat' (first
                | ((with_reducible refine is_load ?_); (first | ((refine' ⟨_, Yl_load_hp rfl ?q1 (fun w hp => hp.rd ha fun _ => List.not_mem_nil) ?q2, ?_⟩); (case q1 => exact one_of rfl); (case q2 => assumption)) | ((refine' ⟨_, Yl_load_row rfl ?q1 ?q2 eY, ?_⟩); (case q1 => exact one_of rfl); (case q2 => (repeat (first | exact .head _ | apply List.Mem.tail)))) | ((refine' ⟨_, Yl_load_row rfl ?q1 ?q2 eZ, ?_⟩); (case q1 => exact one_of rfl); (case q2 => (repeat (first | exact .head _ | apply List.Mem.tail))))))
                | ((with_reducible refine is_idx ?_); (first | ((refine' ⟨_, Yl_index_hp (j := j + 1) rfl rfl ?q1 ?q2 ?q3 (fun w hp => hp.rowOf ?q4), ?_⟩); (case q1 => exact und_of rfl); (case q2 => exact siz_of rfl); (case q3 => omega); (case q4 => (repeat (first | exact .head _ | apply List.Mem.tail))))))
                | ((with_reducible refine ie_callf ?_); (first
                | ((with_reducible refine g_call 19 ?_); (first | refine Ef_callP rfl rfl ent_19 (fun w _ => awake_c w) ?_))
                | ((with_reducible refine g_call 13 ?_); (first | (refine Ef_callN rfl rfl ent_13 (fun w hp => hgr w hp) ?_; rintro (_ | _))))
                | ((with_reducible refine g_call 9 ?_); (first | (refine Ef_callN rfl rfl ent_9 (fun w _ => new_c w) ?_; rintro ⟨b, c⟩)))
                | ((with_reducible refine g_call 10 ?_); (first | (refine Ef_callW [true, true, false] rfl rfl ent_10 rfl rfl rfl (fun w hp hp2 => sendG_c b w _ ls hlz x.h.1 x.h.2 x.l (hp.rd hxa.1 fun _ => List.not_mem_nil) (fun h => hp.outS [true, true, false] rfl (hxa.1.lt h) List.not_mem_nil) (hp.ins_old hxa.2) (fun y hy h => hp.outS [true, true, false] rfl ((hxa.2 y hy).lt h) List.not_mem_nil) hx6 hxl c hp2) ?_; rintro ns hns)))
                | ((with_reducible refine g_call 11 ?_); (first | (((refine' Ef_callX (φ := fun ns : List Pk => ns.map (·.1) = [x0.1]) [true, true, true] rfl rfl ent_11 rfl rfl rfl (fun w hp => double_c b c w _ ls hp hlb x.n ?q1 x0 hx0) ?_); (case q1 => omega)); rintro ns hns) | ((refine' Ef_callT [true, true, true] rfl rfl ent_11 rfl rfl rfl (fun w hp => doubleF_c b c w _ ls ?q1 hp hlb x.n ?q2 x0 hx0) ?_); (case q1 => omega); (case q2 => omega)) | refine Ef_callT [true, true, true] rfl rfl ent_11 rfl rfl rfl (fun w hp => doubleE_c b c w _ x.n hp) ?_))
                | ((with_reducible refine g_call 14 ?_); (first | refine Ef_callT [false, false, true, true, true] rfl rfl ent_14 rfl rfl rfl (fun w hp => htake w _ hp) ?_ | refine Ef_callT [false, false, true, true, true] rfl rfl ent_14 rfl rfl rfl (fun w hp => takeE_c b c w _ k hp) ?_))
                | ((with_reducible refine g_call 16 ?_); (first
                | (((refine' Ef_callX (φ := fun y : Hd × List Pk => y.2.map (·.1) = (ls.eraseIdx p).map (·.1)) [true, true, true, false, false, false] rfl rfl ent_16 rfl rfl rfl (fun w hp => all2_c b c w _ (ls.eraseIdx p) hp (fun q hp' => hlb q (List.mem_of_mem_eraseIdx hp')) ?q1) ?_); (case q1 => rw [hel]; omega)); rintro ⟨⟨A6, c6⟩, now⟩ hnow; dsimp only at hnow ⊢; have hnl := len_of hnow)
                | (((refine' Ef_callX (φ := fun y : Hd × List Pk => y.2.map (·.1) = ls.map (·.1)) [true, true, true] rfl rfl ent_16 rfl rfl rfl (fun w hp => all2_c b c w _ ls hp hlb ?q1) ?_); (case q1 => omega)); rintro ⟨⟨A5, c5⟩, was⟩ hwas; dsimp only at hwas ⊢; have hwl := len_of hwas; obtain ⟨y, hy, hyx⟩ := at_of hwas h0; have eY : (was.flatMap pE)[p * 1]? = some (pV y) := enc_at pE_len hy (j := 0) Nat.one_pos; have hs := str_of hyx; have hpl := tm_of k hwl hz hp0; have htr := tr_of k hwl hz)
                | (((refine' Ef_callX (φ := fun y : Hd × List Pk => y.2.map (·.1) = ([] : List Pk).map (·.1)) [true, true, true] rfl rfl ent_16 rfl rfl rfl (fun w hp => all2_c b c w _ [] hp (fun x hx => by cases hx) ?q1) ?_); (case q1 => simp)); rintro ⟨⟨A5, c5⟩, was⟩ hwas; obtain rfl : was = [] := List.map_eq_nil_iff.1 hwas; dsimp only [List.length_nil])
                | (((refine' Ef_callX (φ := fun y : Hd × List Pk => y.2.map (·.1) = ([] : List Pk).map (·.1)) [true, true, true, false, false] rfl rfl ent_16 rfl rfl rfl (fun w hp => all2_c b c w _ [] hp (fun x hx => by cases hx) ?q1) ?_); (case q1 => simp)); rintro ⟨⟨A6, c6⟩, now⟩ hnow; obtain rfl : now = [] := List.map_eq_nil_iff.1 hnow; dsimp only [List.length_nil])))))
                | ((with_reducible refine g_draw ?_); (first | (((with_reducible refine' T.drawM (id := 24) [(0, true), (1, true), (2, true), (3, false), (4, false), (5, false), (6, false), (7, false)] mixd ?q1 ?_); (case q1 => kernel_rfl))) | (((with_reducible refine' T.drawM (id := 32) [(0, true), (1, true), (2, true), (3, true), (4, true), (5, true), (6, false), (7, false), (8, false), (9, false), (10, false)] mixd ?q1 ?_); (case q1 => kernel_rfl)))))
                | refine w1 ?_
                | (refine w2 ?_ ?_ <;> intro hc)
                | (first
                | ((refine' ⟨_, Yl_remE (r := (p : Int)) rfl rfl ?q1 ?q2 hpl, ?_⟩); (case q1 => omega); (case q2 => omega))
                | ((refine' ⟨_, Yl_rem_t rfl rfl ?q1, ?_⟩); (case q1 => omega))
                | ((refine' ⟨_, Yl_str_hp (l := x0.1) rfl ?q1 ?q2 ?q3 (fun w hp => hp.in_row (p := x0) ?q4), ?_⟩); (case q1 => exact und_of rfl); (case q2 => exact und_of rfl); (case q3 => exact und_of rfl); (case q4 => (repeat (first | exact .head _ | apply List.Mem.tail))))
                | ((refine' ⟨_, Yl_str_hp (l := y.1) rfl ?q1 ?q2 ?q3 (fun w hp => hp.ins_bag (ps := was) ?q4 y (mem_of_some hy)), ?_⟩); (case q1 => exact und_of rfl); (case q2 => exact und_of rfl); (case q3 => exact und_of rfl); (case q4 => (repeat (first | exact .head _ | apply List.Mem.tail))))
                | ((refine' ⟨_, Yl_str_hp (l := z.1) rfl ?q1 ?q2 ?q3 (fun w hp => hp.ins_bag (ps := now) ?q4 z (mem_of_some hz)), ?_⟩); (case q1 => exact und_of rfl); (case q2 => exact und_of rfl); (case q3 => exact und_of rfl); (case q4 => (repeat (first | exact .head _ | apply List.Mem.tail)))))
                | (refine w4 ?_; (intro _))
                | (refine w5 ?_; (first | ((fail_if_success have := A1); intro A1 c1) | ((fail_if_success have := A2); intro A2 c2) | ((fail_if_success have := A3); intro A3 c3) | ((fail_if_success have := A4); intro A4 c4) | ((fail_if_success have := A5); intro A5 c5) | ((fail_if_success have := A6); intro A6 c6) | intro _ _))
                | refine w3 ?_ ?_
                | fail_if_success skip)
              exact ret_n [] (res1 rfl rfl) (List.nil_sublist _) ⟨rfl, rfl⟩
  · exact ret_n [] (res1 rfl rfl) (List.nil_sublist _) ⟨rfl, rfl⟩
end
end Go.Proofs.Ytdbpnolpgkcjiaa
