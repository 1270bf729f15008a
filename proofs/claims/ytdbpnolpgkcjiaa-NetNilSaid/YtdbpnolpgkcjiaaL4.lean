/- Law: a net that nobody made is none: what a call comes to. -/
import Derived.Test.YtdbpnolpgkcjiaaT7
namespace Go.Proofs.Ytdbpnolpgkcjiaa
open Go.RowKit Go.Conc

theorem o_build36 (w : World) : (Instr.build 36 #[]).run Try.prog w = .ok (.agg #[.chan none]) w := by kernel_rfl
theorem Ef_bsl2 {P : Program} {n : Nat} {w0 : World} {R : List Nat} {L : List (Nat × Value)} {M : List Asrt} {t ty : TypeId} {K : List (Nat × Value) → List Asrt → Prop} {x y : Operand} {d e by_ : Nat} {v u : Value} (hd : Nat.blt d n = true) (hx : evl L x = some v) (hy : evl L y = some u) (h1 : v.oneCell' = true) (h2 : u.oneCell' = true) (ht : appT P t = some (e, 1, by_))
    (h : ∀ b, K ((d, .slice (some ⟨b, 0, none⟩) 2 2) :: L) (.row e 1 (.slice (some ⟨b, 0, none⟩) 2 2) 2 [v, u] :: M)) : Ef P n w0 R (some d) (.buildSlice t 2 #[(0, x), (1, y)]) ty L M K := by
  have hc : v.cells = #[v] := by cases v <;> first | rfl | cases h1
  have hc2 : u.cells = #[u] := by cases u <;> first | rfl | cases h2
  exact Ef_bsl (vs := [v, u]) hd ht (by simp [evps, hx, hy]) rfl (by simp [hc, hc2]) (by decide) (by decide) (by simp [hc, hc2]) h

theorem nil_law (a : Ac) (w : World) (ha : ArgIn w a) (hk : a.l.length ≤ 140737488355328) : Sp Try.prog 4 [.agg (aE a).toArray] w [] fun v N => v = .bool true ∧ N = [] := by
  have hg1 := fun w A c h h2 => greatAny_c A c [a] w h h2 (by simp) (fun x hx => by rw [List.mem_singleton.1 hx]; exact hk)
  refine Sp.enter (n := 72) Try.func4 rfl rfl rfl (Hp.refl w) ?_
  repeat' (first
      | ((with_reducible refine is_build ?_); (first | refine ⟨_, Yl_build rfl o_build36, ?_⟩))
      | ((with_reducible refine ie_callf ?_); (first
      | ((with_reducible refine g_call 13 ?_); (first | (((refine' Ef_callN rfl rfl ent_13 (fun w hp => hg1 w (some ⟨b2, 0, none⟩) 1 (hp.rowOf ?q1) (fun x hx => by rw [List.mem_singleton.1 hx]; exact hp.rd ha.1 fun _ => List.not_mem_nil)) ?_); (case q1 => (repeat (first | exact .head _ | apply List.Mem.tail)))); rintro q)))
      | ((with_reducible refine g_call 14 ?_); (first | refine Ef_callP rfl rfl ent_14 (fun w _ => nil_take _ w (nil_0 w) _) ?_ | ((refine' Ef_callP rfl rfl ent_14 (fun w hp => nil_take _ w (nil_1 b3 w (hp.blkOf ?q1)) _) ?_); (case q1 => (repeat (first | exact .head _ | apply List.Mem.tail))))))
      | ((with_reducible refine g_call 10 ?_); (first | refine Ef_callP rfl rfl ent_10 (fun w _ => nil_send _ w (nil_0 w) _) ?_ | ((refine' Ef_callP rfl rfl ent_10 (fun w hp => nil_send _ w (nil_1 b3 w (hp.blkOf ?q1)) _) ?_); (case q1 => (repeat (first | exact .head _ | apply List.Mem.tail))))))
      | ((with_reducible refine g_call 15 ?_); (first | refine Ef_callP rfl rfl ent_15 (fun w _ => nil_drop _ w (nil_0 w) _) ?_ | ((refine' Ef_callP rfl rfl ent_15 (fun w hp => nil_drop _ w (nil_1 b3 w (hp.blkOf ?q1)) _) ?_); (case q1 => (repeat (first | exact .head _ | apply List.Mem.tail))))))
      | ((with_reducible refine g_call 11 ?_); (first | refine Ef_callP rfl rfl ent_11 (fun w _ => nil_double _ w (nil_0 w) _) ?_ | ((refine' Ef_callP rfl rfl ent_11 (fun w hp => nil_double _ w (nil_1 b3 w (hp.blkOf ?q1)) _) ?_); (case q1 => (repeat (first | exact .head _ | apply List.Mem.tail))))))
      | ((with_reducible refine g_call 16 ?_); (first | refine Ef_callP rfl rfl ent_16 (fun w _ => nil_all _ w (nil_0 w)) ?_ | ((refine' Ef_callP rfl rfl ent_16 (fun w hp => nil_all _ w (nil_1 b3 w (hp.blkOf ?q1))) ?_); (case q1 => (repeat (first | exact .head _ | apply List.Mem.tail))))))
      | ((with_reducible refine g_call 12 ?_); (first | refine Ef_callP rfl rfl ent_12 (fun w _ => nil_len _ w (nil_0 w)) ?_ | ((refine' Ef_callP rfl rfl ent_12 (fun w hp => nil_len _ w (nil_1 b3 w (hp.blkOf ?q1))) ?_); (case q1 => (repeat (first | exact .head _ | apply List.Mem.tail))))))))
      | (first | (((refine' Ef_bsl2 rfl rfl rfl rfl rfl ?q1 ?_); (case q1 => exact app_of rfl)); intro b4))
      | refine w1 ?_
      | (refine w2 ?_ ?_ <;> intro hc)
      | (refine w4 ?_; (first | ((fail_if_success have := b1); intro b1) | ((fail_if_success have := b2); intro b2) | ((fail_if_success have := b3); intro b3) | ((fail_if_success have := b4); intro b4) | intro _))
      | (refine w5 ?_; (intro _ _))
      | refine w3 ?_ ?_
      | fail_if_success skip)
  · exact ret_n [] (res1 rfl rfl) (List.nil_sublist _) ⟨rfl, rfl⟩
  · refine T.loop (α := Nat) (fun i => [(1, .pointer (some ⟨b1, 0, none⟩)), (4, .slice (some ⟨b4, 0, none⟩) 2 2), (5, .int .i64 (i : Int))]) (fun _ => [.row 22 1 (.slice (some ⟨b4, 0, none⟩) 2 2) 2 [.pointer none, .pointer (some ⟨b3, 0, none⟩)], .blk b3 (.cells #[.chan none] 36 (0, 0)), .blk b1 (.cells (aE a).toArray 31 (0, 0))]) (fun i => i ≤ 2) (fun i => 2 - i) 0 ?_ ?_ ?_ ?_
    · (repeat (first | exact Sub.nil | refine Sub.cons rfl ?_))
    · (repeat (first | exact List.nil_sublist _ | refine List.Sublist.cons_cons _ ?_ | refine List.Sublist.cons _ ?_))
    · decide
    · rintro i hi
      have hcs : i = 0 ∨ i = 1 ∨ i = 2 := by omega
      rcases hcs with hcs | hcs | hcs
      · have eP : ([.pointer none, .pointer (some ⟨b3, 0, none⟩)] : List Value)[i * 1]? = some (.pointer none) := by rw [hcs]; rfl
        repeat' (first
            | ((with_reducible refine is_build ?_); (first | refine ⟨_, Yl_build rfl o_build36, ?_⟩))
            | ((with_reducible refine ie_callf ?_); (first
            | ((with_reducible refine g_call 13 ?_); (first | (((refine' Ef_callN rfl rfl ent_13 (fun w hp => hg1 w (some ⟨b2, 0, none⟩) 1 (hp.rowOf ?q1) (fun x hx => by rw [List.mem_singleton.1 hx]; exact hp.rd ha.1 fun _ => List.not_mem_nil)) ?_); (case q1 => (repeat (first | exact .head _ | apply List.Mem.tail)))); rintro q)))
            | ((with_reducible refine g_call 14 ?_); (first | refine Ef_callP rfl rfl ent_14 (fun w _ => nil_take _ w (nil_0 w) _) ?_ | ((refine' Ef_callP rfl rfl ent_14 (fun w hp => nil_take _ w (nil_1 b3 w (hp.blkOf ?q1)) _) ?_); (case q1 => (repeat (first | exact .head _ | apply List.Mem.tail))))))
            | ((with_reducible refine g_call 10 ?_); (first | refine Ef_callP rfl rfl ent_10 (fun w _ => nil_send _ w (nil_0 w) _) ?_ | ((refine' Ef_callP rfl rfl ent_10 (fun w hp => nil_send _ w (nil_1 b3 w (hp.blkOf ?q1)) _) ?_); (case q1 => (repeat (first | exact .head _ | apply List.Mem.tail))))))
            | ((with_reducible refine g_call 15 ?_); (first | refine Ef_callP rfl rfl ent_15 (fun w _ => nil_drop _ w (nil_0 w) _) ?_ | ((refine' Ef_callP rfl rfl ent_15 (fun w hp => nil_drop _ w (nil_1 b3 w (hp.blkOf ?q1)) _) ?_); (case q1 => (repeat (first | exact .head _ | apply List.Mem.tail))))))
            | ((with_reducible refine g_call 11 ?_); (first | refine Ef_callP rfl rfl ent_11 (fun w _ => nil_double _ w (nil_0 w) _) ?_ | ((refine' Ef_callP rfl rfl ent_11 (fun w hp => nil_double _ w (nil_1 b3 w (hp.blkOf ?q1)) _) ?_); (case q1 => (repeat (first | exact .head _ | apply List.Mem.tail))))))
            | ((with_reducible refine g_call 16 ?_); (first | refine Ef_callP rfl rfl ent_16 (fun w _ => nil_all _ w (nil_0 w)) ?_ | ((refine' Ef_callP rfl rfl ent_16 (fun w hp => nil_all _ w (nil_1 b3 w (hp.blkOf ?q1))) ?_); (case q1 => (repeat (first | exact .head _ | apply List.Mem.tail))))))
            | ((with_reducible refine g_call 12 ?_); (first | refine Ef_callP rfl rfl ent_12 (fun w _ => nil_len _ w (nil_0 w)) ?_ | ((refine' Ef_callP rfl rfl ent_12 (fun w hp => nil_len _ w (nil_1 b3 w (hp.blkOf ?q1))) ?_); (case q1 => (repeat (first | exact .head _ | apply List.Mem.tail))))))))
            | (first | (((refine' Ef_bsl2 rfl rfl rfl rfl rfl ?q1 ?_); (case q1 => exact app_of rfl)); intro b4))
            | refine w1 ?_
            | (refine w2 ?_ ?_ <;> intro hc)
            | (refine w4 ?_; (first | ((fail_if_success have := b1); intro b1) | ((fail_if_success have := b2); intro b2) | ((fail_if_success have := b3); intro b3) | ((fail_if_success have := b4); intro b4) | intro _))
            | (refine w5 ?_; (intro _ _))
            | refine w3 ?_ ?_
            | fail_if_success skip)
        refine loopQ_n (i + 1) ?_ ?_ (show i + 1 ≤ 2 by omega) (show 2 - (i + 1) < 2 - i by omega)
        · (repeat (first | exact Sub.nil | refine Sub.cons rfl ?_))
        · (repeat (first | exact List.nil_sublist _ | refine List.Sublist.cons_cons _ ?_ | refine List.Sublist.cons _ ?_))
      · have eP : ([.pointer none, .pointer (some ⟨b3, 0, none⟩)] : List Value)[i * 1]? = some (.pointer (some ⟨b3, 0, none⟩)) := by rw [hcs]; rfl
        repeat' (first
            | ((with_reducible refine is_build ?_); (first | refine ⟨_, Yl_build rfl o_build36, ?_⟩))
            | ((with_reducible refine ie_callf ?_); (first
            | ((with_reducible refine g_call 13 ?_); (first | (((refine' Ef_callN rfl rfl ent_13 (fun w hp => hg1 w (some ⟨b2, 0, none⟩) 1 (hp.rowOf ?q1) (fun x hx => by rw [List.mem_singleton.1 hx]; exact hp.rd ha.1 fun _ => List.not_mem_nil)) ?_); (case q1 => (repeat (first | exact .head _ | apply List.Mem.tail)))); rintro q)))
            | ((with_reducible refine g_call 14 ?_); (first | refine Ef_callP rfl rfl ent_14 (fun w _ => nil_take _ w (nil_0 w) _) ?_ | ((refine' Ef_callP rfl rfl ent_14 (fun w hp => nil_take _ w (nil_1 b3 w (hp.blkOf ?q1)) _) ?_); (case q1 => (repeat (first | exact .head _ | apply List.Mem.tail))))))
            | ((with_reducible refine g_call 10 ?_); (first | refine Ef_callP rfl rfl ent_10 (fun w _ => nil_send _ w (nil_0 w) _) ?_ | ((refine' Ef_callP rfl rfl ent_10 (fun w hp => nil_send _ w (nil_1 b3 w (hp.blkOf ?q1)) _) ?_); (case q1 => (repeat (first | exact .head _ | apply List.Mem.tail))))))
            | ((with_reducible refine g_call 15 ?_); (first | refine Ef_callP rfl rfl ent_15 (fun w _ => nil_drop _ w (nil_0 w) _) ?_ | ((refine' Ef_callP rfl rfl ent_15 (fun w hp => nil_drop _ w (nil_1 b3 w (hp.blkOf ?q1)) _) ?_); (case q1 => (repeat (first | exact .head _ | apply List.Mem.tail))))))
            | ((with_reducible refine g_call 11 ?_); (first | refine Ef_callP rfl rfl ent_11 (fun w _ => nil_double _ w (nil_0 w) _) ?_ | ((refine' Ef_callP rfl rfl ent_11 (fun w hp => nil_double _ w (nil_1 b3 w (hp.blkOf ?q1)) _) ?_); (case q1 => (repeat (first | exact .head _ | apply List.Mem.tail))))))
            | ((with_reducible refine g_call 16 ?_); (first | refine Ef_callP rfl rfl ent_16 (fun w _ => nil_all _ w (nil_0 w)) ?_ | ((refine' Ef_callP rfl rfl ent_16 (fun w hp => nil_all _ w (nil_1 b3 w (hp.blkOf ?q1))) ?_); (case q1 => (repeat (first | exact .head _ | apply List.Mem.tail))))))
            | ((with_reducible refine g_call 12 ?_); (first | refine Ef_callP rfl rfl ent_12 (fun w _ => nil_len _ w (nil_0 w)) ?_ | ((refine' Ef_callP rfl rfl ent_12 (fun w hp => nil_len _ w (nil_1 b3 w (hp.blkOf ?q1))) ?_); (case q1 => (repeat (first | exact .head _ | apply List.Mem.tail))))))))
            | (first | (((refine' Ef_bsl2 rfl rfl rfl rfl rfl ?q1 ?_); (case q1 => exact app_of rfl)); intro b4))
            | refine w1 ?_
            | (refine w2 ?_ ?_ <;> intro hc)
            | (refine w4 ?_; (first | ((fail_if_success have := b1); intro b1) | ((fail_if_success have := b2); intro b2) | ((fail_if_success have := b3); intro b3) | ((fail_if_success have := b4); intro b4) | intro _))
            | (refine w5 ?_; (intro _ _))
            | refine w3 ?_ ?_
            | fail_if_success skip)
        refine loopQ_n (i + 1) ?_ ?_ (show i + 1 ≤ 2 by omega) (show 2 - (i + 1) < 2 - i by omega)
        · (repeat (first | exact Sub.nil | refine Sub.cons rfl ?_))
        · (repeat (first | exact List.nil_sublist _ | refine List.Sublist.cons_cons _ ?_ | refine List.Sublist.cons _ ?_))
      · repeat' (first
          | ((with_reducible refine is_build ?_); (first | refine ⟨_, Yl_build rfl o_build36, ?_⟩))
          | ((with_reducible refine ie_callf ?_); (first
          | ((with_reducible refine g_call 13 ?_); (first | (((refine' Ef_callN rfl rfl ent_13 (fun w hp => hg1 w (some ⟨b2, 0, none⟩) 1 (hp.rowOf ?q1) (fun x hx => by rw [List.mem_singleton.1 hx]; exact hp.rd ha.1 fun _ => List.not_mem_nil)) ?_); (case q1 => (repeat (first | exact .head _ | apply List.Mem.tail)))); rintro q)))
          | ((with_reducible refine g_call 14 ?_); (first | refine Ef_callP rfl rfl ent_14 (fun w _ => nil_take _ w (nil_0 w) _) ?_ | ((refine' Ef_callP rfl rfl ent_14 (fun w hp => nil_take _ w (nil_1 b3 w (hp.blkOf ?q1)) _) ?_); (case q1 => (repeat (first | exact .head _ | apply List.Mem.tail))))))
          | ((with_reducible refine g_call 10 ?_); (first | refine Ef_callP rfl rfl ent_10 (fun w _ => nil_send _ w (nil_0 w) _) ?_ | ((refine' Ef_callP rfl rfl ent_10 (fun w hp => nil_send _ w (nil_1 b3 w (hp.blkOf ?q1)) _) ?_); (case q1 => (repeat (first | exact .head _ | apply List.Mem.tail))))))
          | ((with_reducible refine g_call 15 ?_); (first | refine Ef_callP rfl rfl ent_15 (fun w _ => nil_drop _ w (nil_0 w) _) ?_ | ((refine' Ef_callP rfl rfl ent_15 (fun w hp => nil_drop _ w (nil_1 b3 w (hp.blkOf ?q1)) _) ?_); (case q1 => (repeat (first | exact .head _ | apply List.Mem.tail))))))
          | ((with_reducible refine g_call 11 ?_); (first | refine Ef_callP rfl rfl ent_11 (fun w _ => nil_double _ w (nil_0 w) _) ?_ | ((refine' Ef_callP rfl rfl ent_11 (fun w hp => nil_double _ w (nil_1 b3 w (hp.blkOf ?q1)) _) ?_); (case q1 => (repeat (first | exact .head _ | apply List.Mem.tail))))))
          | ((with_reducible refine g_call 16 ?_); (first | refine Ef_callP rfl rfl ent_16 (fun w _ => nil_all _ w (nil_0 w)) ?_ | ((refine' Ef_callP rfl rfl ent_16 (fun w hp => nil_all _ w (nil_1 b3 w (hp.blkOf ?q1))) ?_); (case q1 => (repeat (first | exact .head _ | apply List.Mem.tail))))))
          | ((with_reducible refine g_call 12 ?_); (first | refine Ef_callP rfl rfl ent_12 (fun w _ => nil_len _ w (nil_0 w)) ?_ | ((refine' Ef_callP rfl rfl ent_12 (fun w hp => nil_len _ w (nil_1 b3 w (hp.blkOf ?q1))) ?_); (case q1 => (repeat (first | exact .head _ | apply List.Mem.tail))))))))
          | (first | (((refine' Ef_bsl2 rfl rfl rfl rfl rfl ?q1 ?_); (case q1 => exact app_of rfl)); intro b4))
          | refine w1 ?_
          | (refine w2 ?_ ?_ <;> intro hc)
          | (refine w4 ?_; (first | ((fail_if_success have := b1); intro b1) | ((fail_if_success have := b2); intro b2) | ((fail_if_success have := b3); intro b3) | ((fail_if_success have := b4); intro b4) | intro _))
          | (refine w5 ?_; (intro _ _))
          | refine w3 ?_ ?_
          | fail_if_success skip)
        exact ret_n [] (res1 rfl rfl) (List.nil_sublist _) ⟨rfl, rfl⟩
end Go.Proofs.Ytdbpnolpgkcjiaa
