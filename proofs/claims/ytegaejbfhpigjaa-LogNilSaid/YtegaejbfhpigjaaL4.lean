/- Law: a log that nobody made is none: what a call comes to. -/
import Derived.Test.YtegaejbfhpigjaaT14
namespace Go.Proofs.Ytegaejbfhpigjaa
open Go.RowKit
set_option maxRecDepth 20000

theorem Ef_bsl2 {P : Program} {n : Nat} {w0 : World} {R : List Nat} {L : List (Nat × Value)} {M : List Asrt} {t ty : TypeId} {K : List (Nat × Value) → List Asrt → Prop} {x y : Operand} {d e by_ : Nat} {v u : Value} (hd : Nat.blt d n = true) (hx : evl L x = some v) (hy : evl L y = some u) (h1 : v.oneCell' = true) (h2 : u.oneCell' = true) (ht : appT P t = some (e, 1, by_))
    (h : ∀ b, K ((d, .slice (some ⟨b, 0, none⟩) 2 2) :: L) (.row e 1 (.slice (some ⟨b, 0, none⟩) 2 2) 2 [v, u] :: M)) : Ef P n w0 R (some d) (.buildSlice t 2 #[(0, x), (1, y)]) ty L M K := by
  have hc : v.cells = #[v] := by cases v <;> first | rfl | cases h1
  have hc2 : u.cells = #[u] := by cases u <;> first | rfl | cases h2
  exact Ef_bsl (vs := [v, u]) hd ht (by simp [evps, hx, hy]) rfl (by simp [hc, hc2]) (by decide) (by decide) (by simp [hc, hc2]) h

/-- It is a log that nobody made, in any later world. -/
def NilL (pv : Value) (w : World) : Prop := ∀ w', Hp w [] [] w' → Sp Try.prog 37 [pv] w' [] fun v N => v = .bool true ∧ N = []
theorem NilL.at {pv : Value} {w w' : World} {M : List Asrt} (h : NilL pv w) (hp : Hp w [] M w') : Sp Try.prog 37 [pv] w' [] fun v N => v = .bool true ∧ N = [] := h w' (hp.weaken (List.nil_sublist _))
theorem NilL.step {pv : Value} {w w' : World} {M : List Asrt} (h : NilL pv w) (hp : Hp w [] M w') : NilL pv w' := fun w2 hp2 => h w2 (hp2.after hp)
theorem nil_0 (w : World) : NilL (.pointer none) w := fun w' _ => none0_v w'
theorem nil_1 (b : Nat) (w : World) (hb : w.heap[b]? = some (.cells (lgC false (.slice none 0 0) 0) 50 (0, 0))) : NilL (.pointer (some ⟨b, 0, none⟩)) w := fun w' hp => none1_v w' b false _ _ (hp.blk_old hb List.not_mem_nil)
section
variable (pv : Value) (w : World) (h : NilL pv w)
include h
theorem nil_len : Sp Try.prog 15 [pv] w [] fun v N => v = .int .i64 0 ∧ N = [] := lenN_v pv w fun _ hp => h.at hp
theorem nil_synced : Sp Try.prog 16 [pv] w [] fun v N => v = .int .i64 0 ∧ N = [] := syncedN_v pv w fun _ hp => h.at hp
theorem nil_mark : Sp Try.prog 29 [pv] w [] fun v N => v = .int .i64 1 ∧ N = [] := markN_v pv w fun _ hp => h.at hp
theorem nil_cut (n : Int) : Sp Try.prog 30 [pv, .int .i64 n] w [] fun v N => v = .int .i64 1 ∧ N = [] := cutN_v pv w (fun _ hp => h.at hp) n
theorem nil_add (hpv : pv.oneCell' = true) (e : Me) : Sp Try.prog 28 [pv, .agg (mE e).toArray] w [] fun v N => v = .int .i64 1 ∧ N = [] := addN_v pv w (fun _ hp => h.at hp) hpv e
theorem nil_stamp : Sp Try.prog 17 [pv] w [] fun v N => v = .int .i64 0 ∧ N = [] := stampN_v pv w fun w' hp => lenN_v pv w' fun _ hp2 => (h.step hp).at hp2
theorem nil_has (c i bh : Int) : Sp Try.prog 24 [pv, .int .i64 c, .int .i64 i, .int .i64 bh] w [] fun v N => v = .bool false ∧ N = [] := hasN_v pv w (fun w' hp => lenN_v pv w' fun _ hp2 => (h.step hp).at hp2) c i bh
theorem nil_from (i n : Int) : Sp Try.prog 19 [pv, .int .i64 i, .int .i64 n] w [] fun v N => ∃ _ : Unit, v = .slice none 0 0 ∧ N = [rM [] (none, 0), bag []] :=
  (fromN_c pv i n w fun w' hp => lenN_v pv w' fun _ hp2 => (h.step hp).at hp2).mono fun _ _ h => ⟨(), h⟩
theorem nil_at (i : Int) : Sp Try.prog 21 [pv, .int .i64 i] w [] fun v N => ∃ z : Hd, v = .tuple #[.agg (mE (Lg.zero, z)).toArray, .bool false] ∧ N = [bA (Lg.zero, z)] :=
  at_c pv i [] w (Nat.zero_le _) fun w' hp => (nil_from pv w' (h.step hp) i 1).mono fun _ _ ⟨_, h1, h2⟩ => ⟨((none, 0), []), rfl, h1, h2⟩
end

theorem nil_law (a : Ac) (w : World) (hk : a.e.1.body.length ≤ 140737488355328) : Sp Try.prog 7 [.agg (aE a).toArray] w [] fun v N => v = .bool true ∧ N = [] := by
  have hg1 := fun w A c h => great_v A c [a] w h (by simp) (fun x hx => by rw [List.mem_singleton.1 hx]; exact hk) _ rfl
  cases h1 : Lg.great 0 [a]
  · rw [h1] at hg1
    refine Sp.enter (n := 88) Try.func7 rfl rfl rfl (Hp.refl w) ?_
    repeat' (first
        | ((with_reducible refine is_load ?_); (first | ((refine' ⟨_, Yl_loadA_at (vs := mE a.e) rfl ?qa ?qb ?ql ?qc, ?_⟩); (case qa => exact agg_of rfl); (case qb => (repeat (first | exact .head _ | apply List.Mem.tail))); (case qc => exact aE_at a); (case ql => rfl))))
        | ((with_reducible refine is_build ?_); (first | refine ⟨_, Yl_build rfl o_build50, ?_⟩))
        | ((with_reducible refine ie_store ?_); (first | ((refine' Ef_storeA' rfl rfl ?q1 (mE_one _) ?q2 ?q3 ?_); (case q1 => exact siz_of rfl); (case q2 => (first | exact at0 | exact at1 | exact at2 | exact at3 | exact at4 | exact at5 | exact at6)); (case q3 => rfl))))
        | ((with_reducible refine ie_callf ?_); (first
        | ((with_reducible refine g_call 10 ?_); (first | ((refine' Ef_callP rfl rfl ent_10 (fun w hp => hg1 w (some ⟨b2, 0, none⟩) 1 (hp.rowOf ?q1)) ?_); (case q1 => (repeat (first | exact .head _ | apply List.Mem.tail))))))
        | ((with_reducible refine g_call 21 ?_); (first | (refine Ef_callN rfl rfl ent_21 (fun w _ => nil_at _ w (nil_0 w) a.n) ?_; rintro ⟨A1, c1⟩) | (((refine' Ef_callN rfl rfl ent_21 (fun w hp => nil_at _ w (nil_1 b3 w (hp.blkOf ?q1)) a.n) ?_); (case q1 => (repeat (first | exact .head _ | apply List.Mem.tail)))); rintro ⟨A1, c1⟩)))
        | ((with_reducible refine g_call 28 ?_); (first | refine Ef_callP rfl rfl ent_28 (fun w _ => nil_add _ w (nil_0 w) rfl a.e) ?_ | ((refine' Ef_callP rfl rfl ent_28 (fun w hp => nil_add _ w (nil_1 b3 w (hp.blkOf ?q1)) rfl a.e) ?_); (case q1 => (repeat (first | exact .head _ | apply List.Mem.tail))))))
        | ((with_reducible refine g_call 29 ?_); (first | refine Ef_callP rfl rfl ent_29 (fun w _ => nil_mark _ w (nil_0 w)) ?_ | ((refine' Ef_callP rfl rfl ent_29 (fun w hp => nil_mark _ w (nil_1 b3 w (hp.blkOf ?q1))) ?_); (case q1 => (repeat (first | exact .head _ | apply List.Mem.tail))))))
        | ((with_reducible refine g_call 30 ?_); (first | refine Ef_callP rfl rfl ent_30 (fun w _ => nil_cut _ w (nil_0 w) a.n) ?_ | ((refine' Ef_callP rfl rfl ent_30 (fun w hp => nil_cut _ w (nil_1 b3 w (hp.blkOf ?q1)) a.n) ?_); (case q1 => (repeat (first | exact .head _ | apply List.Mem.tail))))))
        | ((with_reducible refine g_call 15 ?_); (first | refine Ef_callP rfl rfl ent_15 (fun w _ => nil_len _ w (nil_0 w)) ?_ | ((refine' Ef_callP rfl rfl ent_15 (fun w hp => nil_len _ w (nil_1 b3 w (hp.blkOf ?q1))) ?_); (case q1 => (repeat (first | exact .head _ | apply List.Mem.tail))))))
        | ((with_reducible refine g_call 16 ?_); (first | refine Ef_callP rfl rfl ent_16 (fun w _ => nil_synced _ w (nil_0 w)) ?_ | ((refine' Ef_callP rfl rfl ent_16 (fun w hp => nil_synced _ w (nil_1 b3 w (hp.blkOf ?q1))) ?_); (case q1 => (repeat (first | exact .head _ | apply List.Mem.tail))))))
        | ((with_reducible refine g_call 17 ?_); (first | refine Ef_callP rfl rfl ent_17 (fun w _ => nil_stamp _ w (nil_0 w)) ?_ | ((refine' Ef_callP rfl rfl ent_17 (fun w hp => nil_stamp _ w (nil_1 b3 w (hp.blkOf ?q1))) ?_); (case q1 => (repeat (first | exact .head _ | apply List.Mem.tail))))))
        | ((with_reducible refine g_call 19 ?_); (first | (refine Ef_callN (β := Unit) rfl rfl ent_19 (fun w _ => nil_from _ w (nil_0 w) a.n 5) ?_; rintro ⟨⟩) | (((refine' Ef_callN (β := Unit) rfl rfl ent_19 (fun w hp => nil_from _ w (nil_1 b3 w (hp.blkOf ?q1)) a.n 5) ?_); (case q1 => (repeat (first | exact .head _ | apply List.Mem.tail)))); rintro ⟨⟩)))
        | ((with_reducible refine g_call 24 ?_); (first | refine Ef_callP rfl rfl ent_24 (fun w _ => nil_has _ w (nil_0 w) _ _ _) ?_ | ((refine' Ef_callP rfl rfl ent_24 (fun w hp => nil_has _ w (nil_1 b3 w (hp.blkOf ?q1)) _ _ _) ?_); (case q1 => (repeat (first | exact .head _ | apply List.Mem.tail))))))))
        | (first | (((refine' Ef_bsl2 rfl rfl rfl rfl rfl ?q1 ?_); (case q1 => exact app_of rfl)); intro b4))
        | refine w1 ?_
        | (refine w2 ?_ ?_ <;> intro hc)
        | (refine w4 ?_; (first | ((fail_if_success have := b1); intro b1) | ((fail_if_success have := b2); intro b2) | ((fail_if_success have := b3); intro b3) | ((fail_if_success have := b4); intro b4) | intro _))
        | (refine w5 ?_; (first | ((fail_if_success have := A1); intro A1 c1) | intro _ _))
        | refine w3 ?_ ?_
        | fail_if_success skip)
    refine T.loop (α := Nat) (fun i => [(1, .pointer (some ⟨b1, 0, none⟩)), (4, .slice (some ⟨b4, 0, none⟩) 2 2), (5, .int .i64 (i : Int))]) (fun _ => [.row 32 1 (.slice (some ⟨b4, 0, none⟩) 2 2) 2 [.pointer none, .pointer (some ⟨b3, 0, none⟩)], .blk b3 (.cells (lgC false (.slice none 0 0) 0) 50 (0, 0)), .blk b1 (.cells (aE a).toArray 29 (0, 0))]) (fun i => i ≤ 2) (fun i => 2 - i) 0 ?_ ?_ ?_ ?_
    · (repeat (first | exact Sub.nil | refine Sub.cons rfl ?_))
    · (repeat (first | exact List.nil_sublist _ | refine List.Sublist.cons_cons _ ?_ | refine List.Sublist.cons _ ?_))
    · decide
    · rintro i hi
      have hcs : i = 0 ∨ i = 1 ∨ i = 2 := by omega
      rcases hcs with hcs | hcs | hcs
      · have eP : ([.pointer none, .pointer (some ⟨b3, 0, none⟩)] : List Value)[i * 1]? = some (.pointer none) := by rw [hcs]; rfl
        repeat' (first
            | ((with_reducible refine is_load ?_); (first | ((refine' ⟨_, Yl_loadA_at (vs := mE a.e) rfl ?qa ?qb ?ql ?qc, ?_⟩); (case qa => exact agg_of rfl); (case qb => (repeat (first | exact .head _ | apply List.Mem.tail))); (case qc => exact aE_at a); (case ql => rfl))))
            | ((with_reducible refine is_build ?_); (first | refine ⟨_, Yl_build rfl o_build50, ?_⟩))
            | ((with_reducible refine ie_store ?_); (first | ((refine' Ef_storeA' rfl rfl ?q1 (mE_one _) ?q2 ?q3 ?_); (case q1 => exact siz_of rfl); (case q2 => (first | exact at0 | exact at1 | exact at2 | exact at3 | exact at4 | exact at5 | exact at6)); (case q3 => rfl))))
            | ((with_reducible refine ie_callf ?_); (first
            | ((with_reducible refine g_call 10 ?_); (first | ((refine' Ef_callP rfl rfl ent_10 (fun w hp => hg1 w (some ⟨b2, 0, none⟩) 1 (hp.rowOf ?q1)) ?_); (case q1 => (repeat (first | exact .head _ | apply List.Mem.tail))))))
            | ((with_reducible refine g_call 21 ?_); (first | (refine Ef_callN rfl rfl ent_21 (fun w _ => nil_at _ w (nil_0 w) a.n) ?_; rintro ⟨A1, c1⟩) | (((refine' Ef_callN rfl rfl ent_21 (fun w hp => nil_at _ w (nil_1 b3 w (hp.blkOf ?q1)) a.n) ?_); (case q1 => (repeat (first | exact .head _ | apply List.Mem.tail)))); rintro ⟨A1, c1⟩)))
            | ((with_reducible refine g_call 28 ?_); (first | refine Ef_callP rfl rfl ent_28 (fun w _ => nil_add _ w (nil_0 w) rfl a.e) ?_ | ((refine' Ef_callP rfl rfl ent_28 (fun w hp => nil_add _ w (nil_1 b3 w (hp.blkOf ?q1)) rfl a.e) ?_); (case q1 => (repeat (first | exact .head _ | apply List.Mem.tail))))))
            | ((with_reducible refine g_call 29 ?_); (first | refine Ef_callP rfl rfl ent_29 (fun w _ => nil_mark _ w (nil_0 w)) ?_ | ((refine' Ef_callP rfl rfl ent_29 (fun w hp => nil_mark _ w (nil_1 b3 w (hp.blkOf ?q1))) ?_); (case q1 => (repeat (first | exact .head _ | apply List.Mem.tail))))))
            | ((with_reducible refine g_call 30 ?_); (first | refine Ef_callP rfl rfl ent_30 (fun w _ => nil_cut _ w (nil_0 w) a.n) ?_ | ((refine' Ef_callP rfl rfl ent_30 (fun w hp => nil_cut _ w (nil_1 b3 w (hp.blkOf ?q1)) a.n) ?_); (case q1 => (repeat (first | exact .head _ | apply List.Mem.tail))))))
            | ((with_reducible refine g_call 15 ?_); (first | refine Ef_callP rfl rfl ent_15 (fun w _ => nil_len _ w (nil_0 w)) ?_ | ((refine' Ef_callP rfl rfl ent_15 (fun w hp => nil_len _ w (nil_1 b3 w (hp.blkOf ?q1))) ?_); (case q1 => (repeat (first | exact .head _ | apply List.Mem.tail))))))
            | ((with_reducible refine g_call 16 ?_); (first | refine Ef_callP rfl rfl ent_16 (fun w _ => nil_synced _ w (nil_0 w)) ?_ | ((refine' Ef_callP rfl rfl ent_16 (fun w hp => nil_synced _ w (nil_1 b3 w (hp.blkOf ?q1))) ?_); (case q1 => (repeat (first | exact .head _ | apply List.Mem.tail))))))
            | ((with_reducible refine g_call 17 ?_); (first | refine Ef_callP rfl rfl ent_17 (fun w _ => nil_stamp _ w (nil_0 w)) ?_ | ((refine' Ef_callP rfl rfl ent_17 (fun w hp => nil_stamp _ w (nil_1 b3 w (hp.blkOf ?q1))) ?_); (case q1 => (repeat (first | exact .head _ | apply List.Mem.tail))))))
            | ((with_reducible refine g_call 19 ?_); (first | (refine Ef_callN (β := Unit) rfl rfl ent_19 (fun w _ => nil_from _ w (nil_0 w) a.n 5) ?_; rintro ⟨⟩) | (((refine' Ef_callN (β := Unit) rfl rfl ent_19 (fun w hp => nil_from _ w (nil_1 b3 w (hp.blkOf ?q1)) a.n 5) ?_); (case q1 => (repeat (first | exact .head _ | apply List.Mem.tail)))); rintro ⟨⟩)))
            | ((with_reducible refine g_call 24 ?_); (first | refine Ef_callP rfl rfl ent_24 (fun w _ => nil_has _ w (nil_0 w) _ _ _) ?_ | ((refine' Ef_callP rfl rfl ent_24 (fun w hp => nil_has _ w (nil_1 b3 w (hp.blkOf ?q1)) _ _ _) ?_); (case q1 => (repeat (first | exact .head _ | apply List.Mem.tail))))))))
            | (first | (((refine' Ef_bsl2 rfl rfl rfl rfl rfl ?q1 ?_); (case q1 => exact app_of rfl)); intro b4))
            | refine w1 ?_
            | (refine w2 ?_ ?_ <;> intro hc)
            | (refine w4 ?_; (first | ((fail_if_success have := b1); intro b1) | ((fail_if_success have := b2); intro b2) | ((fail_if_success have := b3); intro b3) | ((fail_if_success have := b4); intro b4) | intro _))
            | (refine w5 ?_; (first | ((fail_if_success have := A1); intro A1 c1) | intro _ _))
            | refine w3 ?_ ?_
            | fail_if_success skip)
        refine loopQ_n (i + 1) ?_ ?_ (show i + 1 ≤ 2 by omega) (show 2 - (i + 1) < 2 - i by omega)
        · (repeat (first | exact Sub.nil | refine Sub.cons rfl ?_))
        · (repeat (first | exact List.nil_sublist _ | refine List.Sublist.cons_cons _ ?_ | refine List.Sublist.cons _ ?_))
      · have eP : ([.pointer none, .pointer (some ⟨b3, 0, none⟩)] : List Value)[i * 1]? = some (.pointer (some ⟨b3, 0, none⟩)) := by rw [hcs]; rfl
        repeat' (first
            | ((with_reducible refine is_load ?_); (first | ((refine' ⟨_, Yl_loadA_at (vs := mE a.e) rfl ?qa ?qb ?ql ?qc, ?_⟩); (case qa => exact agg_of rfl); (case qb => (repeat (first | exact .head _ | apply List.Mem.tail))); (case qc => exact aE_at a); (case ql => rfl))))
            | ((with_reducible refine is_build ?_); (first | refine ⟨_, Yl_build rfl o_build50, ?_⟩))
            | ((with_reducible refine ie_store ?_); (first | ((refine' Ef_storeA' rfl rfl ?q1 (mE_one _) ?q2 ?q3 ?_); (case q1 => exact siz_of rfl); (case q2 => (first | exact at0 | exact at1 | exact at2 | exact at3 | exact at4 | exact at5 | exact at6)); (case q3 => rfl))))
            | ((with_reducible refine ie_callf ?_); (first
            | ((with_reducible refine g_call 10 ?_); (first | ((refine' Ef_callP rfl rfl ent_10 (fun w hp => hg1 w (some ⟨b2, 0, none⟩) 1 (hp.rowOf ?q1)) ?_); (case q1 => (repeat (first | exact .head _ | apply List.Mem.tail))))))
            | ((with_reducible refine g_call 21 ?_); (first | (refine Ef_callN rfl rfl ent_21 (fun w _ => nil_at _ w (nil_0 w) a.n) ?_; rintro ⟨A1, c1⟩) | (((refine' Ef_callN rfl rfl ent_21 (fun w hp => nil_at _ w (nil_1 b3 w (hp.blkOf ?q1)) a.n) ?_); (case q1 => (repeat (first | exact .head _ | apply List.Mem.tail)))); rintro ⟨A1, c1⟩)))
            | ((with_reducible refine g_call 28 ?_); (first | refine Ef_callP rfl rfl ent_28 (fun w _ => nil_add _ w (nil_0 w) rfl a.e) ?_ | ((refine' Ef_callP rfl rfl ent_28 (fun w hp => nil_add _ w (nil_1 b3 w (hp.blkOf ?q1)) rfl a.e) ?_); (case q1 => (repeat (first | exact .head _ | apply List.Mem.tail))))))
            | ((with_reducible refine g_call 29 ?_); (first | refine Ef_callP rfl rfl ent_29 (fun w _ => nil_mark _ w (nil_0 w)) ?_ | ((refine' Ef_callP rfl rfl ent_29 (fun w hp => nil_mark _ w (nil_1 b3 w (hp.blkOf ?q1))) ?_); (case q1 => (repeat (first | exact .head _ | apply List.Mem.tail))))))
            | ((with_reducible refine g_call 30 ?_); (first | refine Ef_callP rfl rfl ent_30 (fun w _ => nil_cut _ w (nil_0 w) a.n) ?_ | ((refine' Ef_callP rfl rfl ent_30 (fun w hp => nil_cut _ w (nil_1 b3 w (hp.blkOf ?q1)) a.n) ?_); (case q1 => (repeat (first | exact .head _ | apply List.Mem.tail))))))
            | ((with_reducible refine g_call 15 ?_); (first | refine Ef_callP rfl rfl ent_15 (fun w _ => nil_len _ w (nil_0 w)) ?_ | ((refine' Ef_callP rfl rfl ent_15 (fun w hp => nil_len _ w (nil_1 b3 w (hp.blkOf ?q1))) ?_); (case q1 => (repeat (first | exact .head _ | apply List.Mem.tail))))))
            | ((with_reducible refine g_call 16 ?_); (first | refine Ef_callP rfl rfl ent_16 (fun w _ => nil_synced _ w (nil_0 w)) ?_ | ((refine' Ef_callP rfl rfl ent_16 (fun w hp => nil_synced _ w (nil_1 b3 w (hp.blkOf ?q1))) ?_); (case q1 => (repeat (first | exact .head _ | apply List.Mem.tail))))))
            | ((with_reducible refine g_call 17 ?_); (first | refine Ef_callP rfl rfl ent_17 (fun w _ => nil_stamp _ w (nil_0 w)) ?_ | ((refine' Ef_callP rfl rfl ent_17 (fun w hp => nil_stamp _ w (nil_1 b3 w (hp.blkOf ?q1))) ?_); (case q1 => (repeat (first | exact .head _ | apply List.Mem.tail))))))
            | ((with_reducible refine g_call 19 ?_); (first | (refine Ef_callN (β := Unit) rfl rfl ent_19 (fun w _ => nil_from _ w (nil_0 w) a.n 5) ?_; rintro ⟨⟩) | (((refine' Ef_callN (β := Unit) rfl rfl ent_19 (fun w hp => nil_from _ w (nil_1 b3 w (hp.blkOf ?q1)) a.n 5) ?_); (case q1 => (repeat (first | exact .head _ | apply List.Mem.tail)))); rintro ⟨⟩)))
            | ((with_reducible refine g_call 24 ?_); (first | refine Ef_callP rfl rfl ent_24 (fun w _ => nil_has _ w (nil_0 w) _ _ _) ?_ | ((refine' Ef_callP rfl rfl ent_24 (fun w hp => nil_has _ w (nil_1 b3 w (hp.blkOf ?q1)) _ _ _) ?_); (case q1 => (repeat (first | exact .head _ | apply List.Mem.tail))))))))
            | (first | (((refine' Ef_bsl2 rfl rfl rfl rfl rfl ?q1 ?_); (case q1 => exact app_of rfl)); intro b4))
            | refine w1 ?_
            | (refine w2 ?_ ?_ <;> intro hc)
            | (refine w4 ?_; (first | ((fail_if_success have := b1); intro b1) | ((fail_if_success have := b2); intro b2) | ((fail_if_success have := b3); intro b3) | ((fail_if_success have := b4); intro b4) | intro _))
            | (refine w5 ?_; (first | ((fail_if_success have := A1); intro A1 c1) | intro _ _))
            | refine w3 ?_ ?_
            | fail_if_success skip)
        refine loopQ_n (i + 1) ?_ ?_ (show i + 1 ≤ 2 by omega) (show 2 - (i + 1) < 2 - i by omega)
        · (repeat (first | exact Sub.nil | refine Sub.cons rfl ?_))
        · (repeat (first | exact List.nil_sublist _ | refine List.Sublist.cons_cons _ ?_ | refine List.Sublist.cons _ ?_))
      · repeat' (first
          | ((with_reducible refine is_load ?_); (first | ((refine' ⟨_, Yl_loadA_at (vs := mE a.e) rfl ?qa ?qb ?ql ?qc, ?_⟩); (case qa => exact agg_of rfl); (case qb => (repeat (first | exact .head _ | apply List.Mem.tail))); (case qc => exact aE_at a); (case ql => rfl))))
          | ((with_reducible refine is_build ?_); (first | refine ⟨_, Yl_build rfl o_build50, ?_⟩))
          | ((with_reducible refine ie_store ?_); (first | ((refine' Ef_storeA' rfl rfl ?q1 (mE_one _) ?q2 ?q3 ?_); (case q1 => exact siz_of rfl); (case q2 => (first | exact at0 | exact at1 | exact at2 | exact at3 | exact at4 | exact at5 | exact at6)); (case q3 => rfl))))
          | ((with_reducible refine ie_callf ?_); (first
          | ((with_reducible refine g_call 10 ?_); (first | ((refine' Ef_callP rfl rfl ent_10 (fun w hp => hg1 w (some ⟨b2, 0, none⟩) 1 (hp.rowOf ?q1)) ?_); (case q1 => (repeat (first | exact .head _ | apply List.Mem.tail))))))
          | ((with_reducible refine g_call 21 ?_); (first | (refine Ef_callN rfl rfl ent_21 (fun w _ => nil_at _ w (nil_0 w) a.n) ?_; rintro ⟨A1, c1⟩) | (((refine' Ef_callN rfl rfl ent_21 (fun w hp => nil_at _ w (nil_1 b3 w (hp.blkOf ?q1)) a.n) ?_); (case q1 => (repeat (first | exact .head _ | apply List.Mem.tail)))); rintro ⟨A1, c1⟩)))
          | ((with_reducible refine g_call 28 ?_); (first | refine Ef_callP rfl rfl ent_28 (fun w _ => nil_add _ w (nil_0 w) rfl a.e) ?_ | ((refine' Ef_callP rfl rfl ent_28 (fun w hp => nil_add _ w (nil_1 b3 w (hp.blkOf ?q1)) rfl a.e) ?_); (case q1 => (repeat (first | exact .head _ | apply List.Mem.tail))))))
          | ((with_reducible refine g_call 29 ?_); (first | refine Ef_callP rfl rfl ent_29 (fun w _ => nil_mark _ w (nil_0 w)) ?_ | ((refine' Ef_callP rfl rfl ent_29 (fun w hp => nil_mark _ w (nil_1 b3 w (hp.blkOf ?q1))) ?_); (case q1 => (repeat (first | exact .head _ | apply List.Mem.tail))))))
          | ((with_reducible refine g_call 30 ?_); (first | refine Ef_callP rfl rfl ent_30 (fun w _ => nil_cut _ w (nil_0 w) a.n) ?_ | ((refine' Ef_callP rfl rfl ent_30 (fun w hp => nil_cut _ w (nil_1 b3 w (hp.blkOf ?q1)) a.n) ?_); (case q1 => (repeat (first | exact .head _ | apply List.Mem.tail))))))
          | ((with_reducible refine g_call 15 ?_); (first | refine Ef_callP rfl rfl ent_15 (fun w _ => nil_len _ w (nil_0 w)) ?_ | ((refine' Ef_callP rfl rfl ent_15 (fun w hp => nil_len _ w (nil_1 b3 w (hp.blkOf ?q1))) ?_); (case q1 => (repeat (first | exact .head _ | apply List.Mem.tail))))))
          | ((with_reducible refine g_call 16 ?_); (first | refine Ef_callP rfl rfl ent_16 (fun w _ => nil_synced _ w (nil_0 w)) ?_ | ((refine' Ef_callP rfl rfl ent_16 (fun w hp => nil_synced _ w (nil_1 b3 w (hp.blkOf ?q1))) ?_); (case q1 => (repeat (first | exact .head _ | apply List.Mem.tail))))))
          | ((with_reducible refine g_call 17 ?_); (first | refine Ef_callP rfl rfl ent_17 (fun w _ => nil_stamp _ w (nil_0 w)) ?_ | ((refine' Ef_callP rfl rfl ent_17 (fun w hp => nil_stamp _ w (nil_1 b3 w (hp.blkOf ?q1))) ?_); (case q1 => (repeat (first | exact .head _ | apply List.Mem.tail))))))
          | ((with_reducible refine g_call 19 ?_); (first | (refine Ef_callN (β := Unit) rfl rfl ent_19 (fun w _ => nil_from _ w (nil_0 w) a.n 5) ?_; rintro ⟨⟩) | (((refine' Ef_callN (β := Unit) rfl rfl ent_19 (fun w hp => nil_from _ w (nil_1 b3 w (hp.blkOf ?q1)) a.n 5) ?_); (case q1 => (repeat (first | exact .head _ | apply List.Mem.tail)))); rintro ⟨⟩)))
          | ((with_reducible refine g_call 24 ?_); (first | refine Ef_callP rfl rfl ent_24 (fun w _ => nil_has _ w (nil_0 w) _ _ _) ?_ | ((refine' Ef_callP rfl rfl ent_24 (fun w hp => nil_has _ w (nil_1 b3 w (hp.blkOf ?q1)) _ _ _) ?_); (case q1 => (repeat (first | exact .head _ | apply List.Mem.tail))))))))
          | (first | (((refine' Ef_bsl2 rfl rfl rfl rfl rfl ?q1 ?_); (case q1 => exact app_of rfl)); intro b4))
          | refine w1 ?_
          | (refine w2 ?_ ?_ <;> intro hc)
          | (refine w4 ?_; (first | ((fail_if_success have := b1); intro b1) | ((fail_if_success have := b2); intro b2) | ((fail_if_success have := b3); intro b3) | ((fail_if_success have := b4); intro b4) | intro _))
          | (refine w5 ?_; (first | ((fail_if_success have := A1); intro A1 c1) | intro _ _))
          | refine w3 ?_ ?_
          | fail_if_success skip)
        exact ret_n [] (res1 rfl rfl) (List.nil_sublist _) ⟨rfl, rfl⟩
  · rw [h1] at hg1
    refine Sp.enter (n := 88) Try.func7 rfl rfl rfl (Hp.refl w) ?_
    repeat' (first
        | ((with_reducible refine is_load ?_); (first | ((refine' ⟨_, Yl_loadA_at (vs := mE a.e) rfl ?qa ?qb ?ql ?qc, ?_⟩); (case qa => exact agg_of rfl); (case qb => (repeat (first | exact .head _ | apply List.Mem.tail))); (case qc => exact aE_at a); (case ql => rfl))))
        | ((with_reducible refine is_build ?_); (first | refine ⟨_, Yl_build rfl o_build50, ?_⟩))
        | ((with_reducible refine ie_store ?_); (first | ((refine' Ef_storeA' rfl rfl ?q1 (mE_one _) ?q2 ?q3 ?_); (case q1 => exact siz_of rfl); (case q2 => (first | exact at0 | exact at1 | exact at2 | exact at3 | exact at4 | exact at5 | exact at6)); (case q3 => rfl))))
        | ((with_reducible refine ie_callf ?_); (first
        | ((with_reducible refine g_call 10 ?_); (first | ((refine' Ef_callP rfl rfl ent_10 (fun w hp => hg1 w (some ⟨b2, 0, none⟩) 1 (hp.rowOf ?q1)) ?_); (case q1 => (repeat (first | exact .head _ | apply List.Mem.tail))))))
        | ((with_reducible refine g_call 21 ?_); (first | (refine Ef_callN rfl rfl ent_21 (fun w _ => nil_at _ w (nil_0 w) a.n) ?_; rintro ⟨A1, c1⟩) | (((refine' Ef_callN rfl rfl ent_21 (fun w hp => nil_at _ w (nil_1 b3 w (hp.blkOf ?q1)) a.n) ?_); (case q1 => (repeat (first | exact .head _ | apply List.Mem.tail)))); rintro ⟨A1, c1⟩)))
        | ((with_reducible refine g_call 28 ?_); (first | refine Ef_callP rfl rfl ent_28 (fun w _ => nil_add _ w (nil_0 w) rfl a.e) ?_ | ((refine' Ef_callP rfl rfl ent_28 (fun w hp => nil_add _ w (nil_1 b3 w (hp.blkOf ?q1)) rfl a.e) ?_); (case q1 => (repeat (first | exact .head _ | apply List.Mem.tail))))))
        | ((with_reducible refine g_call 29 ?_); (first | refine Ef_callP rfl rfl ent_29 (fun w _ => nil_mark _ w (nil_0 w)) ?_ | ((refine' Ef_callP rfl rfl ent_29 (fun w hp => nil_mark _ w (nil_1 b3 w (hp.blkOf ?q1))) ?_); (case q1 => (repeat (first | exact .head _ | apply List.Mem.tail))))))
        | ((with_reducible refine g_call 30 ?_); (first | refine Ef_callP rfl rfl ent_30 (fun w _ => nil_cut _ w (nil_0 w) a.n) ?_ | ((refine' Ef_callP rfl rfl ent_30 (fun w hp => nil_cut _ w (nil_1 b3 w (hp.blkOf ?q1)) a.n) ?_); (case q1 => (repeat (first | exact .head _ | apply List.Mem.tail))))))
        | ((with_reducible refine g_call 15 ?_); (first | refine Ef_callP rfl rfl ent_15 (fun w _ => nil_len _ w (nil_0 w)) ?_ | ((refine' Ef_callP rfl rfl ent_15 (fun w hp => nil_len _ w (nil_1 b3 w (hp.blkOf ?q1))) ?_); (case q1 => (repeat (first | exact .head _ | apply List.Mem.tail))))))
        | ((with_reducible refine g_call 16 ?_); (first | refine Ef_callP rfl rfl ent_16 (fun w _ => nil_synced _ w (nil_0 w)) ?_ | ((refine' Ef_callP rfl rfl ent_16 (fun w hp => nil_synced _ w (nil_1 b3 w (hp.blkOf ?q1))) ?_); (case q1 => (repeat (first | exact .head _ | apply List.Mem.tail))))))
        | ((with_reducible refine g_call 17 ?_); (first | refine Ef_callP rfl rfl ent_17 (fun w _ => nil_stamp _ w (nil_0 w)) ?_ | ((refine' Ef_callP rfl rfl ent_17 (fun w hp => nil_stamp _ w (nil_1 b3 w (hp.blkOf ?q1))) ?_); (case q1 => (repeat (first | exact .head _ | apply List.Mem.tail))))))
        | ((with_reducible refine g_call 19 ?_); (first | (refine Ef_callN (β := Unit) rfl rfl ent_19 (fun w _ => nil_from _ w (nil_0 w) a.n 5) ?_; rintro ⟨⟩) | (((refine' Ef_callN (β := Unit) rfl rfl ent_19 (fun w hp => nil_from _ w (nil_1 b3 w (hp.blkOf ?q1)) a.n 5) ?_); (case q1 => (repeat (first | exact .head _ | apply List.Mem.tail)))); rintro ⟨⟩)))
        | ((with_reducible refine g_call 24 ?_); (first | refine Ef_callP rfl rfl ent_24 (fun w _ => nil_has _ w (nil_0 w) _ _ _) ?_ | ((refine' Ef_callP rfl rfl ent_24 (fun w hp => nil_has _ w (nil_1 b3 w (hp.blkOf ?q1)) _ _ _) ?_); (case q1 => (repeat (first | exact .head _ | apply List.Mem.tail))))))))
        | (first | (((refine' Ef_bsl2 rfl rfl rfl rfl rfl ?q1 ?_); (case q1 => exact app_of rfl)); intro b4))
        | refine w1 ?_
        | (refine w2 ?_ ?_ <;> intro hc)
        | (refine w4 ?_; (first | ((fail_if_success have := b1); intro b1) | ((fail_if_success have := b2); intro b2) | ((fail_if_success have := b3); intro b3) | ((fail_if_success have := b4); intro b4) | intro _))
        | (refine w5 ?_; (first | ((fail_if_success have := A1); intro A1 c1) | intro _ _))
        | refine w3 ?_ ?_
        | fail_if_success skip)
    exact ret_n [] (res1 rfl rfl) (List.nil_sublist _) ⟨rfl, rfl⟩
end Go.Proofs.Ytegaejbfhpigjaa
