/- At: what a call comes to. -/
import Derived.Test.YtegaejbfhpigjaaT6
namespace Go.Proofs.Ytegaejbfhpigjaa
open Go.RowKit
set_option maxRecDepth 20000

theorem z_build27 (w : World) : (Instr.build 27 #[]).run Try.prog w = .ok (.agg (mE (Lg.zero, (none, 0))).toArray) w := by kernel_rfl

section
variable (pv : Value) (i : Int) (fr : List En) (w : World) (h1 : fr.length ≤ 1)
variable (hfr : ∀ {M : List Asrt} (w' : World), Hp w [] M w' → Sp Try.prog 19 [pv, .int .i64 i, .int .i64 1] w' [] fun v N => ∃ y : Hd × List Me, y.2.map (·.1) = fr ∧ v = .slice y.1.1 y.2.length y.1.2 ∧ N = [rM y.2 y.1, bag (y.2.map bA)])
include h1 hfr
set_option maxHeartbeats 2000000 in
theorem at_c : Sp Try.prog 21 [pv, .int .i64 i] w [] fun v N => ∃ z : Hd, v = .tuple #[.agg (mE (fr.head?.getD Lg.zero, z)).toArray, .bool fr.head?.isSome] ∧ N = [bA (fr.head?.getD Lg.zero, z)] := by
  have hcs : fr = [] ∨ ∃ e, fr = [e] := by
    match fr, h1 with
    | [], _ => exact .inl rfl
    | [e], _ => exact .inr ⟨e, rfl⟩
  rcases hcs with rfl | ⟨e, rfl⟩
  · dsimp only [List.head?_nil, Option.getD_none, Option.isSome_none]
    refine Sp.enter (n := 19) Try.func21 rfl rfl rfl (Hp.refl w) ?_
    refine T.row0 5 1 ?_
    repeat' (first
        | ((with_reducible refine is_load ?_); (first | ((refine' ⟨_, Yl_loadA_hp (vs := mE m) rfl ?qa ?qb ?ql ?qc, ?_⟩); (case qa => exact agg_of rfl); (case qb => ((refine' fun w hp => Rd.of_row (hp.own _ ?q1)); (case q1 => (repeat (first | exact .head _ | apply List.Mem.tail))))); (case qc => exact hm0); (case ql => rfl))))
        | ((with_reducible refine is_idx ?_); (first | ((refine' ⟨_, Yl_index_hp (j := 0) rfl rfl ?q1 ?q2 ?q3 (fun w hp => Rd.of_row (hp.own _ ?q4)), ?_⟩); (case q1 => exact und_of rfl); (case q2 => exact siz_of rfl); (case q3 => omega); (case q4 => (repeat (first | exact .head _ | apply List.Mem.tail))))))
        | ((with_reducible refine is_build ?_); (first | refine ⟨_, Yl_build rfl z_build27, ?_⟩))
        | ((with_reducible refine ie_store ?_); (first | ((refine' Ef_storeA' rfl rfl ?q1 (mE_one _) ?q2 ?q3 ?_); (case q1 => exact siz_of rfl); (case q2 => (first | exact at0 | exact at1 | exact at2 | exact at3 | exact at4 | exact at5 | exact at6)); (case q3 => rfl)) | ((refine' Ef_storeA' (V := (mE (Lg.zero, (none, 0))).toArray) rfl rfl ?q1 (mE_one _) ?q2 ?q3 ?_); (case q1 => exact siz_of rfl); (case q2 => (first | exact at0 | exact at1 | exact at2 | exact at3 | exact at4 | exact at5 | exact at6)); (case q3 => rfl))))
        | ((with_reducible refine ie_callf ?_); (first | ((with_reducible refine g_call 19 ?_); (first | (refine Ef_callNX rfl rfl ent_19 (fun w hp => hfr w hp) ?_; rintro ⟨⟨A1, c1⟩, ms⟩ hms)))))
        | refine w1 ?_
        | (refine w2 ?_ ?_ <;> intro hc)
        | (refine w4 ?_; (first | ((fail_if_success have := b1); intro b1) | intro _))
        | (refine w5 ?_; (first | ((fail_if_success have := A1); intro A1 c1) | intro _ _))
        | refine w3 ?_ ?_
        | fail_if_success skip)
    obtain rfl : ms = [] := List.map_eq_nil_iff.1 hms
    repeat' (first
        | ((with_reducible refine is_load ?_); (first | ((refine' ⟨_, Yl_loadA_hp (vs := mE m) rfl ?qa ?qb ?ql ?qc, ?_⟩); (case qa => exact agg_of rfl); (case qb => ((refine' fun w hp => Rd.of_row (hp.own _ ?q1)); (case q1 => (repeat (first | exact .head _ | apply List.Mem.tail))))); (case qc => exact hm0); (case ql => rfl))))
        | ((with_reducible refine is_idx ?_); (first | ((refine' ⟨_, Yl_index_hp (j := 0) rfl rfl ?q1 ?q2 ?q3 (fun w hp => Rd.of_row (hp.own _ ?q4)), ?_⟩); (case q1 => exact und_of rfl); (case q2 => exact siz_of rfl); (case q3 => omega); (case q4 => (repeat (first | exact .head _ | apply List.Mem.tail))))))
        | ((with_reducible refine is_build ?_); (first | refine ⟨_, Yl_build rfl z_build27, ?_⟩))
        | ((with_reducible refine ie_store ?_); (first | ((refine' Ef_storeA' rfl rfl ?q1 (mE_one _) ?q2 ?q3 ?_); (case q1 => exact siz_of rfl); (case q2 => (first | exact at0 | exact at1 | exact at2 | exact at3 | exact at4 | exact at5 | exact at6)); (case q3 => rfl)) | ((refine' Ef_storeA' (V := (mE (Lg.zero, (none, 0))).toArray) rfl rfl ?q1 (mE_one _) ?q2 ?q3 ?_); (case q1 => exact siz_of rfl); (case q2 => (first | exact at0 | exact at1 | exact at2 | exact at3 | exact at4 | exact at5 | exact at6)); (case q3 => rfl))))
        | ((with_reducible refine ie_callf ?_); (first | ((with_reducible refine g_call 19 ?_); (first | (refine Ef_callNX rfl rfl ent_19 (fun w hp => hfr w hp) ?_; rintro ⟨⟨A1, c1⟩, ms⟩ hms)))))
        | refine w1 ?_
        | (refine w2 ?_ ?_ <;> intro hc)
        | (refine w4 ?_; (first | ((fail_if_success have := b1); intro b1) | intro _))
        | (refine w5 ?_; (first | ((fail_if_success have := A1); intro A1 c1) | intro _ _))
        | refine w3 ?_ ?_
        | fail_if_success skip)
    refine T.loop (α := Unit) (fun _ => [(4, .pointer (some ⟨b1, 0, none⟩)), (10, .slice A1 0 c1), (11, .int .i64 ((0 : Nat) : Int)), (12, .int .i64 0)]) (fun _ => [rM [] (A1, c1), bag [], .blk b1 (.cells (mE (Lg.zero, (none, 0))).toArray 27 (0, 0)), .row 5 1 (.slice none 0 0) 0 []]) (fun _ => True) (fun _ => 0) () ?_ ?_ trivial ?_
    · (repeat (first | exact Sub.nil | refine Sub.cons rfl ?_))
    · (repeat (first | exact List.nil_sublist _ | refine List.Sublist.cons_cons _ ?_ | refine List.Sublist.cons _ ?_))
    · rintro ⟨⟩ -
      repeat' (first
          | ((with_reducible refine is_load ?_); (first | ((refine' ⟨_, Yl_loadA_hp (vs := mE m) rfl ?qa ?qb ?ql ?qc, ?_⟩); (case qa => exact agg_of rfl); (case qb => ((refine' fun w hp => Rd.of_row (hp.own _ ?q1)); (case q1 => (repeat (first | exact .head _ | apply List.Mem.tail))))); (case qc => exact hm0); (case ql => rfl))))
          | ((with_reducible refine is_idx ?_); (first | ((refine' ⟨_, Yl_index_hp (j := 0) rfl rfl ?q1 ?q2 ?q3 (fun w hp => Rd.of_row (hp.own _ ?q4)), ?_⟩); (case q1 => exact und_of rfl); (case q2 => exact siz_of rfl); (case q3 => omega); (case q4 => (repeat (first | exact .head _ | apply List.Mem.tail))))))
          | ((with_reducible refine is_build ?_); (first | refine ⟨_, Yl_build rfl z_build27, ?_⟩))
          | ((with_reducible refine ie_store ?_); (first | ((refine' Ef_storeA' rfl rfl ?q1 (mE_one _) ?q2 ?q3 ?_); (case q1 => exact siz_of rfl); (case q2 => (first | exact at0 | exact at1 | exact at2 | exact at3 | exact at4 | exact at5 | exact at6)); (case q3 => rfl)) | ((refine' Ef_storeA' (V := (mE (Lg.zero, (none, 0))).toArray) rfl rfl ?q1 (mE_one _) ?q2 ?q3 ?_); (case q1 => exact siz_of rfl); (case q2 => (first | exact at0 | exact at1 | exact at2 | exact at3 | exact at4 | exact at5 | exact at6)); (case q3 => rfl))))
          | ((with_reducible refine ie_callf ?_); (first | ((with_reducible refine g_call 19 ?_); (first | (refine Ef_callNX rfl rfl ent_19 (fun w hp => hfr w hp) ?_; rintro ⟨⟨A1, c1⟩, ms⟩ hms)))))
          | refine w1 ?_
          | (refine w2 ?_ ?_ <;> intro hc)
          | (refine w4 ?_; (first | ((fail_if_success have := b1); intro b1) | intro _))
          | (refine w5 ?_; (first | ((fail_if_success have := A1); intro A1 c1) | intro _ _))
          | refine w3 ?_ ?_
          | fail_if_success skip)
      exact ret_n [bA (Lg.zero, (none, 0))] (resC1 rfl rfl rfl (by (repeat (first | exact .head _ | apply List.Mem.tail))) (agg_of rfl)) (by unfold bA; (repeat (first | exact List.nil_sublist _ | refine List.Sublist.cons_cons _ ?_ | refine List.Sublist.cons _ ?_))) ⟨(none, 0), rfl, rfl⟩
  · dsimp only [List.head?_cons, Option.getD_some, Option.isSome_some]
    refine Sp.mem (Res := fun v N => ∃ z : Hd, v = .tuple #[.agg (mE (e, z)).toArray, .bool true] ∧ N = [bag [bA (e, z)]]) ?_ (fun v N ⟨z, h1, h2⟩ => ⟨[bA (e, z)], fun w' hp => by subst h2; exact hp.bagOut, z, h1, rfl⟩)
    refine Sp.enter (n := 19) Try.func21 rfl rfl rfl (Hp.refl w) ?_
    repeat' (first
        | ((with_reducible refine is_load ?_); (first | ((refine' ⟨_, Yl_loadA_hp (vs := mE m) rfl ?qa ?qb ?ql ?qc, ?_⟩); (case qa => exact agg_of rfl); (case qb => ((refine' fun w hp => Rd.of_row (hp.own _ ?q1)); (case q1 => (repeat (first | exact .head _ | apply List.Mem.tail))))); (case qc => exact hm0); (case ql => rfl))))
        | ((with_reducible refine is_idx ?_); (first | ((refine' ⟨_, Yl_index_hp (j := 0) rfl rfl ?q1 ?q2 ?q3 (fun w hp => Rd.of_row (hp.own _ ?q4)), ?_⟩); (case q1 => exact und_of rfl); (case q2 => exact siz_of rfl); (case q3 => omega); (case q4 => (repeat (first | exact .head _ | apply List.Mem.tail))))))
        | ((with_reducible refine is_build ?_); (first | refine ⟨_, Yl_build rfl z_build27, ?_⟩))
        | ((with_reducible refine ie_store ?_); (first | ((refine' Ef_storeA' rfl rfl ?q1 (mE_one _) ?q2 ?q3 ?_); (case q1 => exact siz_of rfl); (case q2 => (first | exact at0 | exact at1 | exact at2 | exact at3 | exact at4 | exact at5 | exact at6)); (case q3 => rfl)) | ((refine' Ef_storeA' (V := (mE (Lg.zero, (none, 0))).toArray) rfl rfl ?q1 (mE_one _) ?q2 ?q3 ?_); (case q1 => exact siz_of rfl); (case q2 => (first | exact at0 | exact at1 | exact at2 | exact at3 | exact at4 | exact at5 | exact at6)); (case q3 => rfl))))
        | ((with_reducible refine ie_callf ?_); (first | ((with_reducible refine g_call 19 ?_); (first | (refine Ef_callNX rfl rfl ent_19 (fun w hp => hfr w hp) ?_; rintro ⟨⟨A1, c1⟩, ms⟩ hms)))))
        | refine w1 ?_
        | (refine w2 ?_ ?_ <;> intro hc)
        | (refine w4 ?_; (first | ((fail_if_success have := b1); intro b1) | intro _))
        | (refine w5 ?_; (first | ((fail_if_success have := A1); intro A1 c1) | intro _ _))
        | refine w3 ?_ ?_
        | fail_if_success skip)
    match ms, hms with
    | [m], hms =>
    obtain rfl : m.1 = e := by simpa using hms
    have hm0 : ∀ i u, (mE m)[i]? = some u → ([m].flatMap mE)[0 * 5 + i]? = some u := enc_atA mE_len (l := [m]) (i := 0) rfl
    repeat' (first
        | ((with_reducible refine is_load ?_); (first | ((refine' ⟨_, Yl_loadA_hp (vs := mE m) rfl ?qa ?qb ?ql ?qc, ?_⟩); (case qa => exact agg_of rfl); (case qb => ((refine' fun w hp => Rd.of_row (hp.own _ ?q1)); (case q1 => (repeat (first | exact .head _ | apply List.Mem.tail))))); (case qc => exact hm0); (case ql => rfl))))
        | ((with_reducible refine is_idx ?_); (first | ((refine' ⟨_, Yl_index_hp (j := 0) rfl rfl ?q1 ?q2 ?q3 (fun w hp => Rd.of_row (hp.own _ ?q4)), ?_⟩); (case q1 => exact und_of rfl); (case q2 => exact siz_of rfl); (case q3 => omega); (case q4 => (repeat (first | exact .head _ | apply List.Mem.tail))))))
        | ((with_reducible refine is_build ?_); (first | refine ⟨_, Yl_build rfl z_build27, ?_⟩))
        | ((with_reducible refine ie_store ?_); (first | ((refine' Ef_storeA' rfl rfl ?q1 (mE_one _) ?q2 ?q3 ?_); (case q1 => exact siz_of rfl); (case q2 => (first | exact at0 | exact at1 | exact at2 | exact at3 | exact at4 | exact at5 | exact at6)); (case q3 => rfl)) | ((refine' Ef_storeA' (V := (mE (Lg.zero, (none, 0))).toArray) rfl rfl ?q1 (mE_one _) ?q2 ?q3 ?_); (case q1 => exact siz_of rfl); (case q2 => (first | exact at0 | exact at1 | exact at2 | exact at3 | exact at4 | exact at5 | exact at6)); (case q3 => rfl))))
        | ((with_reducible refine ie_callf ?_); (first | ((with_reducible refine g_call 19 ?_); (first | (refine Ef_callNX rfl rfl ent_19 (fun w hp => hfr w hp) ?_; rintro ⟨⟨A1, c1⟩, ms⟩ hms)))))
        | refine w1 ?_
        | (refine w2 ?_ ?_ <;> intro hc)
        | (refine w4 ?_; (first | ((fail_if_success have := b1); intro b1) | intro _))
        | (refine w5 ?_; (first | ((fail_if_success have := A1); intro A1 c1) | intro _ _))
        | refine w3 ?_ ?_
        | fail_if_success skip)
    refine T.loop (α := Unit) (fun _ => [(4, .pointer (some ⟨b1, 0, none⟩)), (10, .slice A1 1 c1), (11, .int .i64 ((1 : Nat) : Int)), (12, .int .i64 0)]) (fun _ => [rM [m] (A1, c1), bag [bA m], .blk b1 (.cells (mE (Lg.zero, (none, 0))).toArray 27 (0, 0))]) (fun _ => True) (fun _ => 0) () ?_ ?_ trivial ?_
    · (repeat (first | exact Sub.nil | refine Sub.cons rfl ?_))
    · (repeat (first | exact List.nil_sublist _ | refine List.Sublist.cons_cons _ ?_ | refine List.Sublist.cons _ ?_))
    · rintro ⟨⟩ -
      repeat' (first
          | ((with_reducible refine is_load ?_); (first | ((refine' ⟨_, Yl_loadA_hp (vs := mE m) rfl ?qa ?qb ?ql ?qc, ?_⟩); (case qa => exact agg_of rfl); (case qb => ((refine' fun w hp => Rd.of_row (hp.own _ ?q1)); (case q1 => (repeat (first | exact .head _ | apply List.Mem.tail))))); (case qc => exact hm0); (case ql => rfl))))
          | ((with_reducible refine is_idx ?_); (first | ((refine' ⟨_, Yl_index_hp (j := 0) rfl rfl ?q1 ?q2 ?q3 (fun w hp => Rd.of_row (hp.own _ ?q4)), ?_⟩); (case q1 => exact und_of rfl); (case q2 => exact siz_of rfl); (case q3 => omega); (case q4 => (repeat (first | exact .head _ | apply List.Mem.tail))))))
          | ((with_reducible refine is_build ?_); (first | refine ⟨_, Yl_build rfl z_build27, ?_⟩))
          | ((with_reducible refine ie_store ?_); (first | ((refine' Ef_storeA' rfl rfl ?q1 (mE_one _) ?q2 ?q3 ?_); (case q1 => exact siz_of rfl); (case q2 => (first | exact at0 | exact at1 | exact at2 | exact at3 | exact at4 | exact at5 | exact at6)); (case q3 => rfl)) | ((refine' Ef_storeA' (V := (mE (Lg.zero, (none, 0))).toArray) rfl rfl ?q1 (mE_one _) ?q2 ?q3 ?_); (case q1 => exact siz_of rfl); (case q2 => (first | exact at0 | exact at1 | exact at2 | exact at3 | exact at4 | exact at5 | exact at6)); (case q3 => rfl))))
          | ((with_reducible refine ie_callf ?_); (first | ((with_reducible refine g_call 19 ?_); (first | (refine Ef_callNX rfl rfl ent_19 (fun w hp => hfr w hp) ?_; rintro ⟨⟨A1, c1⟩, ms⟩ hms)))))
          | refine w1 ?_
          | (refine w2 ?_ ?_ <;> intro hc)
          | (refine w4 ?_; (first | ((fail_if_success have := b1); intro b1) | intro _))
          | (refine w5 ?_; (first | ((fail_if_success have := A1); intro A1 c1) | intro _ _))
          | refine w3 ?_ ?_
          | fail_if_success skip)
      exact ret_n [bag [bA m]] (resC1 rfl rfl rfl (by (repeat (first | exact .head _ | apply List.Mem.tail))) (agg_of rfl)) (by (repeat (first | exact List.nil_sublist _ | refine List.Sublist.cons_cons _ ?_ | refine List.Sublist.cons _ ?_))) ⟨m.2, rfl, rfl⟩
end
end Go.Proofs.Ytegaejbfhpigjaa
