/- Round, Take, Drop, Double, All: what a call of each comes to. -/
import Derived.Test.YtdbpnolpgkcjiaaT2
namespace Go.Proofs.Ytdbpnolpgkcjiaa
open Go.RowKit Go.Conc

/-! ### Remainders -/
theorem Yl_rem_t {P : Program} {n : Nat} {w0 : World} {R : List Nat} {L : List (Nat × Value)} {M : List Asrt} {t ty yt : TypeId} {x y : Operand} {i : Int} {m : Nat} (hx : evl L x = some (.int .i64 i)) (hy : evl L y = some (.int .i64 (m : Int))) (hm : 0 < m) :
    Yl P n w0 R (.binOp .rem t x y yt) ty L M (.int .i64 (i.tmod m)) := Yl_bin_int hx hy fun w => by
  rw [run_binInt (by decide)]
  have hm' : m ≠ 0 := by omega
  simp [arithI, Op.intDiv, hm']
/-- The place of a number among n. -/
def plc (k : Int) (n : Nat) : Nat := (k % (n : Int)).toNat
theorem plc_lt {k : Int} {n : Nat} (h : 0 < n) : plc k n < n := by
  unfold plc
  have h1 := Int.emod_nonneg k (show (n : Int) ≠ 0 by omega)
  have h2 := Int.emod_lt_of_pos k (show (0 : Int) < (n : Int) by omega)
  omega
theorem plc_cast {k : Int} {n : Nat} (h : 0 < n) : (plc k n : Int) = k % (n : Int) := by
  unfold plc
  have h1 := Int.emod_nonneg k (show (n : Int) ≠ 0 by omega)
  omega
theorem tmod_plc (k : Int) {n : Nat} (h : 0 < n) : (k.tmod (n : Int) + (n : Int)) % (n : Int) = (plc k n : Int) := by
  rw [plc_cast h, Int.add_emod_right, Int.tmod_eq_emod]
  split
  · simp
  · simp
theorem tmod_rng (k : Int) {n : Nat} (h : 0 < n) : -(n : Int) < k.tmod (n : Int) ∧ k.tmod (n : Int) < (n : Int) := ⟨Int.lt_tmod_of_pos k (by omega), Int.tmod_lt_of_pos k (by omega)⟩

/-! ### What a round keeps -/
def kept (l : List Pk) (p : Nat) (stay : Bool) (i : Nat) : List Pk := if stay then l.take i else (l.take i).eraseIdx p
theorem kept_len (l : List Pk) (p : Nat) (stay : Bool) (i : Nat) : (kept l p stay i).length ≤ i := by
  unfold kept
  split
  · rw [List.length_take]; exact Nat.min_le_left _ _
  · exact Nat.le_trans (List.length_eraseIdx_le _ _) (by rw [List.length_take]; exact Nat.min_le_left _ _)
theorem kept_other {l : List Pk} {p i : Nat} {stay : Bool} {x : Pk} (hx : l[i]? = some x) (h : i ≠ p) : kept l p stay (i + 1) = kept l p stay i ++ [x] := by
  have hi := (List.getElem?_eq_some_iff.1 hx).1
  unfold kept
  split
  · exact take_snoc hx
  · rw [take_snoc hx]
    rcases Nat.lt_or_ge i p with hp | hp
    · rw [List.eraseIdx_of_length_le (by rw [List.length_append, List.length_take]; simp only [List.length_cons, List.length_nil]; omega), List.eraseIdx_of_length_le (by rw [List.length_take]; omega)]
    · rw [List.eraseIdx_append_of_lt_length (by rw [List.length_take]; omega)]
theorem kept_this {l : List Pk} {p : Nat} {stay : Bool} {x : Pk} (hx : l[p]? = some x) : kept l p stay (p + 1) = if stay then kept l p stay p ++ [x] else kept l p stay p := by
  have hi := (List.getElem?_eq_some_iff.1 hx).1
  unfold kept
  cases stay
  · simp only [Bool.false_eq_true, if_false]
    rw [take_snoc hx, List.eraseIdx_append_of_length_le (by rw [List.length_take]; omega), List.length_take, Nat.min_eq_left (by omega), Nat.sub_self]
    show l.take p ++ [] = _
    rw [List.append_nil, List.eraseIdx_of_length_le (by rw [List.length_take]; omega)]
  · simp only [if_true]
    exact take_snoc hx
theorem drop_at {l : List Pk} {i : Nat} {x : Pk} (h : l[i]? = some x) : l.drop i = x :: l.drop (i + 1) := by
  obtain ⟨hi, rfl⟩ := List.getElem?_eq_some_iff.1 h
  exact List.drop_eq_getElem_cons hi

/-! ### What is done with the packet -/
theorem clo25_c (t : Nat) (w : World) (R : List Nat) (x : Pk) (v1 : Value) (hp : Hp w R [.blk t (.cells #[v1] 38 (0, 0))] w) : Sp Try.prog 25 ([pV x] ++ (#[.pointer (some ⟨t, 0, none⟩)] : Array Value).toList) w R fun v N => v = .bool true ∧ N = [.blk t (.cells #[pV x] 38 (0, 0))] := by
  refine Sp.enter (n := 5) Try.func25 rfl rfl rfl hp ?_
  repeat' (first | (first | ((((refine' Ef_appG_row (xs := ns.flatMap pE) (news := [pV (x.1, (A1, c1))]) rfl rfl rfl ?q1 ?q2 ?q3 (pE_one (x.1, (A1, c1))) ?q4 ?q5 ?_); (case q1 => exact app_of rfl); (case q2 => (first | exact at0 | exact at1 | exact at2 | exact at3 | exact at4 | exact at5 | exact at6)); (case q3 => (repeat (first | exact .head _ | apply List.Mem.tail))); (case q4 => omega); (case q5 => omega))); (first | ((fail_if_success have := A1); intro A1 c1) | intro _ _)))  | refine w1 ?_ | (refine w2 ?_ ?_ <;> intro hc) | (first | ((refine' ⟨_, Yl_remE (r := (p : Int)) rfl rfl ?q1 ?q2 hpl, ?_⟩); (case q1 => omega); (case q2 => omega)) | ((refine' ⟨_, Yl_rem_t rfl rfl ?q1, ?_⟩); (case q1 => omega))) | (refine w4 ?_; (intro _)) | (refine w5 ?_; (first | ((fail_if_success have := A1); intro A1 c1) | intro _ _)) | refine w3 ?_ ?_ | fail_if_success skip)
  exact ret_n [.blk t (.cells #[pV x] 38 (0, 0))] (res1 rfl rfl) (by (repeat (first | exact List.nil_sublist _ | refine List.Sublist.cons_cons _ ?_ | refine List.Sublist.cons _ ?_))) ⟨rfl, rfl⟩
theorem clo26_c (t : Nat) (w : World) (R : List Nat) (x : Pk) (v1 : Value) (hp : Hp w R [.blk t (.cells #[v1] 38 (0, 0))] w) : Sp Try.prog 26 ([pV x] ++ (#[.pointer (some ⟨t, 0, none⟩)] : Array Value).toList) w R fun v N => v = .bool false ∧ N = [.blk t (.cells #[pV x] 38 (0, 0))] := by
  refine Sp.enter (n := 5) Try.func26 rfl rfl rfl hp ?_
  repeat' (first | (first | ((((refine' Ef_appG_row (xs := ns.flatMap pE) (news := [pV (x.1, (A1, c1))]) rfl rfl rfl ?q1 ?q2 ?q3 (pE_one (x.1, (A1, c1))) ?q4 ?q5 ?_); (case q1 => exact app_of rfl); (case q2 => (first | exact at0 | exact at1 | exact at2 | exact at3 | exact at4 | exact at5 | exact at6)); (case q3 => (repeat (first | exact .head _ | apply List.Mem.tail))); (case q4 => omega); (case q5 => omega))); (first | ((fail_if_success have := A1); intro A1 c1) | intro _ _)))  | refine w1 ?_ | (refine w2 ?_ ?_ <;> intro hc) | (first | ((refine' ⟨_, Yl_remE (r := (p : Int)) rfl rfl ?q1 ?q2 hpl, ?_⟩); (case q1 => omega); (case q2 => omega)) | ((refine' ⟨_, Yl_rem_t rfl rfl ?q1, ?_⟩); (case q1 => omega))) | (refine w4 ?_; (intro _)) | (refine w5 ?_; (first | ((fail_if_success have := A1); intro A1 c1) | intro _ _)) | refine w3 ?_ ?_ | fail_if_success skip)
  exact ret_n [.blk t (.cells #[pV x] 38 (0, 0))] (res1 rfl rfl) (by (repeat (first | exact List.nil_sublist _ | refine List.Sublist.cons_cons _ ?_ | refine List.Sublist.cons _ ?_))) ⟨rfl, rfl⟩

section
variable (b c t : Nat) (fid : FuncId) (stay : Bool) (hen : Enters Try.prog fid)
variable (hclo : ∀ (w : World) (R : List Nat) (x : Pk) (v1 : Value), Hp w R [.blk t (.cells #[v1] 38 (0, 0))] w → Sp Try.prog fid ([pV x] ++ (#[.pointer (some ⟨t, 0, none⟩)] : Array Value).toList) w R fun v N => v = .bool stay ∧ N = [.blk t (.cells #[pV x] 38 (0, 0))])
include hen hclo
set_option maxHeartbeats 8000000 in
theorem round_c (k : Int) (l : List Pk) (v1 : Value) (w : World) (R : List Nat) (hp : Hp w R [nO b c, chA c l, .blk t (.cells #[v1] 38 (0, 0))] w) (hll : l.length ≤ 4096) (x0 : Pk) (h0 : l[plc k l.length]? = some x0) :
    Sp Try.prog 24 [.pointer (some ⟨b, 0, none⟩), .int .i64 k, .func (.func fid) #[] #[.pointer (some ⟨t, 0, none⟩)]] w R fun v N => v = .int .i64 0 ∧ N = [nO b c, chA c (kept l (plc k l.length) stay l.length), .blk t (.cells #[pV x0] 38 (0, 0))] := by
  have hl0 : 0 < l.length := by have := (List.getElem?_eq_some_iff.1 h0).1; omega
  have hpl := tmod_plc k hl0
  have htr := tmod_rng k hl0
  obtain ⟨p, hp0⟩ : ∃ p, plc k l.length = p := ⟨_, rfl⟩
  have hplt := plc_lt (k := k) hl0
  rw [hp0] at hpl h0 hplt ⊢
  refine Sp.enter (n := 47) Try.func24 rfl rfl rfl hp ?_
  repeat' (first
      | ((with_reducible refine ie_callf ?_); (first
      | ((with_reducible refine g_call 12 ?_); (first | refine Ef_callT [true, true] rfl rfl ent_12 rfl rfl rfl (fun w hp => len_c b c w _ l hp) ?_ | refine Ef_callT [false, true, true] rfl rfl ent_12 rfl rfl rfl (fun w hp => len_c b c w _ l hp) ?_ | refine Ef_callT [false, false, true, true] rfl rfl ent_12 rfl rfl rfl (fun w hp => len_c b c w _ l hp) ?_))
      | ((with_reducible refine g_call 21 ?_); (first | ((refine' Ef_callP rfl rfl ent_21 (fun w hp => none1_v b c w (hp.blkOf ?q1)) ?_); (case q1 => (repeat (first | exact .head _ | apply List.Mem.tail))))))
      | ((with_reducible refine g_call 27 ?_); (first | refine Ef_callT [true, true] rfl rfl ent_27 rfl rfl rfl (fun w hp => get_c b c w _ x (l.drop (i + 1) ++ kp) hp) ?_ | refine Ef_callT [false, false, false, true, true] rfl rfl ent_27 rfl rfl rfl (fun w hp => get_c b c w _ x (l.drop (i + 1) ++ l.take i) hp) ?_))
      | ((with_reducible refine g_call 22 ?_); (first | refine Ef_callT [true, true] rfl rfl ent_22 rfl rfl rfl (fun w hp => put_c b c w _ (l.drop (i + 1) ++ kp) x hp hroom) ?_ | refine Ef_callT [false, true, true] rfl rfl ent_22 rfl rfl rfl (fun w hp => put_c b c w _ (l.drop (i + 1) ++ kp) x hp hroom) ?_ | refine Ef_callT [false, false, true, true] rfl rfl ent_22 rfl rfl rfl (fun w hp => put_c b c w _ (l.drop (i + 1) ++ l.take i) x hp hroom) ?_))))
      | ((with_reducible refine ie_callv ?_); (first | (refine Ef_callVS [false, false, true] rfl rfl rfl hen rfl rfl rfl (fun w _ hp => hclo w _ x v1 hp) ?_; rintro _ _ ⟨rfl, rfl⟩)))
      | (first | ((((refine' Ef_appG_row (xs := ns.flatMap pE) (news := [pV (x.1, (A1, c1))]) rfl rfl rfl ?q1 ?q2 ?q3 (pE_one (x.1, (A1, c1))) ?q4 ?q5 ?_); (case q1 => exact app_of rfl); (case q2 => (first | exact at0 | exact at1 | exact at2 | exact at3 | exact at4 | exact at5 | exact at6)); (case q3 => (repeat (first | exact .head _ | apply List.Mem.tail))); (case q4 => omega); (case q5 => omega))); (first | ((fail_if_success have := A1); intro A1 c1) | intro _ _)))
      | refine w1 ?_
      | (refine w2 ?_ ?_ <;> intro hc)
      | (first | ((refine' ⟨_, Yl_remE (r := (p : Int)) rfl rfl ?q1 ?q2 hpl, ?_⟩); (case q1 => omega); (case q2 => omega)) | ((refine' ⟨_, Yl_rem_t rfl rfl ?q1, ?_⟩); (case q1 => omega)))
      | (refine w4 ?_; (intro _))
      | (refine w5 ?_; (first | ((fail_if_success have := A1); intro A1 c1) | intro _ _))
      | refine w3 ?_ ?_
      | fail_if_success skip)
  refine T.loopM (α := Nat × Value) (fun z => [(0, .pointer (some ⟨b, 0, none⟩)), (1, .int .i64 (p : Int)), (2, .func (.func fid) #[] #[.pointer (some ⟨t, 0, none⟩)]), (26, .int .i64 (l.length : Int)), (27, .int .i64 (z.1 : Int))]) (fun z => [nO b c, chA c (l.drop z.1 ++ kept l p stay z.1), .blk t (.cells #[z.2] 38 (0, 0))])
    (fun z => z.1 ≤ l.length ∧ (p < z.1 → z.2 = pV x0)) (fun z => l.length - z.1) (0, v1) ?_ ?_ ?_ ?_
  · (repeat (first | exact Sub.nil | refine Sub.cons rfl ?_))
  · intro w' h
    dsimp only
    rw [show l.drop 0 ++ kept l p stay 0 = l by unfold kept; cases stay <;> simp]
    exact h
  · exact ⟨Nat.zero_le _, fun h => by cases h⟩
  · clear v1 hp
    rintro ⟨i, v1⟩ ⟨hi, hv⟩
    dsimp only at hi hv ⊢
    by_cases hlt : i < l.length
    · obtain ⟨x, hx⟩ := some_of_lt (l := l) (i := i) hlt
      have hkl := kept_len l p stay i
      have hko := fun h => kept_other (p := p) (stay := stay) hx h
      have hkt := fun h : i = p => kept_this (stay := stay) (h ▸ hx : l[p]? = some x)
      rw [drop_at hx, List.cons_append]
      have hroom : (l.drop (i + 1) ++ kept l p stay i).length < 4096 := by rw [List.length_append, List.length_drop]; omega
      generalize hkp : kept l p stay i = kp at hkl hko hroom ⊢
      by_cases hip : i = p
      · subst hip
        obtain rfl : x = x0 := Option.some.inj (hx.symm.trans h0)
        have hk2 := hkt rfl
        rw [hkp] at hk2
        cases stay
        · repeat' (first
            | ((with_reducible refine ie_callf ?_); (first
            | ((with_reducible refine g_call 12 ?_); (first | refine Ef_callT [true, true] rfl rfl ent_12 rfl rfl rfl (fun w hp => len_c b c w _ l hp) ?_ | refine Ef_callT [false, true, true] rfl rfl ent_12 rfl rfl rfl (fun w hp => len_c b c w _ l hp) ?_ | refine Ef_callT [false, false, true, true] rfl rfl ent_12 rfl rfl rfl (fun w hp => len_c b c w _ l hp) ?_))
            | ((with_reducible refine g_call 21 ?_); (first | ((refine' Ef_callP rfl rfl ent_21 (fun w hp => none1_v b c w (hp.blkOf ?q1)) ?_); (case q1 => (repeat (first | exact .head _ | apply List.Mem.tail))))))
            | ((with_reducible refine g_call 27 ?_); (first | refine Ef_callT [true, true] rfl rfl ent_27 rfl rfl rfl (fun w hp => get_c b c w _ x (l.drop (i + 1) ++ kp) hp) ?_ | refine Ef_callT [false, false, false, true, true] rfl rfl ent_27 rfl rfl rfl (fun w hp => get_c b c w _ x (l.drop (i + 1) ++ l.take i) hp) ?_))
            | ((with_reducible refine g_call 22 ?_); (first | refine Ef_callT [true, true] rfl rfl ent_22 rfl rfl rfl (fun w hp => put_c b c w _ (l.drop (i + 1) ++ kp) x hp hroom) ?_ | refine Ef_callT [false, true, true] rfl rfl ent_22 rfl rfl rfl (fun w hp => put_c b c w _ (l.drop (i + 1) ++ kp) x hp hroom) ?_ | refine Ef_callT [false, false, true, true] rfl rfl ent_22 rfl rfl rfl (fun w hp => put_c b c w _ (l.drop (i + 1) ++ l.take i) x hp hroom) ?_))))
            | ((with_reducible refine ie_callv ?_); (first | (refine Ef_callVS [false, false, true] rfl rfl rfl hen rfl rfl rfl (fun w _ hp => hclo w _ x v1 hp) ?_; rintro _ _ ⟨rfl, rfl⟩)))
            | (first | ((((refine' Ef_appG_row (xs := ns.flatMap pE) (news := [pV (x.1, (A1, c1))]) rfl rfl rfl ?q1 ?q2 ?q3 (pE_one (x.1, (A1, c1))) ?q4 ?q5 ?_); (case q1 => exact app_of rfl); (case q2 => (first | exact at0 | exact at1 | exact at2 | exact at3 | exact at4 | exact at5 | exact at6)); (case q3 => (repeat (first | exact .head _ | apply List.Mem.tail))); (case q4 => omega); (case q5 => omega))); (first | ((fail_if_success have := A1); intro A1 c1) | intro _ _)))
            | refine w1 ?_
            | (refine w2 ?_ ?_ <;> intro hc)
            | (first | ((refine' ⟨_, Yl_remE (r := (p : Int)) rfl rfl ?q1 ?q2 hpl, ?_⟩); (case q1 => omega); (case q2 => omega)) | ((refine' ⟨_, Yl_rem_t rfl rfl ?q1, ?_⟩); (case q1 => omega)))
            | (refine w4 ?_; (intro _))
            | (refine w5 ?_; (first | ((fail_if_success have := A1); intro A1 c1) | intro _ _))
            | refine w3 ?_ ?_
            | fail_if_success skip)
          refine loopH_n (i + 1, pV x) ?_ (fun w' h => ?_) ⟨show i + 1 ≤ _ by omega, fun _ => rfl⟩ (show l.length - (i + 1) < l.length - i by omega)
          · (repeat (first | exact Sub.nil | refine Sub.cons rfl ?_))
          · dsimp only
            rw [hk2]
            exact h.ofPart (by (repeat (first | exact Part.nil | refine Part.p0 ?_ | refine Part.p1 ?_ | refine Part.p2 ?_ | refine Part.p3 ?_ | refine Part.p4 ?_ | refine Part.p5 ?_ | refine Part.p6 ?_)))
        · repeat' (first
            | ((with_reducible refine ie_callf ?_); (first
            | ((with_reducible refine g_call 12 ?_); (first | refine Ef_callT [true, true] rfl rfl ent_12 rfl rfl rfl (fun w hp => len_c b c w _ l hp) ?_ | refine Ef_callT [false, true, true] rfl rfl ent_12 rfl rfl rfl (fun w hp => len_c b c w _ l hp) ?_ | refine Ef_callT [false, false, true, true] rfl rfl ent_12 rfl rfl rfl (fun w hp => len_c b c w _ l hp) ?_))
            | ((with_reducible refine g_call 21 ?_); (first | ((refine' Ef_callP rfl rfl ent_21 (fun w hp => none1_v b c w (hp.blkOf ?q1)) ?_); (case q1 => (repeat (first | exact .head _ | apply List.Mem.tail))))))
            | ((with_reducible refine g_call 27 ?_); (first | refine Ef_callT [true, true] rfl rfl ent_27 rfl rfl rfl (fun w hp => get_c b c w _ x (l.drop (i + 1) ++ kp) hp) ?_ | refine Ef_callT [false, false, false, true, true] rfl rfl ent_27 rfl rfl rfl (fun w hp => get_c b c w _ x (l.drop (i + 1) ++ l.take i) hp) ?_))
            | ((with_reducible refine g_call 22 ?_); (first | refine Ef_callT [true, true] rfl rfl ent_22 rfl rfl rfl (fun w hp => put_c b c w _ (l.drop (i + 1) ++ kp) x hp hroom) ?_ | refine Ef_callT [false, true, true] rfl rfl ent_22 rfl rfl rfl (fun w hp => put_c b c w _ (l.drop (i + 1) ++ kp) x hp hroom) ?_ | refine Ef_callT [false, false, true, true] rfl rfl ent_22 rfl rfl rfl (fun w hp => put_c b c w _ (l.drop (i + 1) ++ l.take i) x hp hroom) ?_))))
            | ((with_reducible refine ie_callv ?_); (first | (refine Ef_callVS [false, false, true] rfl rfl rfl hen rfl rfl rfl (fun w _ hp => hclo w _ x v1 hp) ?_; rintro _ _ ⟨rfl, rfl⟩)))
            | (first | ((((refine' Ef_appG_row (xs := ns.flatMap pE) (news := [pV (x.1, (A1, c1))]) rfl rfl rfl ?q1 ?q2 ?q3 (pE_one (x.1, (A1, c1))) ?q4 ?q5 ?_); (case q1 => exact app_of rfl); (case q2 => (first | exact at0 | exact at1 | exact at2 | exact at3 | exact at4 | exact at5 | exact at6)); (case q3 => (repeat (first | exact .head _ | apply List.Mem.tail))); (case q4 => omega); (case q5 => omega))); (first | ((fail_if_success have := A1); intro A1 c1) | intro _ _)))
            | refine w1 ?_
            | (refine w2 ?_ ?_ <;> intro hc)
            | (first | ((refine' ⟨_, Yl_remE (r := (p : Int)) rfl rfl ?q1 ?q2 hpl, ?_⟩); (case q1 => omega); (case q2 => omega)) | ((refine' ⟨_, Yl_rem_t rfl rfl ?q1, ?_⟩); (case q1 => omega)))
            | (refine w4 ?_; (intro _))
            | (refine w5 ?_; (first | ((fail_if_success have := A1); intro A1 c1) | intro _ _))
            | refine w3 ?_ ?_
            | fail_if_success skip)
          refine loopH_n (i + 1, pV x) ?_ (fun w' h => ?_) ⟨show i + 1 ≤ _ by omega, fun _ => rfl⟩ (show l.length - (i + 1) < l.length - i by omega)
          · (repeat (first | exact Sub.nil | refine Sub.cons rfl ?_))
          · dsimp only
            rw [hk2, if_pos rfl, ← List.append_assoc]
            exact h.ofPart (by (repeat (first | exact Part.nil | refine Part.p0 ?_ | refine Part.p1 ?_ | refine Part.p2 ?_ | refine Part.p3 ?_ | refine Part.p4 ?_ | refine Part.p5 ?_ | refine Part.p6 ?_)))
      · repeat' (first
          | ((with_reducible refine ie_callf ?_); (first
          | ((with_reducible refine g_call 12 ?_); (first | refine Ef_callT [true, true] rfl rfl ent_12 rfl rfl rfl (fun w hp => len_c b c w _ l hp) ?_ | refine Ef_callT [false, true, true] rfl rfl ent_12 rfl rfl rfl (fun w hp => len_c b c w _ l hp) ?_ | refine Ef_callT [false, false, true, true] rfl rfl ent_12 rfl rfl rfl (fun w hp => len_c b c w _ l hp) ?_))
          | ((with_reducible refine g_call 21 ?_); (first | ((refine' Ef_callP rfl rfl ent_21 (fun w hp => none1_v b c w (hp.blkOf ?q1)) ?_); (case q1 => (repeat (first | exact .head _ | apply List.Mem.tail))))))
          | ((with_reducible refine g_call 27 ?_); (first | refine Ef_callT [true, true] rfl rfl ent_27 rfl rfl rfl (fun w hp => get_c b c w _ x (l.drop (i + 1) ++ kp) hp) ?_ | refine Ef_callT [false, false, false, true, true] rfl rfl ent_27 rfl rfl rfl (fun w hp => get_c b c w _ x (l.drop (i + 1) ++ l.take i) hp) ?_))
          | ((with_reducible refine g_call 22 ?_); (first | refine Ef_callT [true, true] rfl rfl ent_22 rfl rfl rfl (fun w hp => put_c b c w _ (l.drop (i + 1) ++ kp) x hp hroom) ?_ | refine Ef_callT [false, true, true] rfl rfl ent_22 rfl rfl rfl (fun w hp => put_c b c w _ (l.drop (i + 1) ++ kp) x hp hroom) ?_ | refine Ef_callT [false, false, true, true] rfl rfl ent_22 rfl rfl rfl (fun w hp => put_c b c w _ (l.drop (i + 1) ++ l.take i) x hp hroom) ?_))))
          | ((with_reducible refine ie_callv ?_); (first | (refine Ef_callVS [false, false, true] rfl rfl rfl hen rfl rfl rfl (fun w _ hp => hclo w _ x v1 hp) ?_; rintro _ _ ⟨rfl, rfl⟩)))
          | (first | ((((refine' Ef_appG_row (xs := ns.flatMap pE) (news := [pV (x.1, (A1, c1))]) rfl rfl rfl ?q1 ?q2 ?q3 (pE_one (x.1, (A1, c1))) ?q4 ?q5 ?_); (case q1 => exact app_of rfl); (case q2 => (first | exact at0 | exact at1 | exact at2 | exact at3 | exact at4 | exact at5 | exact at6)); (case q3 => (repeat (first | exact .head _ | apply List.Mem.tail))); (case q4 => omega); (case q5 => omega))); (first | ((fail_if_success have := A1); intro A1 c1) | intro _ _)))
          | refine w1 ?_
          | (refine w2 ?_ ?_ <;> intro hc)
          | (first | ((refine' ⟨_, Yl_remE (r := (p : Int)) rfl rfl ?q1 ?q2 hpl, ?_⟩); (case q1 => omega); (case q2 => omega)) | ((refine' ⟨_, Yl_rem_t rfl rfl ?q1, ?_⟩); (case q1 => omega)))
          | (refine w4 ?_; (intro _))
          | (refine w5 ?_; (first | ((fail_if_success have := A1); intro A1 c1) | intro _ _))
          | refine w3 ?_ ?_
          | fail_if_success skip)
        refine loopH_n (i + 1, v1) ?_ (fun w' h => ?_) ⟨show i + 1 ≤ _ by omega, fun h => hv (show p < i by have : p < i + 1 := h; omega)⟩ (show l.length - (i + 1) < l.length - i by omega)
        · (repeat (first | exact Sub.nil | refine Sub.cons rfl ?_))
        · dsimp only
          rw [hko hip, ← List.append_assoc]
          exact h.ofPart (by (repeat (first | exact Part.nil | refine Part.p0 ?_ | refine Part.p1 ?_ | refine Part.p2 ?_ | refine Part.p3 ?_ | refine Part.p4 ?_ | refine Part.p5 ?_ | refine Part.p6 ?_)))
    · obtain rfl : i = l.length := by omega
      rw [hv hplt, List.drop_length, List.nil_append]
      repeat' (first
          | ((with_reducible refine ie_callf ?_); (first
          | ((with_reducible refine g_call 12 ?_); (first | refine Ef_callT [true, true] rfl rfl ent_12 rfl rfl rfl (fun w hp => len_c b c w _ l hp) ?_ | refine Ef_callT [false, true, true] rfl rfl ent_12 rfl rfl rfl (fun w hp => len_c b c w _ l hp) ?_ | refine Ef_callT [false, false, true, true] rfl rfl ent_12 rfl rfl rfl (fun w hp => len_c b c w _ l hp) ?_))
          | ((with_reducible refine g_call 21 ?_); (first | ((refine' Ef_callP rfl rfl ent_21 (fun w hp => none1_v b c w (hp.blkOf ?q1)) ?_); (case q1 => (repeat (first | exact .head _ | apply List.Mem.tail))))))
          | ((with_reducible refine g_call 27 ?_); (first | refine Ef_callT [true, true] rfl rfl ent_27 rfl rfl rfl (fun w hp => get_c b c w _ x (l.drop (i + 1) ++ kp) hp) ?_ | refine Ef_callT [false, false, false, true, true] rfl rfl ent_27 rfl rfl rfl (fun w hp => get_c b c w _ x (l.drop (i + 1) ++ l.take i) hp) ?_))
          | ((with_reducible refine g_call 22 ?_); (first | refine Ef_callT [true, true] rfl rfl ent_22 rfl rfl rfl (fun w hp => put_c b c w _ (l.drop (i + 1) ++ kp) x hp hroom) ?_ | refine Ef_callT [false, true, true] rfl rfl ent_22 rfl rfl rfl (fun w hp => put_c b c w _ (l.drop (i + 1) ++ kp) x hp hroom) ?_ | refine Ef_callT [false, false, true, true] rfl rfl ent_22 rfl rfl rfl (fun w hp => put_c b c w _ (l.drop (i + 1) ++ l.take i) x hp hroom) ?_))))
          | ((with_reducible refine ie_callv ?_); (first | (refine Ef_callVS [false, false, true] rfl rfl rfl hen rfl rfl rfl (fun w _ hp => hclo w _ x v1 hp) ?_; rintro _ _ ⟨rfl, rfl⟩)))
          | (first | ((((refine' Ef_appG_row (xs := ns.flatMap pE) (news := [pV (x.1, (A1, c1))]) rfl rfl rfl ?q1 ?q2 ?q3 (pE_one (x.1, (A1, c1))) ?q4 ?q5 ?_); (case q1 => exact app_of rfl); (case q2 => (first | exact at0 | exact at1 | exact at2 | exact at3 | exact at4 | exact at5 | exact at6)); (case q3 => (repeat (first | exact .head _ | apply List.Mem.tail))); (case q4 => omega); (case q5 => omega))); (first | ((fail_if_success have := A1); intro A1 c1) | intro _ _)))
          | refine w1 ?_
          | (refine w2 ?_ ?_ <;> intro hc)
          | (first | ((refine' ⟨_, Yl_remE (r := (p : Int)) rfl rfl ?q1 ?q2 hpl, ?_⟩); (case q1 => omega); (case q2 => omega)) | ((refine' ⟨_, Yl_rem_t rfl rfl ?q1, ?_⟩); (case q1 => omega)))
          | (refine w4 ?_; (intro _))
          | (refine w5 ?_; (first | ((fail_if_success have := A1); intro A1 c1) | intro _ _))
          | refine w3 ?_ ?_
          | fail_if_success skip)
      exact ret_n [nO b c, chA c (kept l p stay l.length), .blk t (.cells #[pV x0] 38 (0, 0))] (res1 rfl rfl) (by (repeat (first | exact List.nil_sublist _ | refine List.Sublist.cons_cons _ ?_ | refine List.Sublist.cons _ ?_))) ⟨rfl, rfl⟩
end
end Go.Proofs.Ytdbpnolpgkcjiaa
