/- The chapter's examples: what a call comes to. -/
import Derived.Test.YtdbpnolpgkcjiaaT4
namespace Go.Proofs.Ytdbpnolpgkcjiaa
open Go.RowKit Go.Conc

theorem freeze_block {w : World} {g : Nat} {C : Array Value} {e : TypeId} (h : w.heap[g]? = some (.cells C e (0, 0))) (k : Nat) : (w.freeze ⟨g, k, none⟩ 1).heap[g]? = some (.cells C e (k, k + 1)) := by
  unfold World.freeze
  rw [if_neg (by decide)]
  simp [Array.getElem?_modify, h]
theorem freeze_grown (w : World) (g k : Nat) : w.grownBy (w.freeze ⟨g, k, none⟩ 1) (some g) := by
  unfold World.freeze
  rw [if_neg (by decide)]
  refine ⟨rfl, rfl, rfl, by simp, fun j _ hne => ?_⟩
  simp only [Array.getElem?_modify]
  rw [if_neg (fun e => hne (by rw [e]))]
/-- A row of letters is marked as a constant's. -/
theorem Ef_mark {P : Program} {n : Nat} {w0 : World} {R : List Nat} {L : List (Nat × Value)} {M : List Asrt} {t ty : TypeId} {K : List (Nat × Value) → List Asrt → Prop} {x : Operand} {d g m i : Nat} {e : TypeId} {xs : List Value} (hd : Nat.blt d n = true) (hx : evl L x = some (.slice (some ⟨g, 0, none⟩) m m)) (ht : P.underlying t = some (.slice e)) (he : P.underlying e = some (.int .u8))
    (hM : M[i]? = some (.row e 1 (.slice (some ⟨g, 0, none⟩) m m) m xs)) (h : K ((d, .slice (some ⟨g, 0, none⟩) m m) :: L) (M.set i (.blk g (.cells xs.toArray e (m, m + 1))))) : Ef P n w0 R (some d) (.convert t t x) ty L M K :=
  Ef_of hd fun a w hk hp => by
    have ho : w.ownsRow 0 e 1 (.slice (some ⟨g, 0, none⟩) m m) m xs := hp.own _ (List.mem_of_getElem? hM)
    obtain ⟨hxl, h2⟩ := ho
    rcases h2 with ⟨hv, _⟩ | ⟨g', cap, cur, hv, _, hg, _, _, hsz, htk⟩
    · cases hv
    · injection hv with e1 e2 e3
      obtain rfl : g = g' := by simpa using e1
      subst e3
      have hcur : cur = xs.toArray := by
        apply Array.ext'
        rw [← htk, List.take_of_length_le (by rw [Array.length_toList, hsz]; exact Nat.le_refl _)]
      have hs1 : cur.size = m := by rw [hsz, Nat.mul_one]
      subst hcur
      have hsh : w.shape? g = some (e, m) := by unfold World.shape?; rw [hg]; simp only [hs1]
      have hstep := hp.step hM (freeze_grown w g m) (fun k hk => by cases hk; simp [Asrt.foot, Value.ownBlock]) (A' := .blk g (.cells xs.toArray e (m, m + 1))) (freeze_block hg m) (fun k hk => .inl (by simpa [Asrt.foot, Value.ownBlock] using hk)) (by simp [Asrt.foot])
      refine ⟨_, _, _, ?_, hstep, h⟩
      simp [execOp, hk.ev hx, convert, run_underlying ht, run_underlying he, markStringish, hsh]
theorem Hp.rdBlk {w0 w : World} {R : List Nat} {M : List Asrt} (hp : Hp w0 R M w) {g m : Nat} {xs : List Value} {e : TypeId} {fr : Nat × Nat} (hm : Asrt.blk g (.cells xs.toArray e fr) ∈ M) (hl : xs.length = m) : Rd w (some ⟨g, 0, none⟩) m 1 xs :=
  ⟨by rw [hl, Nat.mul_one], fun _ => rfl, fun _ => heap_lt (hp.blkOf hm), fun j u hu => by
    show w.cell? ((⟨g, 0, none⟩ : Addr).add j) = some u
    rw [blk_add, Nat.zero_add, cell_of_row w g j _ e fr (hp.blkOf hm)]
    simpa using hu⟩
theorem Ef_bsl3 {P : Program} {n : Nat} {w0 : World} {R : List Nat} {L : List (Nat × Value)} {M : List Asrt} {t ty : TypeId} {K : List (Nat × Value) → List Asrt → Prop} {x y z : Operand} {d e by_ : Nat} {v u s : Value} (hd : Nat.blt d n = true) (hx : evl L x = some v) (hy : evl L y = some u) (hz : evl L z = some s) (h1 : v.oneCell' = true) (h2 : u.oneCell' = true) (h3 : s.oneCell' = true) (ht : appT P t = some (e, 1, by_))
    (h : ∀ b, K ((d, .slice (some ⟨b, 0, none⟩) 3 3) :: L) (.row e 1 (.slice (some ⟨b, 0, none⟩) 3 3) 3 [v, u, s] :: M)) : Ef P n w0 R (some d) (.buildSlice t 3 #[(0, x), (1, y), (2, z)]) ty L M K := by
  have hc : v.cells = #[v] := by cases v <;> first | rfl | cases h1
  have hc2 : u.cells = #[u] := by cases u <;> first | rfl | cases h2
  have hc3 : s.cells = #[s] := by cases s <;> first | rfl | cases h3
  exact Ef_bsl (vs := [v, u, s]) hd ht (by simp [evps, hx, hy, hz]) rfl (by simp [hc, hc2, hc3]) (by decide) (by decide) (by simp [hc, hc2, hc3]) h
theorem TL.part {P : Program} {n : Nat} {w0 : World} {R : List Nat} {L : List (Nat × Value)} {M M' : List Asrt} {ops : Array Oper} {K : List (Nat × Value) → List Asrt → Prop} {l : List Oper} (hM : Part M' M) (h : TL P n w0 R ops K l L M') : TL P n w0 R ops K l L M := .mk fun a w hk hp => h.run a w hk (hp.ofPart hM)
theorem one_pk {ns : List Pk} {y : List UInt8} (h : ns.map (·.1) = [y]) : ∃ z : Hd, ns = [(y, z)] := by
  obtain ⟨⟨a, z⟩, rfl⟩ : ∃ m, ns = [m] := List.length_eq_one_iff.1 (by have := congrArg List.length h; simpa using this)
  obtain rfl : a = y := by simpa using h
  exact ⟨z, rfl⟩
theorem three_of {ns : List Pk} {x y z : List UInt8} (h : ns.map (·.1) = [x, y, z]) : ∃ a b c : Hd, ns = [(x, a), (y, b), (z, c)] := by
  match ns with
  | [(x', a), (y', b), (z', c)] =>
    simp only [List.map_cons, List.map_nil, List.cons.injEq, and_true] at h
    obtain ⟨rfl, rfl, rfl⟩ := h
    exact ⟨a, b, c, rfl⟩
  | [] => cases h
  | [_] => cases h
  | [_, _] => cases h
  | _ :: _ :: _ :: _ :: _ => simp at h
theorem two_len {ns : List Pk} {x y : List UInt8} (h : ns.map (·.1) = [x, y]) : ns.length = 2 := by have := congrArg List.length h; simpa using this
theorem two_at {ns : List Pk} {x y : List UInt8} (h : ns.map (·.1) = [x, y]) : ∃ a b : Hd, ns[0]? = some (x, a) ∧ ns[1]? = some (y, b) := by
  match ns with
  | [(x', a), (y', b)] =>
    simp only [List.map_cons, List.map_nil, List.cons.injEq, and_true] at h
    obtain ⟨rfl, rfl⟩ := h
    exact ⟨a, b, rfl, rfl⟩
  | [] => cases h
  | [_] => cases h
  | _ :: _ :: _ :: _ => simp at h

section
variable (b c : Nat)
theorem aw_send (b1 b2 b3 b4 : Nat) (w : World) (R : List Nat) (hp : Hp w R [nO b c, chA c []] w) (h4 : Rd w (some ⟨b4, 0, none⟩) 3 1 [pV ([97], (some ⟨b1, 0, none⟩, 1)), pV ([98], (some ⟨b2, 0, none⟩, 1)), pV ([99], (some ⟨b3, 0, none⟩, 1))])
    (h1 : Rd w (some ⟨b1, 0, none⟩) 1 1 [.int .u8 97]) (h2 : Rd w (some ⟨b2, 0, none⟩) 1 1 [.int .u8 98]) (h3 : Rd w (some ⟨b3, 0, none⟩) 1 1 [.int .u8 99]) (r4 : b4 ∉ R) (r1 : b1 ∉ R) (r2 : b2 ∉ R) (r3 : b3 ∉ R) :
    Sp Try.prog 10 [.pointer (some ⟨b, 0, none⟩), .slice (some ⟨b4, 0, none⟩) 3 3] w R fun v N => ∃ ns : List Pk, ns.map (·.1) = [([97] : List UInt8), [98], [99]] ∧ v = .int .i64 0 ∧ N = [bag (ns.map bP), nO b c, chA c ns] :=
  send_c b c w R [] hp (some ⟨b4, 0, none⟩) 3 [([97], (some ⟨b1, 0, none⟩, 1)), ([98], (some ⟨b2, 0, none⟩, 1)), ([99], (some ⟨b3, 0, none⟩, 1))] h4 r4
    (fun x hx => by simp only [List.mem_cons, List.not_mem_nil, or_false] at hx; rcases hx with rfl | rfl | rfl <;> first | exact h1 | exact h2 | exact h3)
    (fun x hx _ => by simp only [List.mem_cons, List.not_mem_nil, or_false] at hx; rcases hx with rfl | rfl | rfl <;> first | exact r1 | exact r2 | exact r3)
    (fun x hx => by simp only [List.mem_cons, List.not_mem_nil, or_false] at hx; rcases hx with rfl | rfl | rfl <;> simp) (by simp)
theorem aw_len (w : World) (R : List Nat) (p : Pk) (hp : Hp w R [nO b c, chA c [p]] w) : Sp Try.prog 12 [.pointer (some ⟨b, 0, none⟩)] w R fun v N => v = .int .i64 1 ∧ N = [nO b c, chA c [p]] := len_c b c w R [p] hp
theorem aw_take1 (w : World) (R : List Nat) (p q r : Pk) (hp : Hp w R [nO b c, chA c [p, q, r], bag ([p, q, r].map bP)] w) : Sp Try.prog 14 [.pointer (some ⟨b, 0, none⟩), .int .i64 4] w R fun v N => v = .tuple #[pV q, .int .i64 0] ∧ N = [nO b c, chA c [p, r], bag ([p, r].map bP), bP q] := by
  have e : plc 4 ([p, q, r] : List Pk).length = 1 := by show plc 4 3 = 1; decide +kernel
  have := take_c b c w R [p, q, r] hp 4 (by simp) q (by rw [e]; rfl)
  rw [e] at this
  exact this
theorem aw_take2 (w : World) (R : List Nat) (p r : Pk) (hp : Hp w R [nO b c, chA c [p, r], bag ([p, r].map bP)] w) : Sp Try.prog 14 [.pointer (some ⟨b, 0, none⟩), .int .i64 (-1)] w R fun v N => v = .tuple #[pV r, .int .i64 0] ∧ N = [nO b c, chA c [p], bag ([p].map bP), bP r] := by
  have e : plc (-1) ([p, r] : List Pk).length = 1 := by show plc (-1) 2 = 1; decide +kernel
  have := take_c b c w R [p, r] hp (-1) (by simp) r (by rw [e]; rfl)
  rw [e] at this
  exact this
theorem aw_take3 (w : World) (R : List Nat) (p : Pk) (hp : Hp w R [nO b c, chA c [p], bag ([p].map bP)] w) : Sp Try.prog 14 [.pointer (some ⟨b, 0, none⟩), .int .i64 0] w R fun v N => v = .tuple #[pV p, .int .i64 0] ∧ N = [nO b c, chA c [], bag [], bP p] := by
  have e : plc 0 ([p] : List Pk).length = 0 := by show plc 0 1 = 0; decide +kernel
  have := take_c b c w R [p] hp 0 (by simp) p (by rw [e]; rfl)
  rw [e] at this
  exact this
theorem aw_double (w : World) (R : List Nat) (h1 : Hd) (hp : Hp w R [nO b c, chA c [([97], h1)], bag ([([97], h1)].map bP)] w) : Sp Try.prog 11 [.pointer (some ⟨b, 0, none⟩), .int .i64 0] w R fun v N => ∃ ns : List Pk, ns.map (·.1) = [([97] : List UInt8)] ∧ v = .int .i64 0 ∧ N = [nO b c, chA c ([([97], h1)] ++ ns), bag (([([97], h1)] ++ ns).map bP)] := by
  have e : plc 0 ([([97], h1)] : List Pk).length = 0 := by show plc 0 1 = 0; decide +kernel
  exact double_c b c w R [([97], h1)] hp (fun x hx => by rw [List.mem_singleton.1 hx]; simp) 0 (by simp) ([97], h1) (by rw [e]; rfl)
theorem aw_all (w : World) (R : List Nat) (h1 h4 : Hd) (hp : Hp w R [nO b c, chA c [([97], h1), ([97], h4)], bag ([([97], h1), ([97], h4)].map bP)] w) : Sp Try.prog 16 [.pointer (some ⟨b, 0, none⟩)] w R fun v N => ∃ y : Hd × List Pk, y.2.map (·.1) = [([97] : List UInt8), [97]] ∧ v = .slice y.1.1 y.2.length y.1.2 ∧ N = [rP y.2 y.1, bag (y.2.map bP), nO b c, chA c [([97], h1), ([97], h4)], bag ([([97], h1), ([97], h4)].map bP)] :=
  all_c b c w R [([97], h1), ([97], h4)] hp (fun x hx => by simp only [List.mem_cons, List.not_mem_nil, or_false] at hx; rcases hx with rfl | rfl <;> simp) (by simp)
theorem aw_drop (w : World) (R : List Nat) (p q : Pk) (hp : Hp w R [nO b c, chA c [p, q], bag ([p, q].map bP)] w) : Sp Try.prog 15 [.pointer (some ⟨b, 0, none⟩), .int .i64 0] w R fun v N => v = .int .i64 0 ∧ N = [nO b c, chA c [q], bag ([q].map bP)] := by
  have e : plc 0 ([p, q] : List Pk).length = 0 := by show plc 0 2 = 0; decide +kernel
  have := drop_c b c w R [p, q] hp 0 (by simp) p (by rw [e]; rfl)
  rw [e] at this
  exact this
end

set_option maxHeartbeats 8000000 in
theorem awake_c (w : World) : Sp Try.prog 19 [] w [] fun v N => v = .bool true ∧ N = [] := by
  refine Sp.enter (n := 113) Try.func19 rfl rfl rfl (Hp.refl w) ?_
  refine T.mem (fun _ h => h.bagNil) ?_
  repeat' (first
      | ((with_reducible refine is_load ?_); (first | ((refine' ⟨_, Yl_load_row rfl ?q1 ?q2 f0, ?_⟩); (case q1 => exact one_of rfl); (case q2 => (repeat (first | exact .head _ | apply List.Mem.tail)))) | ((refine' ⟨_, Yl_load_row rfl ?q1 ?q2 f1, ?_⟩); (case q1 => exact one_of rfl); (case q2 => (repeat (first | exact .head _ | apply List.Mem.tail))))))
      | ((with_reducible refine is_idx ?_); (first | ((refine' ⟨_, Yl_index_hp (j := 0) rfl rfl ?q1 ?q2 ?q3 (fun w hp => hp.rowOf ?q4), ?_⟩); (case q1 => exact und_of rfl); (case q2 => exact siz_of rfl); (case q3 => omega); (case q4 => (repeat (first | exact .head _ | apply List.Mem.tail)))) | ((refine' ⟨_, Yl_index_hp (j := 1) rfl rfl ?q1 ?q2 ?q3 (fun w hp => hp.rowOf ?q4), ?_⟩); (case q1 => exact und_of rfl); (case q2 => exact siz_of rfl); (case q3 => omega); (case q4 => (repeat (first | exact .head _ | apply List.Mem.tail))))))
      | ((with_reducible refine ie_callf ?_); (first
      | ((with_reducible refine g_call 9 ?_); (first | (refine Ef_callN rfl rfl ent_9 (fun w _ => new_c w) ?_; rintro ⟨b, c⟩)))
      | ((with_reducible refine g_call 10 ?_); (first
      | (((refine' Ef_callW [false, false, false, false, true, true] rfl rfl ent_10 rfl rfl rfl (fun w hp hp2 => aw_send b c b1 b2 b3 b4 w _ hp2 (hp.rowOf ?q1) (hp.rdBlk (xs := [.int .u8 97]) ?q2 rfl) (hp.rdBlk (xs := [.int .u8 98]) ?q3 rfl) (hp.rdBlk (xs := [.int .u8 99]) ?q4 rfl) (hp.apartS [false, false, false, false, true, true] rfl rfl (A := .row 38 1 (.slice (some ⟨b4, 0, none⟩) 3 3) 3 [pV ([97], (some ⟨b1, 0, none⟩, 1)), pV ([98], (some ⟨b2, 0, none⟩, 1)), pV ([99], (some ⟨b3, 0, none⟩, 1))]) ?q5 (.head _)) (hp.apartS [false, false, false, false, true, true] rfl rfl (A := .blk b1 (.cells #[.int .u8 97] 5 (1, 2))) ?q6 (.head _)) (hp.apartS [false, false, false, false, true, true] rfl rfl (A := .blk b2 (.cells #[.int .u8 98] 5 (1, 2))) ?q7 (.head _)) (hp.apartS [false, false, false, false, true, true] rfl rfl (A := .blk b3 (.cells #[.int .u8 99] 5 (1, 2))) ?q8 (.head _))) ?_); (case q1 => (repeat (first | exact .head _ | apply List.Mem.tail))); (case q2 => (repeat (first | exact .head _ | apply List.Mem.tail))); (case q3 => (repeat (first | exact .head _ | apply List.Mem.tail))); (case q4 => (repeat (first | exact .head _ | apply List.Mem.tail))); (case q5 => (repeat (first | exact .head _ | apply List.Mem.tail))); (case q6 => (repeat (first | exact .head _ | apply List.Mem.tail))); (case q7 => (repeat (first | exact .head _ | apply List.Mem.tail))); (case q8 => (repeat (first | exact .head _ | apply List.Mem.tail)))); rintro ns hns; obtain ⟨h1, h2, h3, rfl⟩ := three_of hns; ((refine' TL.part (M' := [nO b c, chA c [([97], h1), ([98], h2), ([99], h3)], bag ([([97], h1), ([98], h2), ([99], h3)].map bP)]) ?q1 ?_); (case q1 => (repeat (first | exact Part.nil | refine Part.p0 ?_ | refine Part.p1 ?_ | refine Part.p2 ?_ | refine Part.p3 ?_ | refine Part.p4 ?_ | refine Part.p5 ?_ | refine Part.p6 ?_)))))))
      | ((with_reducible refine g_call 14 ?_); (first | refine Ef_callT [true, true, true] rfl rfl ent_14 rfl rfl rfl (fun w hp => aw_take1 b c w _ _ _ _ hp) ?_ | refine Ef_callT [true, true, true] rfl rfl ent_14 rfl rfl rfl (fun w hp => aw_take2 b c w _ _ _ hp) ?_ | refine Ef_callT [true, true, true] rfl rfl ent_14 rfl rfl rfl (fun w hp => aw_take3 b c w _ _ hp) ?_ | refine Ef_callT [true, true, true] rfl rfl ent_14 rfl rfl rfl (fun w hp => takeE_c b c w _ 0 hp) ?_))
      | ((with_reducible refine g_call 12 ?_); (first | refine Ef_callT [true, true] rfl rfl ent_12 rfl rfl rfl (fun w hp => aw_len b c w _ _ hp) ?_))
      | ((with_reducible refine g_call 11 ?_); (first | (refine Ef_callX (φ := fun ns : List Pk => ns.map (·.1) = [([97] : List UInt8)]) [true, true, true] rfl rfl ent_11 rfl rfl rfl (fun w hp => aw_double b c w _ h1 hp) ?_; rintro ns hns; obtain ⟨h4, rfl⟩ := one_pk hns)))
      | ((with_reducible refine g_call 16 ?_); (first | (refine Ef_callX (φ := fun y : Hd × List Pk => y.2.map (·.1) = [([97] : List UInt8), [97]]) [true, true, true] rfl rfl ent_16 rfl rfl rfl (fun w hp => aw_all b c w _ h1 h4 hp) ?_; rintro ⟨⟨A5, c5⟩, ms⟩ hms; have n5 := two_len hms; obtain ⟨h5, h6, m0, m1⟩ := two_at hms; have f0 : (ms.flatMap pE)[0 * 1]? = some (pV ([97], h5)) := enc_at pE_len m0 (j := 0) Nat.one_pos; have f1 : (ms.flatMap pE)[1 * 1]? = some (pV ([97], h6)) := enc_at pE_len m1 (j := 0) Nat.one_pos)))
      | ((with_reducible refine g_call 15 ?_); (first | refine Ef_callT [false, false, true, true, true] rfl rfl ent_15 rfl rfl rfl (fun w hp => aw_drop b c w _ _ _ hp) ?_))))
      | (first | (((refine' Ef_mark rfl rfl ?q1 ?q2 ?q3 ?_); (case q1 => exact und_of rfl); (case q2 => exact und_of rfl); (case q3 => (first | exact at0 | exact at1 | exact at2 | exact at3 | exact at4 | exact at5 | exact at6)))) | (((refine' Ef_bsl3 rfl rfl rfl rfl rfl rfl rfl ?q1 ?_); (case q1 => exact app_of rfl)); intro b4))
      | refine w1 ?_
      | (refine w2 ?_ ?_ <;> intro hc)
      | (first
      | ((refine' ⟨_, Yl_str_hp (l := [98]) rfl ?q1 ?q2 ?q3 (fun w hp => hp.in_row (p := ([98], h2)) ?q4), ?_⟩); (case q1 => exact und_of rfl); (case q2 => exact und_of rfl); (case q3 => exact und_of rfl); (case q4 => (repeat (first | exact .head _ | apply List.Mem.tail))))
      | ((refine' ⟨_, Yl_str_hp (l := [99]) rfl ?q1 ?q2 ?q3 (fun w hp => hp.in_row (p := ([99], h3)) ?q4), ?_⟩); (case q1 => exact und_of rfl); (case q2 => exact und_of rfl); (case q3 => exact und_of rfl); (case q4 => (repeat (first | exact .head _ | apply List.Mem.tail))))
      | ((refine' ⟨_, Yl_str_hp (l := [97]) rfl ?q1 ?q2 ?q3 (fun w hp => hp.in_row (p := ([97], h4)) ?q4), ?_⟩); (case q1 => exact und_of rfl); (case q2 => exact und_of rfl); (case q3 => exact und_of rfl); (case q4 => (repeat (first | exact .head _ | apply List.Mem.tail))))
      | ((refine' ⟨_, Yl_str_hp (l := [97]) rfl ?q1 ?q2 ?q3 (fun w hp => hp.ins_bag (ps := ms) ?q4 ([97], h5) (mem_of_some m0)), ?_⟩); (case q1 => exact und_of rfl); (case q2 => exact und_of rfl); (case q3 => exact und_of rfl); (case q4 => (repeat (first | exact .head _ | apply List.Mem.tail))))
      | ((refine' ⟨_, Yl_str_hp (l := [97]) rfl ?q1 ?q2 ?q3 (fun w hp => hp.ins_bag (ps := ms) ?q4 ([97], h6) (mem_of_some m1)), ?_⟩); (case q1 => exact und_of rfl); (case q2 => exact und_of rfl); (case q3 => exact und_of rfl); (case q4 => (repeat (first | exact .head _ | apply List.Mem.tail)))))
      | (refine w4 ?_; (first | ((fail_if_success have := b1); intro b1) | ((fail_if_success have := b2); intro b2) | ((fail_if_success have := b3); intro b3) | ((fail_if_success have := b4); intro b4) | intro _))
      | (refine w5 ?_; (first | ((fail_if_success have := A1); intro A1 c1) | ((fail_if_success have := A2); intro A2 c2) | ((fail_if_success have := A3); intro A3 c3) | ((fail_if_success have := A4); intro A4 c4) | ((fail_if_success have := A5); intro A5 c5) | intro _ _))
      | refine w3 ?_ ?_
      | fail_if_success skip)
  exact ret_n [] (res1 rfl rfl) (List.nil_sublist _) ⟨rfl, rfl⟩
end Go.Proofs.Ytdbpnolpgkcjiaa
