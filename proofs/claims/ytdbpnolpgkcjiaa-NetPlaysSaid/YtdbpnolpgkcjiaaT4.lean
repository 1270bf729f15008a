/- Take, Drop, Double, All: what a call of each comes to. -/
import Derived.Test.YtdbpnolpgkcjiaaT3
namespace Go.Proofs.Ytdbpnolpgkcjiaa
open Go.RowKit Go.Conc

theorem cut_at {α : Type} {l : List α} {j : Nat} {x : α} (h : l[j]? = some x) : l = l.take j ++ x :: l.drop (j + 1) := by
  obtain ⟨hj, rfl⟩ := List.getElem?_eq_some_iff.1 h
  rw [← List.drop_eq_getElem_cons hj, List.take_append_drop]
theorem erase_perm {l : List Pk} {p : Nat} {x : Pk} (h : l[p]? = some x) : l.Perm (x :: l.eraseIdx p) := by
  rw [List.eraseIdx_eq_take_drop_succ]
  conv => lhs; rw [cut_at h]
  exact List.perm_middle
theorem Hp.takeBag {w0 w : World} {R : List Nat} {M : List Asrt} {l : List Pk} {p : Nat} {x : Pk} (h : l[p]? = some x) (hp : Hp w0 R (bag (l.map bP) :: M) w) : Hp w0 R (bP x :: bag ((l.eraseIdx p).map bP) :: M) w := by
  have h1 := (hp.bagPerm ((erase_perm h).map bP))
  have h2 := Hp.bagTake (l := []) (A := bP x) (l2 := (l.eraseIdx p).map bP) h1
  exact h2.weaken (List.Sublist.cons_cons _ (List.Sublist.cons _ (List.Sublist.refl _)))
theorem bag_foot {w : World} {l : List Pk} {p : Pk} (hm : p ∈ l) (h : In w p) (h0 : 0 < p.1.length) : (adr p.2.1).block ∈ (bag (l.map bP)).foot :=
  List.mem_flatMap.2 ⟨bP p, List.mem_map.2 ⟨p, hm, rfl⟩, bP_foot h h0⟩
theorem kept_f (l : List Pk) (p : Nat) : kept l p false l.length = l.eraseIdx p := by unfold kept; rw [if_neg (by simp), List.take_length]
theorem kept_t (l : List Pk) (p : Nat) : kept l p true l.length = l := by unfold kept; rw [if_pos rfl, List.take_length]

section
variable (b c : Nat) (w : World) (R : List Nat)
set_option maxHeartbeats 2000000 in
theorem roundE_c (l : List Pk) (hl0 : l.length = 0) (t : Nat) (k : Int) (g : Value) (v1 : Value) (hp : Hp w R [.blk t (.cells #[v1] 38 (0, 0)), nO b c, chA c l] w) : Sp Try.prog 24 [.pointer (some ⟨b, 0, none⟩), .int .i64 k, g] w R fun v N => v = .int .i64 280 ∧ N = [.blk t (.cells #[v1] 38 (0, 0)), nO b c, chA c l] := by
  refine Sp.part (Res := fun v N => v = .int .i64 280 ∧ N = [nO b c, chA c l, .blk t (.cells #[v1] 38 (0, 0))]) ?_ (fun v N ⟨h1, h2⟩ => ⟨[.blk t (.cells #[v1] 38 (0, 0)), nO b c, chA c l], by subst h2; (repeat (first | exact Part.nil | refine Part.p0 ?_ | refine Part.p1 ?_ | refine Part.p2 ?_ | refine Part.p3 ?_ | refine Part.p4 ?_ | refine Part.p5 ?_ | refine Part.p6 ?_)), h1, rfl⟩)
  have hp2 : Hp w R [nO b c, chA c l, .blk t (.cells #[v1] 38 (0, 0))] w := hp.ofPart (by (repeat (first | exact Part.nil | refine Part.p0 ?_ | refine Part.p1 ?_ | refine Part.p2 ?_ | refine Part.p3 ?_ | refine Part.p4 ?_ | refine Part.p5 ?_ | refine Part.p6 ?_)))
  have hlen := fun w R hp => len_c b c w R l hp
  refine Sp.enter (n := 47) Try.func24 rfl rfl rfl hp2 ?_
  repeat' (first
      | ((with_reducible refine ie_callf ?_); (first    | ((with_reducible refine g_call 21 ?_); (first | ((refine' Ef_callP rfl rfl ent_21 (fun w hp => none1_v b c w (hp.blkOf ?q1)) ?_); (case q1 => (repeat (first | exact .head _ | apply List.Mem.tail)))))) | ((with_reducible refine g_call 12 ?_); (first | refine Ef_callT [true, true] rfl rfl ent_12 rfl rfl rfl (fun w hp => hlen w _ hp) ?_ | refine Ef_callT [false, false, true, true] rfl rfl ent_12 rfl rfl rfl (fun w hp => len_c b c w _ l hp) ?_)) | ((with_reducible refine g_call 27 ?_); (first | refine Ef_callT [false, false, true, true] rfl rfl ent_27 rfl rfl rfl (fun w hp => get_c b c w _ x (l.drop (i + 1) ++ l.take i) hp) ?_))  | ((with_reducible refine g_call 22 ?_); (first | refine Ef_callT [false, false, true, true] rfl rfl ent_22 rfl rfl rfl (fun w hp => put_c b c w _ (l.drop (i + 1) ++ l.take i) x hp hroom) ?_ | refine Ef_callT [false, false, false, true, true] rfl rfl ent_22 rfl rfl rfl (fun w hp => put_c b c w _ (l.drop (i + 1) ++ l.take i) x hp hroom) ?_))))
      | (first | ((((refine' Ef_appG_row (xs := ns.flatMap pE) (news := [pV (x.1, (A1, c1))]) rfl rfl rfl ?q1 ?q2 ?q3 (pE_one (x.1, (A1, c1))) ?q4 ?q5 ?_); (case q1 => exact app_of rfl); (case q2 => (first | exact at0 | exact at1 | exact at2 | exact at3 | exact at4 | exact at5 | exact at6)); (case q3 => (repeat (first | exact .head _ | apply List.Mem.tail))); (case q4 => omega); (case q5 => omega))); (first | ((fail_if_success have := A1); intro A1 c1) | intro _ _)))
      | refine w1 ?_
      | (refine w2 ?_ ?_ <;> intro hc)
      | (refine w4 ?_; (intro _))
      | (refine w5 ?_; (first | ((fail_if_success have := A1); intro A1 c1) | intro _ _))
      | refine w3 ?_ ?_
      | fail_if_success skip)
  exact ret_n [nO b c, chA c l, .blk t (.cells #[v1] 38 (0, 0))] (res1 rfl rfl) (by (repeat (first | exact List.nil_sublist _ | refine List.Sublist.cons_cons _ ?_ | refine List.Sublist.cons _ ?_))) ⟨rfl, rfl⟩

variable (l : List Pk) (hp : Hp w R [nO b c, chA c l, bag (l.map bP)] w)
include hp
set_option maxHeartbeats 2000000 in
theorem take_c (k : Int) (hll : l.length ≤ 4096) (x0 : Pk) (h0 : l[plc k l.length]? = some x0) : Sp Try.prog 14 [.pointer (some ⟨b, 0, none⟩), .int .i64 k] w R fun v N => v = .tuple #[pV x0, .int .i64 0] ∧ N = [nO b c, chA c (l.eraseIdx (plc k l.length)), bag ((l.eraseIdx (plc k l.length)).map bP), bP x0] := by
  refine Sp.mem (Res := fun v N => v = .tuple #[pV x0, .int .i64 0] ∧ N = [nO b c, chA c (l.eraseIdx (plc k l.length)), bag (l.map bP)]) ?_ (fun v N ⟨h1, h2⟩ => ⟨_, fun w' h => ?_, h1, rfl⟩)
  · have hround := fun t v1 w R (hp : Hp w R [.blk t (.cells #[v1] 38 (0, 0)), nO b c, chA c l] w) => Sp.part (Res' := fun v N => v = .int .i64 0 ∧ N = [.blk t (.cells #[pV x0] 38 (0, 0)), nO b c, chA c (l.eraseIdx (plc k l.length))]) (round_c b c t 26 false ent_26 (clo26_c t) k l v1 w R (hp.ofPart (by (repeat (first | exact Part.nil | refine Part.p0 ?_ | refine Part.p1 ?_ | refine Part.p2 ?_ | refine Part.p3 ?_ | refine Part.p4 ?_ | refine Part.p5 ?_ | refine Part.p6 ?_)))) hll x0 h0) (fun v N ⟨h1, h2⟩ => ⟨[.blk t (.cells #[pV x0] 38 (0, 0)), nO b c, chA c (l.eraseIdx (plc k l.length))], by subst h2; rw [kept_f]; (repeat (first | exact Part.nil | refine Part.p0 ?_ | refine Part.p1 ?_ | refine Part.p2 ?_ | refine Part.p3 ?_ | refine Part.p4 ?_ | refine Part.p5 ?_ | refine Part.p6 ?_)), h1, rfl⟩)
    refine Sp.enter (n := 14) Try.func14 rfl rfl rfl hp ?_
    repeat' (first | ((with_reducible refine ie_callf ?_); (first | ((with_reducible refine g_call 24 ?_); (first | refine Ef_callT [true, true, true] rfl rfl ent_24 rfl rfl rfl (fun w hp => hround b1 _ w _ hp) ?_))))  | (first | ((((refine' Ef_appG_row (xs := ns.flatMap pE) (news := [pV (x.1, (A1, c1))]) rfl rfl rfl ?q1 ?q2 ?q3 (pE_one (x.1, (A1, c1))) ?q4 ?q5 ?_); (case q1 => exact app_of rfl); (case q2 => (first | exact at0 | exact at1 | exact at2 | exact at3 | exact at4 | exact at5 | exact at6)); (case q3 => (repeat (first | exact .head _ | apply List.Mem.tail))); (case q4 => omega); (case q5 => omega))); (first | ((fail_if_success have := A1); intro A1 c1) | intro _ _)))  | refine w1 ?_ | (refine w2 ?_ ?_ <;> intro hc)  | (refine w4 ?_; (first | ((fail_if_success have := b1); intro b1) | intro _)) | (refine w5 ?_; (first | ((fail_if_success have := A1); intro A1 c1) | intro _ _)) | refine w3 ?_ ?_ | fail_if_success skip)
    exact ret_n [nO b c, chA c (l.eraseIdx (plc k l.length)), bag (l.map bP)] (res2 rfl rfl rfl) (by (repeat (first | exact List.nil_sublist _ | refine List.Sublist.cons_cons _ ?_ | refine List.Sublist.cons _ ?_))) ⟨rfl, rfl⟩
  · subst h2
    exact (Hp.takeBag h0 (h.ofPart (M' := [bag (l.map bP), nO b c, chA c (l.eraseIdx (plc k l.length))]) (by (repeat (first | exact Part.nil | refine Part.p0 ?_ | refine Part.p1 ?_ | refine Part.p2 ?_ | refine Part.p3 ?_ | refine Part.p4 ?_ | refine Part.p5 ?_ | refine Part.p6 ?_))))).ofPart (by (repeat (first | exact Part.nil | refine Part.p0 ?_ | refine Part.p1 ?_ | refine Part.p2 ?_ | refine Part.p3 ?_ | refine Part.p4 ?_ | refine Part.p5 ?_ | refine Part.p6 ?_)))
set_option maxHeartbeats 2000000 in
theorem drop_c (k : Int) (hll : l.length ≤ 4096) (x0 : Pk) (h0 : l[plc k l.length]? = some x0) : Sp Try.prog 15 [.pointer (some ⟨b, 0, none⟩), .int .i64 k] w R fun v N => v = .int .i64 0 ∧ N = [nO b c, chA c (l.eraseIdx (plc k l.length)), bag ((l.eraseIdx (plc k l.length)).map bP)] := by
  have htake := fun w R hp => take_c b c w R l hp k hll x0 h0
  refine Sp.enter (n := 14) Try.func15 rfl rfl rfl hp ?_
  repeat' (first     | ((with_reducible refine ie_callf ?_); (first  | ((with_reducible refine g_call 14 ?_); (first | refine Ef_callT [true, true, true] rfl rfl ent_14 rfl rfl rfl (fun w hp => htake w _ hp) ?_))))  | (first | ((((refine' Ef_appG_row (xs := ns.flatMap pE) (news := [pV (x.1, (A1, c1))]) rfl rfl rfl ?q1 ?q2 ?q3 (pE_one (x.1, (A1, c1))) ?q4 ?q5 ?_); (case q1 => exact app_of rfl); (case q2 => (first | exact at0 | exact at1 | exact at2 | exact at3 | exact at4 | exact at5 | exact at6)); (case q3 => (repeat (first | exact .head _ | apply List.Mem.tail))); (case q4 => omega); (case q5 => omega))); (first | ((fail_if_success have := A1); intro A1 c1) | intro _ _)))  | refine w1 ?_ | (refine w2 ?_ ?_ <;> intro hc)  | (refine w4 ?_; (intro _)) | (refine w5 ?_; (first | ((fail_if_success have := A1); intro A1 c1) | intro _ _)) | refine w3 ?_ ?_ | fail_if_success skip)
  exact ret_n [nO b c, chA c (l.eraseIdx (plc k l.length)), bag ((l.eraseIdx (plc k l.length)).map bP)] (res1 rfl rfl) (by (repeat (first | exact List.nil_sublist _ | refine List.Sublist.cons_cons _ ?_ | refine List.Sublist.cons _ ?_))) ⟨rfl, rfl⟩
omit hp in
theorem takeE_c (k : Int) (hp : Hp w R [nO b c, chA c [], bag []] w) : Sp Try.prog 14 [.pointer (some ⟨b, 0, none⟩), .int .i64 k] w R fun v N => v = .tuple #[.slice none 0 0, .int .i64 280] ∧ N = [nO b c, chA c [], bag []] := by
  have hround := fun t v1 w R hp => roundE_c b c w R [] rfl t k (.func (.func 26) #[] #[.pointer (some ⟨t, 0, none⟩)]) v1 hp
  refine Sp.enter (n := 14) Try.func14 rfl rfl rfl hp ?_
  repeat' (first | ((with_reducible refine ie_callf ?_); (first | ((with_reducible refine g_call 24 ?_); (first | refine Ef_callT [true, true, true] rfl rfl ent_24 rfl rfl rfl (fun w hp => hround b1 _ w _ hp) ?_))))  | (first | ((((refine' Ef_appG_row (xs := ns.flatMap pE) (news := [pV (x.1, (A1, c1))]) rfl rfl rfl ?q1 ?q2 ?q3 (pE_one (x.1, (A1, c1))) ?q4 ?q5 ?_); (case q1 => exact app_of rfl); (case q2 => (first | exact at0 | exact at1 | exact at2 | exact at3 | exact at4 | exact at5 | exact at6)); (case q3 => (repeat (first | exact .head _ | apply List.Mem.tail))); (case q4 => omega); (case q5 => omega))); (first | ((fail_if_success have := A1); intro A1 c1) | intro _ _)))  | refine w1 ?_ | (refine w2 ?_ ?_ <;> intro hc)  | (refine w4 ?_; (first | ((fail_if_success have := b1); intro b1) | intro _)) | (refine w5 ?_; (first | ((fail_if_success have := A1); intro A1 c1) | intro _ _)) | refine w3 ?_ ?_ | fail_if_success skip)
  exact ret_n [nO b c, chA c [], bag []] (res2 rfl rfl rfl) (by (repeat (first | exact List.nil_sublist _ | refine List.Sublist.cons_cons _ ?_ | refine List.Sublist.cons _ ?_))) ⟨rfl, rfl⟩
omit hp in
theorem dropE_c (k : Int) (hp : Hp w R [nO b c, chA c [], bag []] w) : Sp Try.prog 15 [.pointer (some ⟨b, 0, none⟩), .int .i64 k] w R fun v N => v = .int .i64 280 ∧ N = [nO b c, chA c [], bag []] := by
  have htake := fun w R hp => takeE_c b c w R k hp
  refine Sp.enter (n := 14) Try.func15 rfl rfl rfl hp ?_
  repeat' (first     | ((with_reducible refine ie_callf ?_); (first  | ((with_reducible refine g_call 14 ?_); (first | refine Ef_callT [true, true, true] rfl rfl ent_14 rfl rfl rfl (fun w hp => htake w _ hp) ?_))))  | (first | ((((refine' Ef_appG_row (xs := ns.flatMap pE) (news := [pV (x.1, (A1, c1))]) rfl rfl rfl ?q1 ?q2 ?q3 (pE_one (x.1, (A1, c1))) ?q4 ?q5 ?_); (case q1 => exact app_of rfl); (case q2 => (first | exact at0 | exact at1 | exact at2 | exact at3 | exact at4 | exact at5 | exact at6)); (case q3 => (repeat (first | exact .head _ | apply List.Mem.tail))); (case q4 => omega); (case q5 => omega))); (first | ((fail_if_success have := A1); intro A1 c1) | intro _ _)))  | refine w1 ?_ | (refine w2 ?_ ?_ <;> intro hc)  | (refine w4 ?_; (intro _)) | (refine w5 ?_; (first | ((fail_if_success have := A1); intro A1 c1) | intro _ _)) | refine w3 ?_ ?_ | fail_if_success skip)
  exact ret_n [nO b c, chA c [], bag []] (res1 rfl rfl) (by (repeat (first | exact List.nil_sublist _ | refine List.Sublist.cons_cons _ ?_ | refine List.Sublist.cons _ ?_))) ⟨rfl, rfl⟩
omit hp in
theorem doubleE_c (k : Int) (hp : Hp w R [nO b c, chA c [], bag []] w) : Sp Try.prog 11 [.pointer (some ⟨b, 0, none⟩), .int .i64 k] w R fun v N => v = .int .i64 280 ∧ N = [nO b c, chA c [], bag []] := by
  have hround := fun t v1 w R hp => roundE_c b c w R [] rfl t k (.func (.func 25) #[] #[.pointer (some ⟨t, 0, none⟩)]) v1 hp
  refine Sp.enter (n := 18) Try.func11 rfl rfl rfl hp ?_
  repeat' (first
      | ((with_reducible refine ie_callf ?_); (first
      | ((with_reducible refine g_call 24 ?_); (first | refine Ef_callT [true, true, true] rfl rfl ent_24 rfl rfl rfl (fun w hp => hround b1 _ w _ hp) ?_))
      | ((with_reducible refine g_call 10 ?_); (first | (((refine' Ef_callW [false, false, true, true] rfl rfl ent_10 rfl rfl rfl (fun w hp hp2 => hsend w _ hp2 (hp.rowOf ?q1) (hp.apartS [false, false, true, true] rfl rfl (A := .row 38 1 (.slice (some ⟨b2, 0, none⟩) 1 1) 1 [pV x0]) ?q2 (.head _)) (hp.ins_bag (ps := l) ?q3 x0 hxm) (fun h => hp.apartS [false, false, true, true] rfl rfl (A := bag (l.map bP)) ?q4 (bag_foot hxm (hp.ins_bag (ps := l) ?q5 x0 hxm) h))) ?_); (case q1 => (repeat (first | exact .head _ | apply List.Mem.tail))); (case q2 => (repeat (first | exact .head _ | apply List.Mem.tail))); (case q3 => (repeat (first | exact .head _ | apply List.Mem.tail))); (case q4 => (repeat (first | exact .head _ | apply List.Mem.tail))); (case q5 => (repeat (first | exact .head _ | apply List.Mem.tail)))); rintro ns hns) | refine Ef_callT [false, false, true, true] rfl rfl ent_10 rfl rfl rfl (fun w hp => hsendF w _ hp) ?_))))
      | (first | ((((refine' Ef_appG_row (xs := ns.flatMap pE) (news := [pV (x.1, (A1, c1))]) rfl rfl rfl ?q1 ?q2 ?q3 (pE_one (x.1, (A1, c1))) ?q4 ?q5 ?_); (case q1 => exact app_of rfl); (case q2 => (first | exact at0 | exact at1 | exact at2 | exact at3 | exact at4 | exact at5 | exact at6)); (case q3 => (repeat (first | exact .head _ | apply List.Mem.tail))); (case q4 => omega); (case q5 => omega))); (first | ((fail_if_success have := A1); intro A1 c1) | intro _ _)))
      | refine w1 ?_
      | (refine w2 ?_ ?_ <;> intro hc)
      | (refine w4 ?_; (first | ((fail_if_success have := b1); intro b1) | ((fail_if_success have := b2); intro b2) | intro _))
      | (refine w5 ?_; (first | ((fail_if_success have := A1); intro A1 c1) | intro _ _))
      | refine w3 ?_ ?_
      | fail_if_success skip)
  exact ret_n [nO b c, chA c [], bag []] (res1 rfl rfl) (by (repeat (first | exact List.nil_sublist _ | refine List.Sublist.cons_cons _ ?_ | refine List.Sublist.cons _ ?_))) ⟨rfl, rfl⟩

variable (h5 : ∀ p ∈ l, p.1.length ≤ 140737488355328)
include h5
set_option maxHeartbeats 2000000 in
theorem double_c (k : Int) (hll : l.length + 1 ≤ 4096) (x0 : Pk) (h0 : l[plc k l.length]? = some x0) : Sp Try.prog 11 [.pointer (some ⟨b, 0, none⟩), .int .i64 k] w R fun v N => ∃ ns : List Pk, ns.map (·.1) = [x0.1] ∧ v = .int .i64 0 ∧ N = [nO b c, chA c (l ++ ns), bag ((l ++ ns).map bP)] := by
  have hxm := List.mem_of_getElem? h0
  have hround := fun t v1 w R (hp : Hp w R [.blk t (.cells #[v1] 38 (0, 0)), nO b c, chA c l] w) => Sp.part (Res' := fun v N => v = .int .i64 0 ∧ N = [.blk t (.cells #[pV x0] 38 (0, 0)), nO b c, chA c l]) (round_c b c t 25 true ent_25 (clo25_c t) k l v1 w R (hp.ofPart (by (repeat (first | exact Part.nil | refine Part.p0 ?_ | refine Part.p1 ?_ | refine Part.p2 ?_ | refine Part.p3 ?_ | refine Part.p4 ?_ | refine Part.p5 ?_ | refine Part.p6 ?_)))) (by omega) x0 h0) (fun v N ⟨h1, h2⟩ => ⟨[.blk t (.cells #[pV x0] 38 (0, 0)), nO b c, chA c l], by subst h2; rw [kept_t]; (repeat (first | exact Part.nil | refine Part.p0 ?_ | refine Part.p1 ?_ | refine Part.p2 ?_ | refine Part.p3 ?_ | refine Part.p4 ?_ | refine Part.p5 ?_ | refine Part.p6 ?_)), h1, rfl⟩)
  have hsend := fun w R hp {A : Option Addr} {cap : Nat} h1 h2 h3 h4 => send_c b c w R l hp A cap [x0] h1 h2 (fun x hx => by rw [List.mem_singleton.1 hx]; exact h3) (fun x hx => by rw [List.mem_singleton.1 hx]; exact h4) (fun x hx => by rw [List.mem_singleton.1 hx]; exact h5 x0 hxm) hll
  refine Sp.mem (Res := fun v N => ∃ ns : List Pk, ns.map (·.1) = [x0.1] ∧ v = .int .i64 0 ∧ N = [bag (ns.map bP), nO b c, chA c (l ++ ns), bag (l.map bP)]) ?_ (fun v N ⟨ns, h1, h2, h3⟩ => ⟨_, fun w' h => ?_, ns, h1, h2, rfl⟩)
  · refine Sp.enter (n := 18) Try.func11 rfl rfl rfl hp ?_
    repeat' (first
        | ((with_reducible refine ie_callf ?_); (first
        | ((with_reducible refine g_call 24 ?_); (first | refine Ef_callT [true, true, true] rfl rfl ent_24 rfl rfl rfl (fun w hp => hround b1 _ w _ hp) ?_))
        | ((with_reducible refine g_call 10 ?_); (first | (((refine' Ef_callW [false, false, true, true] rfl rfl ent_10 rfl rfl rfl (fun w hp hp2 => hsend w _ hp2 (hp.rowOf ?q1) (hp.apartS [false, false, true, true] rfl rfl (A := .row 38 1 (.slice (some ⟨b2, 0, none⟩) 1 1) 1 [pV x0]) ?q2 (.head _)) (hp.ins_bag (ps := l) ?q3 x0 hxm) (fun h => hp.apartS [false, false, true, true] rfl rfl (A := bag (l.map bP)) ?q4 (bag_foot hxm (hp.ins_bag (ps := l) ?q5 x0 hxm) h))) ?_); (case q1 => (repeat (first | exact .head _ | apply List.Mem.tail))); (case q2 => (repeat (first | exact .head _ | apply List.Mem.tail))); (case q3 => (repeat (first | exact .head _ | apply List.Mem.tail))); (case q4 => (repeat (first | exact .head _ | apply List.Mem.tail))); (case q5 => (repeat (first | exact .head _ | apply List.Mem.tail)))); rintro ns hns) | refine Ef_callT [false, false, true, true] rfl rfl ent_10 rfl rfl rfl (fun w hp => hsendF w _ hp) ?_))))
        | (first | ((((refine' Ef_appG_row (xs := ns.flatMap pE) (news := [pV (x.1, (A1, c1))]) rfl rfl rfl ?q1 ?q2 ?q3 (pE_one (x.1, (A1, c1))) ?q4 ?q5 ?_); (case q1 => exact app_of rfl); (case q2 => (first | exact at0 | exact at1 | exact at2 | exact at3 | exact at4 | exact at5 | exact at6)); (case q3 => (repeat (first | exact .head _ | apply List.Mem.tail))); (case q4 => omega); (case q5 => omega))); (first | ((fail_if_success have := A1); intro A1 c1) | intro _ _)))
        | refine w1 ?_
        | (refine w2 ?_ ?_ <;> intro hc)
        | (refine w4 ?_; (first | ((fail_if_success have := b1); intro b1) | ((fail_if_success have := b2); intro b2) | intro _))
        | (refine w5 ?_; (first | ((fail_if_success have := A1); intro A1 c1) | intro _ _))
        | refine w3 ?_ ?_
        | fail_if_success skip)
    exact ret_n [bag (ns.map bP), nO b c, chA c (l ++ ns), bag (l.map bP)] (res1 rfl rfl) (by (repeat (first | exact List.nil_sublist _ | refine List.Sublist.cons_cons _ ?_ | refine List.Sublist.cons _ ?_))) ⟨ns, hns, rfl, rfl⟩
  · subst h3
    rw [List.map_append]
    exact ((h.ofPart (M' := [bag (l.map bP), bag (ns.map bP), nO b c, chA c (l ++ ns)]) (by (repeat (first | exact Part.nil | refine Part.p0 ?_ | refine Part.p1 ?_ | refine Part.p2 ?_ | refine Part.p3 ?_ | refine Part.p4 ?_ | refine Part.p5 ?_ | refine Part.p6 ?_)))).bagApp).ofPart (by (repeat (first | exact Part.nil | refine Part.p0 ?_ | refine Part.p1 ?_ | refine Part.p2 ?_ | refine Part.p3 ?_ | refine Part.p4 ?_ | refine Part.p5 ?_ | refine Part.p6 ?_)))
set_option maxHeartbeats 4000000 in
theorem all_c (hll : l.length ≤ 4096) : Sp Try.prog 16 [.pointer (some ⟨b, 0, none⟩)] w R fun v N => ∃ y : Hd × List Pk, y.2.map (·.1) = l.map (·.1) ∧ v = .slice y.1.1 y.2.length y.1.2 ∧ N = [rP y.2 y.1, bag (y.2.map bP), nO b c, chA c l, bag (l.map bP)] := by
  refine Sp.enter (n := 25) Try.func16 rfl rfl rfl hp ?_
  refine T.mem (fun _ h => h.bagNil) ?_
  refine T.row0 38 1 ?_
  repeat' (first
      | ((with_reducible refine ie_callf ?_); (first
      | ((with_reducible refine g_call 12 ?_); (first | refine Ef_callT [true, true] rfl rfl ent_12 rfl rfl rfl (fun w hp => hlen w _ hp) ?_ | refine Ef_callT [false, false, true, true] rfl rfl ent_12 rfl rfl rfl (fun w hp => len_c b c w _ l hp) ?_))
      | ((with_reducible refine g_call 27 ?_); (first | refine Ef_callT [false, false, true, true] rfl rfl ent_27 rfl rfl rfl (fun w hp => get_c b c w _ x (l.drop (i + 1) ++ l.take i) hp) ?_))
      | ((with_reducible refine g_call 23 ?_); (first | (((refine' Ef_callN rfl rfl ent_23 (fun w hp => clone_c x w (hp.ins_bag (ps := l) ?q1 x (mem_of_some hx)) (h5 x (mem_of_some hx))) ?_); (case q1 => (repeat (first | exact .head _ | apply List.Mem.tail)))); rintro ⟨A1, c1⟩)))
      | ((with_reducible refine g_call 22 ?_); (first | refine Ef_callT [false, false, true, true] rfl rfl ent_22 rfl rfl rfl (fun w hp => put_c b c w _ (l.drop (i + 1) ++ l.take i) x hp hroom) ?_ | refine Ef_callT [false, false, false, true, true] rfl rfl ent_22 rfl rfl rfl (fun w hp => put_c b c w _ (l.drop (i + 1) ++ l.take i) x hp hroom) ?_))))
      | (first | ((((refine' Ef_appG_row (xs := ns.flatMap pE) (news := [pV (x.1, (A1, c1))]) rfl rfl rfl ?q1 ?q2 ?q3 (pE_one (x.1, (A1, c1))) ?q4 ?q5 ?_); (case q1 => exact app_of rfl); (case q2 => (first | exact at0 | exact at1 | exact at2 | exact at3 | exact at4 | exact at5 | exact at6)); (case q3 => (repeat (first | exact .head _ | apply List.Mem.tail))); (case q4 => omega); (case q5 => omega))); (first | ((fail_if_success have := A1); intro A1 c1) | ((fail_if_success have := A2); intro A2 c2) | intro _ _)))
      | refine w1 ?_
      | (refine w2 ?_ ?_ <;> intro hc)
      | (refine w4 ?_; (intro _))
      | (refine w5 ?_; (first | ((fail_if_success have := A1); intro A1 c1) | ((fail_if_success have := A2); intro A2 c2) | intro _ _))
      | refine w3 ?_ ?_
      | fail_if_success skip)
  refine T.loopM (α := Nat × (Option Addr × Nat) × List Pk) (fun z => [(0, .pointer (some ⟨b, 0, none⟩)), (3, .slice z.2.1.1 z.2.2.length z.2.1.2), (7, .int .i64 (l.length : Int)), (8, .int .i64 (z.1 : Int))]) (fun z => [.row 38 1 (.slice z.2.1.1 z.2.2.length z.2.1.2) z.2.2.length (z.2.2.flatMap pE), bag (z.2.2.map bP), nO b c, chA c (l.drop z.1 ++ l.take z.1), bag (l.map bP)])
    (fun z => z.1 ≤ l.length ∧ z.2.2.map (·.1) = (l.take z.1).map (·.1)) (fun z => l.length - z.1) (0, (none, 0), []) ?_ ?_ ?_ ?_
  · (repeat (first | exact Sub.nil | refine Sub.cons rfl ?_))
  · intro w' h
    dsimp only
    rw [List.drop_zero, List.take_zero, List.append_nil]
    exact h.ofPart (by (repeat (first | exact Part.nil | refine Part.p0 ?_ | refine Part.p1 ?_ | refine Part.p2 ?_ | refine Part.p3 ?_ | refine Part.p4 ?_ | refine Part.p5 ?_ | refine Part.p6 ?_)))
  · exact ⟨Nat.zero_le _, rfl⟩
  · rintro ⟨i, ⟨A0, c0⟩, ns⟩ ⟨hi, hns⟩
    dsimp only at hi hns ⊢
    have hnl : ns.length = i := by have := congrArg List.length hns; simpa [Nat.min_eq_left hi] using this
    by_cases hlt : i < l.length
    · obtain ⟨x, hx⟩ := some_of_lt (l := l) (i := i) hlt
      rw [drop_at hx, List.cons_append]
      have hroom : (l.drop (i + 1) ++ l.take i).length < 4096 := by rw [List.length_append, List.length_drop, List.length_take]; omega
      repeat' (first
          | ((with_reducible refine ie_callf ?_); (first
          | ((with_reducible refine g_call 12 ?_); (first | refine Ef_callT [true, true] rfl rfl ent_12 rfl rfl rfl (fun w hp => hlen w _ hp) ?_ | refine Ef_callT [false, false, true, true] rfl rfl ent_12 rfl rfl rfl (fun w hp => len_c b c w _ l hp) ?_))
          | ((with_reducible refine g_call 27 ?_); (first | refine Ef_callT [false, false, true, true] rfl rfl ent_27 rfl rfl rfl (fun w hp => get_c b c w _ x (l.drop (i + 1) ++ l.take i) hp) ?_))
          | ((with_reducible refine g_call 23 ?_); (first | (((refine' Ef_callN rfl rfl ent_23 (fun w hp => clone_c x w (hp.ins_bag (ps := l) ?q1 x (mem_of_some hx)) (h5 x (mem_of_some hx))) ?_); (case q1 => (repeat (first | exact .head _ | apply List.Mem.tail)))); rintro ⟨A1, c1⟩)))
          | ((with_reducible refine g_call 22 ?_); (first | refine Ef_callT [false, false, true, true] rfl rfl ent_22 rfl rfl rfl (fun w hp => put_c b c w _ (l.drop (i + 1) ++ l.take i) x hp hroom) ?_ | refine Ef_callT [false, false, false, true, true] rfl rfl ent_22 rfl rfl rfl (fun w hp => put_c b c w _ (l.drop (i + 1) ++ l.take i) x hp hroom) ?_))))
          | (first | ((((refine' Ef_appG_row (xs := ns.flatMap pE) (news := [pV (x.1, (A1, c1))]) rfl rfl rfl ?q1 ?q2 ?q3 (pE_one (x.1, (A1, c1))) ?q4 ?q5 ?_); (case q1 => exact app_of rfl); (case q2 => (first | exact at0 | exact at1 | exact at2 | exact at3 | exact at4 | exact at5 | exact at6)); (case q3 => (repeat (first | exact .head _ | apply List.Mem.tail))); (case q4 => omega); (case q5 => omega))); (first | ((fail_if_success have := A1); intro A1 c1) | ((fail_if_success have := A2); intro A2 c2) | intro _ _)))
          | refine w1 ?_
          | (refine w2 ?_ ?_ <;> intro hc)
          | (refine w4 ?_; (intro _))
          | (refine w5 ?_; (first | ((fail_if_success have := A1); intro A1 c1) | ((fail_if_success have := A2); intro A2 c2) | intro _ _))
          | refine w3 ?_ ?_
          | fail_if_success skip)
      refine loopH_n (i + 1, (A2, c2), ns ++ [(x.1, (A1, c1))]) ?_ (fun w' h => ?_) ⟨show i + 1 ≤ _ by omega, by dsimp only; rw [take_snoc hx, List.map_append, List.map_append, hns]; rfl⟩ (show l.length - (i + 1) < l.length - i by omega)
      · rw [List.length_append]; (repeat (first | exact Sub.nil | refine Sub.cons rfl ?_))
      · dsimp only
        rw [List.length_append, pE_snoc, List.map_append, take_snoc hx, ← List.append_assoc]
        exact ((h.ofPart (M' := [bP (x.1, (A1, c1)), bag (ns.map bP), .row 38 1 (.slice A2 (ns.length + 1) c2) (ns.length + 1) (ns.flatMap pE ++ [pV (x.1, (A1, c1))]), nO b c, chA c (l.drop (i + 1) ++ l.take i ++ [x]), bag (l.map bP)]) (by (repeat (first | exact Part.nil | refine Part.p0 ?_ | refine Part.p1 ?_ | refine Part.p2 ?_ | refine Part.p3 ?_ | refine Part.p4 ?_ | refine Part.p5 ?_ | refine Part.p6 ?_)))).bagAdd).ofPart (by (repeat (first | exact Part.nil | refine Part.p0 ?_ | refine Part.p1 ?_ | refine Part.p2 ?_ | refine Part.p3 ?_ | refine Part.p4 ?_ | refine Part.p5 ?_ | refine Part.p6 ?_)))
    · obtain rfl : i = l.length := by omega
      rw [List.drop_length, List.take_length, List.nil_append]
      rw [List.take_length] at hns
      repeat' (first
          | ((with_reducible refine ie_callf ?_); (first
          | ((with_reducible refine g_call 12 ?_); (first | refine Ef_callT [true, true] rfl rfl ent_12 rfl rfl rfl (fun w hp => hlen w _ hp) ?_ | refine Ef_callT [false, false, true, true] rfl rfl ent_12 rfl rfl rfl (fun w hp => len_c b c w _ l hp) ?_))
          | ((with_reducible refine g_call 27 ?_); (first | refine Ef_callT [false, false, true, true] rfl rfl ent_27 rfl rfl rfl (fun w hp => get_c b c w _ x (l.drop (i + 1) ++ l.take i) hp) ?_))
          | ((with_reducible refine g_call 23 ?_); (first | (((refine' Ef_callN rfl rfl ent_23 (fun w hp => clone_c x w (hp.ins_bag (ps := l) ?q1 x (mem_of_some hx)) (h5 x (mem_of_some hx))) ?_); (case q1 => (repeat (first | exact .head _ | apply List.Mem.tail)))); rintro ⟨A1, c1⟩)))
          | ((with_reducible refine g_call 22 ?_); (first | refine Ef_callT [false, false, true, true] rfl rfl ent_22 rfl rfl rfl (fun w hp => put_c b c w _ (l.drop (i + 1) ++ l.take i) x hp hroom) ?_ | refine Ef_callT [false, false, false, true, true] rfl rfl ent_22 rfl rfl rfl (fun w hp => put_c b c w _ (l.drop (i + 1) ++ l.take i) x hp hroom) ?_))))
          | (first | ((((refine' Ef_appG_row (xs := ns.flatMap pE) (news := [pV (x.1, (A1, c1))]) rfl rfl rfl ?q1 ?q2 ?q3 (pE_one (x.1, (A1, c1))) ?q4 ?q5 ?_); (case q1 => exact app_of rfl); (case q2 => (first | exact at0 | exact at1 | exact at2 | exact at3 | exact at4 | exact at5 | exact at6)); (case q3 => (repeat (first | exact .head _ | apply List.Mem.tail))); (case q4 => omega); (case q5 => omega))); (first | ((fail_if_success have := A1); intro A1 c1) | ((fail_if_success have := A2); intro A2 c2) | intro _ _)))
          | refine w1 ?_
          | (refine w2 ?_ ?_ <;> intro hc)
          | (refine w4 ?_; (intro _))
          | (refine w5 ?_; (first | ((fail_if_success have := A1); intro A1 c1) | ((fail_if_success have := A2); intro A2 c2) | intro _ _))
          | refine w3 ?_ ?_
          | fail_if_success skip)
      exact ret_n [rP ns (A0, c0), bag (ns.map bP), nO b c, chA c l, bag (l.map bP)] (res1 rfl rfl) (by unfold rP; (repeat (first | exact List.nil_sublist _ | refine List.Sublist.cons_cons _ ?_ | refine List.Sublist.cons _ ?_))) ⟨((A0, c0), ns), hns, rfl, rfl⟩
end
end Go.Proofs.Ytdbpnolpgkcjiaa
