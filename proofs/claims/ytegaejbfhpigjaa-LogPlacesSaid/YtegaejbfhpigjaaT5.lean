/- copies; what an iterator over copies is collected to. -/
import Derived.Test.YtegaejbfhpigjaaT4
namespace Go.Proofs.Ytegaejbfhpigjaa
open Go.RowKit
set_option maxRecDepth 20000

section
variable {P : Program} {n : Nat} {w0 : World} {R : List Nat} {L : List (Nat × Value)} {M : List Asrt} {ty : TypeId} {K : List (Nat × Value) → List Asrt → Prop}
/-- A callee that leaves new things of which more is known. -/
theorem Ef_callNX {f : FuncId} {args : Array Operand} {ats : Array TypeId} {vals : List Value} {d : Nat} {β : Type} {V : β → Value} {N0 : β → List Asrt} {φ : β → Prop} (hd : Nat.blt d n = true) (ha : evls L args.toList = some vals) (hen : Enters P f)
    (hc : ∀ w, Hp w0 R M w → Sp P f vals w [] (fun v N => ∃ z : β, φ z ∧ v = V z ∧ N = N0 z)) (h : ∀ z, φ z → K ((d, V z) :: L) (N0 z ++ M)) : Ef P n w0 R (some d) (.call { callee := .value (.func f), args := args, argTypes := ats }) ty L M K :=
  Ef_call hd ha hen hc fun v N ⟨z, h0, h1, h2⟩ => by subst h1 h2; exact h z h0
end

theorem copies_c (v : Value) (hv : v.oneCell' = true) (w : World) : Sp Try.prog 39 [v] w [] fun u N => ∃ b : Nat, u = .func (.func 47) #[] #[.pointer (some ⟨b, 0, none⟩)] ∧ N = [.blk b (.cells #[v] 24 (0, 0))] := by
  refine Sp.enter (n := 4) Try.func39 rfl rfl rfl (Hp.refl w) ?_
  refine T.seq ?_
  refine T.region ?_
  refine TL_e ?_
  refine ie_box ?_
  refine Ef_box1 rfl rfl hv fun b1 => ?_
  repeat' (first       | (first | ((((refine' Ef_appG_row (news := mE _) rfl rfl rfl ?q1 ?q2 ?q3 (mE_one _) ?q4 ?q5 ?_); (case q1 => exact app_of rfl); (case q2 => (first | exact at0 | exact at1 | exact at2 | exact at3 | exact at4 | exact at5 | exact at6)); (case q3 => (repeat (first | exact .head _ | apply List.Mem.tail))); (case q4 => omega); (case q5 => omega))); (intro _ _)))  | refine w1 ?_ | (refine w2 ?_ ?_ <;> intro hc)  | (refine w4 ?_; (first | ((fail_if_success have := b1); intro b1) | intro _)) | (refine w5 ?_; (intro _ _)) | refine w3 ?_ ?_ | fail_if_success skip)
  exact ret_n [.blk b1 (.cells #[v] 24 (0, 0))] (res1 rfl rfl) (by (repeat (first | exact List.nil_sublist _ | refine List.Sublist.cons_cons _ ?_ | refine List.Sublist.cons _ ?_))) ⟨b1, rfl, rfl⟩

section
variable (bt : Nat) (A : Option Addr) (len cap : Nat) (l : List Me) (w : World)
variable (hbt : w.heap[bt]? = some (.cells #[.slice A len cap] 24 (0, 0))) (hr : Rd w A len 5 (l.flatMap mE)) (hl : l.length = len) (hle : len ≤ 300) (hin : Ins w l) (h5 : ∀ x ∈ l, x.1.body.length ≤ 6000)
include hbt hr hl hle hin h5
set_option maxHeartbeats 4000000 in
theorem aseq_c : Sp Try.prog 46 [.slice none 0 0, .func (.func 47) #[] #[.pointer (some ⟨bt, 0, none⟩)]] w [] fun v N => ∃ y : Hd × List Me, y.2.map (·.1) = l.map (·.1) ∧ v = .slice y.1.1 y.2.length y.1.2 ∧ N = [rM y.2 y.1, bag (y.2.map bA)] := by
  refine Sp.enterM (n := 13) Try.func46 rfl rfl rfl (Hp.refl w) fun a hk => ?_
  refine TW.run (M := []) ?_ a w hk (Hp.refl w)
  refine TW.mem (fun _ h => h.bagNil) ?_
  refine TW.mem (fun _ h => h.row0 27 5) ?_
  refine TW.seq ?_
  refine T.region ?_
  refine TL_e ?_
  refine ie_box ?_
  refine Ef_box1 rfl rfl rfl fun b1 => ?_
  repeat' (first
      | ((with_reducible refine ie_store ?_); (first | ((refine' Ef_storeA' rfl rfl ?q1 (mE_one _) ?q2 ?q3 ?_); (case q1 => exact siz_of rfl); (case q2 => (first | exact at0 | exact at1 | exact at2 | exact at3 | exact at4 | exact at5 | exact at6)); (case q3 => rfl))))
      | (first | ((((refine' Ef_appG_row (news := mE _) rfl rfl rfl ?q1 ?q2 ?q3 (mE_one _) ?q4 ?q5 ?_); (case q1 => exact app_of rfl); (case q2 => (first | exact at0 | exact at1 | exact at2 | exact at3 | exact at4 | exact at5 | exact at6)); (case q3 => (repeat (first | exact .head _ | apply List.Mem.tail))); (case q4 => omega); (case q5 => omega))); (first | ((fail_if_success have := A1); intro A1 c1) | ((fail_if_success have := A2); intro A2 c2) | intro _ _)))
      | refine w1 ?_
      | (refine w2 ?_ ?_ <;> intro hc)
      | (refine w4 ?_; (first | ((fail_if_success have := b1); intro b1) | ((fail_if_success have := b2); intro b2) | intro _))
      | (refine w5 ?_; (first | ((fail_if_success have := A1); intro A1 c1) | ((fail_if_success have := A2); intro A2 c2) | intro _ _))
      | refine w3 ?_ ?_
      | fail_if_success skip)
  refine mixQ_n ?_
  refine TW.seqW ?_
  refine TW.seq ?_
  repeat' (first
      | ((with_reducible refine ie_store ?_); (first | ((refine' Ef_storeA' rfl rfl ?q1 (mE_one _) ?q2 ?q3 ?_); (case q1 => exact siz_of rfl); (case q2 => (first | exact at0 | exact at1 | exact at2 | exact at3 | exact at4 | exact at5 | exact at6)); (case q3 => rfl))))
      | (first | ((((refine' Ef_appG_row (news := mE _) rfl rfl rfl ?q1 ?q2 ?q3 (mE_one _) ?q4 ?q5 ?_); (case q1 => exact app_of rfl); (case q2 => (first | exact at0 | exact at1 | exact at2 | exact at3 | exact at4 | exact at5 | exact at6)); (case q3 => (repeat (first | exact .head _ | apply List.Mem.tail))); (case q4 => omega); (case q5 => omega))); (first | ((fail_if_success have := A1); intro A1 c1) | ((fail_if_success have := A2); intro A2 c2) | intro _ _)))
      | refine w1 ?_
      | (refine w2 ?_ ?_ <;> intro hc)
      | (refine w4 ?_; (first | ((fail_if_success have := b1); intro b1) | ((fail_if_success have := b2); intro b2) | intro _))
      | (refine w5 ?_; (first | ((fail_if_success have := A1); intro A1 c1) | ((fail_if_success have := A2); intro A2 c2) | intro _ _))
      | refine w3 ?_ ?_
      | fail_if_success skip)
  refine mixQ_n ?_
  refine TW.block ?_
  refine .mk fun a wq hk hp => range_wp 300 (σ := Hd × List Me) (β := Me) (p := 7) (gf := 47) (fun x => [bA x]) (fun x => .agg (mE x).toArray) (·.2) (fun s => [.blk b1 (.cells #[.slice s.1.1 s.2.length s.1.2] 24 (0, 0)), rM s.2 s.1, bag (s.2.map bA)]) [] ((none, 0), [])
    (fun s => ∃ ys, s.2 = [] ++ ys ∧ ys.map (·.1) = l.map (·.1)) hk (hp.ofPart (by unfold rM; (repeat (first | exact Part.nil | refine Part.p0 ?_ | refine Part.p1 ?_ | refine Part.p2 ?_ | refine Part.p3 ?_ | refine Part.p4 ?_ | refine Part.p5 ?_ | refine Part.p6 ?_)))) rfl ent_47 rfl ?iter ?round ?post
  case iter =>
    rintro ly G' wr ⟨N, hN⟩ hY hp2
    have h0 : ∀ k, k < w.heap.size → k ∉ (G' ((none, 0), [])).flatMap Asrt.foot := fun k hk => hp2.notIn hk
    exact iter_c ly bt A len cap l (·.2) G' ((none, 0), []) wr (hp2.blk_old hbt List.not_mem_nil) (h0 _ (heap_lt hbt)) (hp2.rd hr fun _ => List.not_mem_nil) (fun h => h0 _ (hr.lt h)) hl hle (hp2.ins_old hin) (fun x hx h => h0 _ ((hin x hx).lt h)) h5 (hp2.weaken (List.sublist_append_left _ _)).self 300 (by simpa using hle) hY
  case round =>
    rintro ly D W ⟨⟨A1, c1⟩, ms⟩ x rc rc' hlen
    dsimp only at hlen
    dsimp only
    have oX := fun z => mE_one (x.1, z)
    refine TR.region rfl ?_
    refine TL_e ?_
    refine ie_alloc ?_
    refine Ef_alloc rfl (by exact zer_of rfl) fun b2 => ?_
    repeat' (first
        | ((with_reducible refine ie_store ?_); (first | ((refine' Ef_storeA' rfl rfl ?q1 (mE_one _) ?q2 ?q3 ?_); (case q1 => exact siz_of rfl); (case q2 => (first | exact at0 | exact at1 | exact at2 | exact at3 | exact at4 | exact at5 | exact at6)); (case q3 => rfl))))
        | (first | ((((refine' Ef_appG_row (news := mE _) rfl rfl rfl ?q1 ?q2 ?q3 (mE_one _) ?q4 ?q5 ?_); (case q1 => exact app_of rfl); (case q2 => (first | exact at0 | exact at1 | exact at2 | exact at3 | exact at4 | exact at5 | exact at6)); (case q3 => (repeat (first | exact .head _ | apply List.Mem.tail))); (case q4 => omega); (case q5 => omega))); (first | ((fail_if_success have := A1); intro A1 c1) | ((fail_if_success have := A2); intro A2 c2) | intro _ _)))
        | refine w1 ?_
        | (refine w2 ?_ ?_ <;> intro hc)
        | (refine w4 ?_; (first | ((fail_if_success have := b1); intro b1) | ((fail_if_success have := b2); intro b2) | intro _))
        | (refine w5 ?_; (first | ((fail_if_success have := A1); intro A1 c1) | ((fail_if_success have := A2); intro A2 c2) | intro _ _))
        | refine w3 ?_ ?_
        | fail_if_success skip)
    refine ⟨rfl, [.blk b2 (.cells (mE x).toArray 27 (0, 0)), bA x, .blk b1 (.cells #[.slice A1 ms.length c1] 24 (0, 0)), rM ms (A1, c1), bag (ms.map bA)], rfl, ?_⟩
    refine TR.block ?_
    refine TR.region rfl ?_
    repeat' (first
        | ((with_reducible refine ie_store ?_); (first | ((refine' Ef_storeA' rfl rfl ?q1 (mE_one _) ?q2 ?q3 ?_); (case q1 => exact siz_of rfl); (case q2 => (first | exact at0 | exact at1 | exact at2 | exact at3 | exact at4 | exact at5 | exact at6)); (case q3 => rfl))))
        | (first | ((((refine' Ef_appG_row (news := mE _) rfl rfl rfl ?q1 ?q2 ?q3 (mE_one _) ?q4 ?q5 ?_); (case q1 => exact app_of rfl); (case q2 => (first | exact at0 | exact at1 | exact at2 | exact at3 | exact at4 | exact at5 | exact at6)); (case q3 => (repeat (first | exact .head _ | apply List.Mem.tail))); (case q4 => omega); (case q5 => omega))); (first | ((fail_if_success have := A1); intro A1 c1) | ((fail_if_success have := A2); intro A2 c2) | intro _ _)))
        | refine w1 ?_
        | (refine w2 ?_ ?_ <;> intro hc)
        | (refine w4 ?_; (first | ((fail_if_success have := b1); intro b1) | ((fail_if_success have := b2); intro b2) | intro _))
        | (refine w5 ?_; (first | ((fail_if_success have := A1); intro A1 c1) | ((fail_if_success have := A2); intro A2 c2) | intro _ _))
        | refine w3 ?_ ?_
        | fail_if_success skip)
    refine ⟨rfl, ((A2, c2), ms ++ [x]), rfl, fun w' hp' => ?_⟩
    have hp2 := (hp'.ofPart (M' := [bA x, bag (ms.map bA), .blk b1 (.cells #[.slice A2 (ms.length + 1) c2] 24 (0, 0)), .row 27 5 (.slice A2 (ms.length + 1) c2) (ms.length + 1) (ms.flatMap mE ++ mE x)] ++ recs ly D rc') (by (repeat (first | exact Part.nil | refine Part.p0 ?_ | refine Part.p1 ?_ | refine Part.p2 ?_ | refine Part.p3 ?_ | refine Part.p4 ?_ | refine Part.p5 ?_ | refine Part.p6 ?_)))).bagAdd
    dsimp only
    unfold rM
    rw [List.length_append, mE_snoc, List.map_append]
    exact hp2.ofPart (by (repeat (first | exact Part.nil | refine Part.p0 ?_ | refine Part.p1 ?_ | refine Part.p2 ?_ | refine Part.p3 ?_ | refine Part.p4 ?_ | refine Part.p5 ?_ | refine Part.p6 ?_)))
  case post =>
    rintro D ⟨⟨A1, c1⟩, ms⟩ wr ⟨ys, hys, hym⟩ hp2
    dsimp only at hys
    rw [List.nil_append] at hys
    subst hys
    show (Code.seq _ _).wp _ _ _ _
    refine wp_seq (wp_region_lit (TD.run ?_ _ wr ⟨hk.bare D, rfl⟩ hp2))
    refine TD_y rfl ⟨_, Yl_load_blk rfl (by exact one_of rfl) (by (repeat (first | exact .head _ | apply List.Mem.tail))) rfl, ?_⟩
    refine TD_y rfl ⟨_, Yl_assign rfl, ?_⟩
    refine TD_nil fun a w hk hp => ?_
    exact wp_ret (retD (.inr rfl) [rM ms (A1, c1), bag (ms.map bA)] hk (hp.ofPart (by (repeat (first | exact Part.nil | refine Part.p0 ?_ | refine Part.p1 ?_ | refine Part.p2 ?_ | refine Part.p3 ?_ | refine Part.p4 ?_ | refine Part.p5 ?_ | refine Part.p6 ?_)))) (res1 rfl rfl) ⟨((A1, c1), ms), hym, rfl, rfl⟩)
end
end Go.Proofs.Ytegaejbfhpigjaa
