/- Put, Swap, Del, List, Used of a space: what a call of each comes to. -/
import Derived.Test.YtimmabejfigleaaT3
namespace Go.Proofs.Ytimmabejfigleaa
open Go.RowKit
set_option maxRecDepth 20000

def kE (s : ByteArray) : List Value := [.string s]
theorem kE_len (x : ByteArray) : (kE x).length = 1 := rfl
theorem kE_one (x : ByteArray) : ∀ u ∈ kE x, u.oneCell' = true := fun u hu => by
  simp [kE] at hu
  subst hu; rfl
theorem kE_snoc (l : List ByteArray) (x : ByteArray) : (l ++ [x]).flatMap kE = l.flatMap kE ++ [.string x] := by simp [kE]
theorem pE_snoc (l : List Pr) (x : Pr) : (l ++ [x]).flatMap pE = l.flatMap pE ++ pE x := by simp
/-- A row of keys. -/
def rK (l : List ByteArray) (z : Option Addr × Nat) : Asrt := .row 9 1 (.slice z.1 l.length z.2) l.length (l.flatMap kE)
def Ks.listR (k y : Int) (l : List Pr) (f : ByteArray) (n : Int) : List ByteArray := if Ks.may k y l = true then ((Ks.ge l f).map (·.1)).take n.toNat else []

theorem hwi_of {key v : ByteArray} {b : Nat} {w : World} (h : Rd w (some ⟨b, 0, none⟩) 1 2 (pE (key, v)).toArray.toList) : Rd w (some ⟨b, 0, none⟩) 1 2 ([(key, v)].flatMap pE) := by simpa using h

section
variable (A : Option Addr) (len cap : Nat) (l : List Pr) (w : World) (hr : Rd w A len 2 (l.flatMap pE)) (hl : l.length = len) (hlc : len ≤ cap) (hle : len ≤ 300)
include hr hl hlc hle
set_option maxHeartbeats 2000000 in
theorem put_c (k y : Int) (key v : ByteArray) : Sp Try.prog 21 [.agg (sV k y (A, cap) len), .string key, .string v] w [] fun r N => ∃ z : Option Addr × Nat, r = .tuple #[.agg (sV (Ks.putR k y l key v).1 (Ks.putR k y l key v).2.1 z (Ks.putR k y l key v).2.2.1.length), .int .i64 (Ks.putR k y l key v).2.2.2] ∧ N = [rP (Ks.putR k y l key v).2.2.1 z] := by
  cases hb : (Ks.may k y l && Ks.pr (key, v)) with
  | false =>
    have en : Ks.putR k y l key v = (0, 0, [], 2) := by unfold Ks.putR; rw [hb]; rfl
    rw [en]
    have hlk := fun w h => look_f A len cap l w h hl hle k y (key, v) hb
    refine Sp.enter (n := 39) Try.func21 rfl rfl rfl (Hp.refl w) ?_
    refine T.row0e 57 2 ?_
    repeat' (first
        | ((with_reducible refine is_build ?_); (first | refine ⟨_, Yl_build rfl (p_build1 _), ?_⟩ | refine ⟨_, Yl_build rfl (p_build2 _ _), ?_⟩ | refine ⟨_, Yl_build rfl s_build0, ?_⟩))
        | ((with_reducible refine ie_callf ?_); (first    | ((with_reducible refine g_call 37 ?_); (first | refine Ef_callP rfl rfl ent_37 (fun w hp => hlk w (hp.rd hr fun _ => List.not_mem_nil)) ?_)) | ((with_reducible refine g_call 39 ?_); (first | (((refine' Ef_callN rfl rfl ent_39 (fun w hp => hwi _ w (hp.rd hr fun _ => List.not_mem_nil) (hp.rowOf ?q1)) ?_); (case q1 => (repeat (first | exact .head _ | apply List.Mem.tail)))); rintro ⟨A1, c1⟩) | ((refine' Ef_callP rfl rfl ent_39 (fun w hp => hwi _ w (hp.rd hr fun _ => List.not_mem_nil) (hp.rowOf ?q1)) ?_); (case q1 => (repeat (first | exact .head _ | apply List.Mem.tail)))) | (refine Ef_callN rfl rfl ent_39 (fun w hp => hwd w (hp.rd hr fun _ => List.not_mem_nil)) ?_; rintro ⟨A1, c1⟩)))))
        | refine w1 ?_
        | (refine w2 ?_ ?_ <;> intro hc)
        | (first | ((refine' ⟨_, Yl_sl_l (l := i) rfl rfl ?q1 ?q2 ?q3, ?_⟩); (case q1 => exact und_of rfl); (case q2 => exact siz_of rfl); (case q3 => omega)))
        | (refine w4 ?_; (intro _))
        | (refine w5 ?_; (first | ((fail_if_success have := A1); intro A1 c1) | intro _ _))
        | refine w3 ?_ ?_
        | fail_if_success skip)
    exact ret_n [rP [] (none, 0)] (resC1 rfl rfl rfl (by (repeat (first | exact .head _ | apply List.Mem.tail))) (agg_of rfl)) (by (repeat (first | exact List.nil_sublist _ | refine List.Sublist.cons_cons _ ?_ | refine List.Sublist.cons _ ?_))) ⟨(none, 0), rfl, rfl⟩
  | true =>
    have hb2 := hb
    rw [Bool.and_eq_true, Ks.may_iff] at hb2
    have hlk := fun w h => look_t A len cap l w h hl hle k y (key, v) hb2.1 hb2.2
    dsimp only at hlk
    have e0 : Ks.putR k y l key v = Ks.fitR k y (Ks.put l key v) := by unfold Ks.putR; rw [hb]; rfl
    have h3 := Ks.may_put hb2.1 hb2.2
    rw [e0]
    unfold Ks.fitR
    have hcase : ∃ i j : Nat, (Ks.lo l key).length = i ∧ i ≤ len ∧ j ≤ len ∧ l.take i ++ ([(key, v)] ++ l.drop j) = Ks.put l key v ∧ (((Ks.get l key).isSome = false ∧ j = i) ∨ ((Ks.get l key).isSome = true ∧ j = i + 1)) := by
      rcases Ks.get_or hb2.1.so key with ⟨h1, h4, h5, h6⟩ | ⟨v', h1, h2, h4, h5, h6, _⟩
      · have := congrArg List.length h6
        rw [List.length_append] at this
        exact ⟨_, _, rfl, by omega, by omega, by rw [h4, h5]; rfl, .inl ⟨by rw [h1]; rfl, rfl⟩⟩
      · exact ⟨_, _, rfl, by omega, by omega, by rw [h5, h6]; rfl, .inr ⟨by rw [h1]; rfl, rfl⟩⟩
    obtain ⟨i, j, e1, hi, hj, hm, hc⟩ := hcase
    rw [e1] at hlk
    have hwt := fun b w h h2 => with_t A len cap l w h hl hlc hle (some ⟨b, 0, none⟩) 1 1 [(key, v)] (hwi_of h2) rfl (by omega) i j hi hj (Ks.put l key v) hm k y
    have hwf := fun b w h h2 => with_f A len cap l w h hl hlc hle (some ⟨b, 0, none⟩) 1 1 [(key, v)] (hwi_of h2) rfl (by omega) i j hi hj (Ks.put l key v) hm k y
    cases hf : Ks.fits k y (Ks.put l key v) with
    | true =>
      have hwi := fun b w h h2 => hwt b w h h2 (h3.trans hf)
      clear hwt hwf
      rcases hc with ⟨hc, rfl⟩ | ⟨hc, rfl⟩
      all_goals
        rw [hc] at hlk
        refine Sp.enter (n := 39) Try.func21 rfl rfl rfl (Hp.refl w) ?_
        repeat' (first
            | ((with_reducible refine is_build ?_); (first | refine ⟨_, Yl_build rfl (p_build1 _), ?_⟩ | refine ⟨_, Yl_build rfl (p_build2 _ _), ?_⟩ | refine ⟨_, Yl_build rfl s_build0, ?_⟩))
            | ((with_reducible refine ie_callf ?_); (first    | ((with_reducible refine g_call 37 ?_); (first | refine Ef_callP rfl rfl ent_37 (fun w hp => hlk w (hp.rd hr fun _ => List.not_mem_nil)) ?_)) | ((with_reducible refine g_call 39 ?_); (first | (((refine' Ef_callN rfl rfl ent_39 (fun w hp => hwi _ w (hp.rd hr fun _ => List.not_mem_nil) (hp.rowOf ?q1)) ?_); (case q1 => (repeat (first | exact .head _ | apply List.Mem.tail)))); rintro ⟨A1, c1⟩) | ((refine' Ef_callP rfl rfl ent_39 (fun w hp => hwi _ w (hp.rd hr fun _ => List.not_mem_nil) (hp.rowOf ?q1)) ?_); (case q1 => (repeat (first | exact .head _ | apply List.Mem.tail)))) | (refine Ef_callN rfl rfl ent_39 (fun w hp => hwd w (hp.rd hr fun _ => List.not_mem_nil)) ?_; rintro ⟨A1, c1⟩)))))
            | refine w1 ?_
            | (refine w2 ?_ ?_ <;> intro hc)
            | (first | ((refine' ⟨_, Yl_sl_l (l := i) rfl rfl ?q1 ?q2 ?q3, ?_⟩); (case q1 => exact und_of rfl); (case q2 => exact siz_of rfl); (case q3 => omega)))
            | (refine w4 ?_; (intro _))
            | (refine w5 ?_; (first | ((fail_if_success have := A1); intro A1 c1) | intro _ _))
            | refine w3 ?_ ?_
            | fail_if_success skip)
        exact ret_n [rP (Ks.put l key v) (A1, c1)] (resC1 rfl rfl rfl (by (repeat (first | exact .head _ | apply List.Mem.tail))) (agg_of rfl)) (by (repeat (first | exact List.nil_sublist _ | refine List.Sublist.cons_cons _ ?_ | refine List.Sublist.cons _ ?_))) ⟨(A1, c1), rfl, rfl⟩
    | false =>
      have hwi := fun b w h h2 => hwf b w h h2 (h3.trans hf)
      clear hwt hwf
      rcases hc with ⟨hc, rfl⟩ | ⟨hc, rfl⟩
      all_goals
        rw [hc] at hlk
        refine Sp.enter (n := 39) Try.func21 rfl rfl rfl (Hp.refl w) ?_
        refine T.row0e 57 2 ?_
        repeat' (first
            | ((with_reducible refine is_build ?_); (first | refine ⟨_, Yl_build rfl (p_build1 _), ?_⟩ | refine ⟨_, Yl_build rfl (p_build2 _ _), ?_⟩ | refine ⟨_, Yl_build rfl s_build0, ?_⟩))
            | ((with_reducible refine ie_callf ?_); (first    | ((with_reducible refine g_call 37 ?_); (first | refine Ef_callP rfl rfl ent_37 (fun w hp => hlk w (hp.rd hr fun _ => List.not_mem_nil)) ?_)) | ((with_reducible refine g_call 39 ?_); (first | (((refine' Ef_callN rfl rfl ent_39 (fun w hp => hwi _ w (hp.rd hr fun _ => List.not_mem_nil) (hp.rowOf ?q1)) ?_); (case q1 => (repeat (first | exact .head _ | apply List.Mem.tail)))); rintro ⟨A1, c1⟩) | ((refine' Ef_callP rfl rfl ent_39 (fun w hp => hwi _ w (hp.rd hr fun _ => List.not_mem_nil) (hp.rowOf ?q1)) ?_); (case q1 => (repeat (first | exact .head _ | apply List.Mem.tail)))) | (refine Ef_callN rfl rfl ent_39 (fun w hp => hwd w (hp.rd hr fun _ => List.not_mem_nil)) ?_; rintro ⟨A1, c1⟩)))))
            | refine w1 ?_
            | (refine w2 ?_ ?_ <;> intro hc)
            | (first | ((refine' ⟨_, Yl_sl_l (l := i) rfl rfl ?q1 ?q2 ?q3, ?_⟩); (case q1 => exact und_of rfl); (case q2 => exact siz_of rfl); (case q3 => omega)))
            | (refine w4 ?_; (intro _))
            | (refine w5 ?_; (first | ((fail_if_success have := A1); intro A1 c1) | intro _ _))
            | refine w3 ?_ ?_
            | fail_if_success skip)
        exact ret_n [rP [] (none, 0)] (resC1 rfl rfl rfl (by (repeat (first | exact .head _ | apply List.Mem.tail))) (agg_of rfl)) (by (repeat (first | exact List.nil_sublist _ | refine List.Sublist.cons_cons _ ?_ | refine List.Sublist.cons _ ?_))) ⟨(none, 0), rfl, rfl⟩

set_option maxHeartbeats 2000000 in
theorem swap_c (k y : Int) (key o v : ByteArray) : Sp Try.prog 23 [.agg (sV k y (A, cap) len), .string key, .string o, .string v] w [] fun r N => ∃ z : Option Addr × Nat, r = .tuple #[.agg (sV (Ks.swapR k y l key o v).1 (Ks.swapR k y l key o v).2.1 z (Ks.swapR k y l key o v).2.2.1.length), .int .i64 (Ks.swapR k y l key o v).2.2.2] ∧ N = [rP (Ks.swapR k y l key o v).2.2.1 z] := by
  cases hb : (Ks.may k y l && Ks.pr (key, v)) with
  | false =>
    have en : Ks.swapR k y l key o v = (0, 0, [], 2) := by unfold Ks.swapR; rw [hb]; rfl
    rw [en]
    have hlk := fun w h => look_f A len cap l w h hl hle k y (key, v) hb
    refine Sp.enter (n := 52) Try.func23 rfl rfl rfl (Hp.refl w) ?_
    refine T.row0e 57 2 ?_
    repeat' (first
        | ((with_reducible refine is_build ?_); (first | refine ⟨_, Yl_build rfl (p_build1 _), ?_⟩ | refine ⟨_, Yl_build rfl (p_build2 _ _), ?_⟩ | refine ⟨_, Yl_build rfl s_build0, ?_⟩))
        | ((with_reducible refine ie_callf ?_); (first    | ((with_reducible refine g_call 37 ?_); (first | refine Ef_callP rfl rfl ent_37 (fun w hp => hlk w (hp.rd hr fun _ => List.not_mem_nil)) ?_)) | ((with_reducible refine g_call 39 ?_); (first | (((refine' Ef_callN rfl rfl ent_39 (fun w hp => hwi _ w (hp.rd hr fun _ => List.not_mem_nil) (hp.rowOf ?q1)) ?_); (case q1 => (repeat (first | exact .head _ | apply List.Mem.tail)))); rintro ⟨A1, c1⟩) | ((refine' Ef_callP rfl rfl ent_39 (fun w hp => hwi _ w (hp.rd hr fun _ => List.not_mem_nil) (hp.rowOf ?q1)) ?_); (case q1 => (repeat (first | exact .head _ | apply List.Mem.tail)))) | (refine Ef_callN rfl rfl ent_39 (fun w hp => hwd w (hp.rd hr fun _ => List.not_mem_nil)) ?_; rintro ⟨A1, c1⟩)))))
        | refine w1 ?_
        | (refine w2 ?_ ?_ <;> intro hc)
        | (first | ((refine' ⟨_, Yl_sl_l (l := i) rfl rfl ?q1 ?q2 ?q3, ?_⟩); (case q1 => exact und_of rfl); (case q2 => exact siz_of rfl); (case q3 => omega)))
        | (refine w4 ?_; (intro _))
        | (refine w5 ?_; (first | ((fail_if_success have := A1); intro A1 c1) | intro _ _))
        | refine w3 ?_ ?_
        | fail_if_success skip)
    exact ret_n [rP [] (none, 0)] (resC1 rfl rfl rfl (by (repeat (first | exact .head _ | apply List.Mem.tail))) (agg_of rfl)) (by (repeat (first | exact List.nil_sublist _ | refine List.Sublist.cons_cons _ ?_ | refine List.Sublist.cons _ ?_))) ⟨(none, 0), rfl, rfl⟩
  | true =>
    have hb2 := hb
    rw [Bool.and_eq_true, Ks.may_iff] at hb2
    have hlk := fun w h => look_t A len cap l w h hl hle k y (key, v) hb2.1 hb2.2
    dsimp only at hlk
    have h3 := Ks.may_put hb2.1 hb2.2
    rcases Ks.get_or hb2.1.so key with ⟨h1, h4, h5, h6⟩ | ⟨v', h1, h2, h4, h5, h6, _⟩
    · have en : Ks.swapR k y l key o v = (0, 0, [], 110) := by unfold Ks.swapR; rw [hb, h1]; rfl
      rw [en]
      rw [h1] at hlk
      refine Sp.enter (n := 52) Try.func23 rfl rfl rfl (Hp.refl w) ?_
      refine T.row0e 57 2 ?_
      repeat' (first
          | ((with_reducible refine is_build ?_); (first | refine ⟨_, Yl_build rfl (p_build1 _), ?_⟩ | refine ⟨_, Yl_build rfl (p_build2 _ _), ?_⟩ | refine ⟨_, Yl_build rfl s_build0, ?_⟩))
          | ((with_reducible refine ie_callf ?_); (first    | ((with_reducible refine g_call 37 ?_); (first | refine Ef_callP rfl rfl ent_37 (fun w hp => hlk w (hp.rd hr fun _ => List.not_mem_nil)) ?_)) | ((with_reducible refine g_call 39 ?_); (first | (((refine' Ef_callN rfl rfl ent_39 (fun w hp => hwi _ w (hp.rd hr fun _ => List.not_mem_nil) (hp.rowOf ?q1)) ?_); (case q1 => (repeat (first | exact .head _ | apply List.Mem.tail)))); rintro ⟨A1, c1⟩) | ((refine' Ef_callP rfl rfl ent_39 (fun w hp => hwi _ w (hp.rd hr fun _ => List.not_mem_nil) (hp.rowOf ?q1)) ?_); (case q1 => (repeat (first | exact .head _ | apply List.Mem.tail)))) | (refine Ef_callN rfl rfl ent_39 (fun w hp => hwd w (hp.rd hr fun _ => List.not_mem_nil)) ?_; rintro ⟨A1, c1⟩)))))
          | refine w1 ?_
          | (refine w2 ?_ ?_ <;> intro hc)
          | (first | ((refine' ⟨_, Yl_sl_l (l := i) rfl rfl ?q1 ?q2 ?q3, ?_⟩); (case q1 => exact und_of rfl); (case q2 => exact siz_of rfl); (case q3 => omega)))
          | (refine w4 ?_; (intro _))
          | (refine w5 ?_; (first | ((fail_if_success have := A1); intro A1 c1) | intro _ _))
          | refine w3 ?_ ?_
          | fail_if_success skip)
      exact ret_n [rP [] (none, 0)] (resC1 rfl rfl rfl (by (repeat (first | exact .head _ | apply List.Mem.tail))) (agg_of rfl)) (by (repeat (first | exact List.nil_sublist _ | refine List.Sublist.cons_cons _ ?_ | refine List.Sublist.cons _ ?_))) ⟨(none, 0), rfl, rfl⟩
    · have hm : l.take (Ks.lo l key).length ++ ([(key, v)] ++ l.drop ((Ks.lo l key).length + 1)) = Ks.put l key v := by rw [h5, h6]; rfl
      rw [h1] at hlk
      have e1 := enc_at pE_len h2 (j := 1) (by decide)
      by_cases hvo : v' = o
      · have e0 : Ks.swapR k y l key o v = Ks.fitR k y (Ks.put l key v) := by unfold Ks.swapR; rw [hb, h1]; simp [hvo]
        rw [e0]
        unfold Ks.fitR
        generalize (Ks.lo l key).length = i at h2 h4 hlk e1 hm
        have hwt := fun b w h h2 => with_t A len cap l w h hl hlc hle (some ⟨b, 0, none⟩) 1 1 [(key, v)] (hwi_of h2) rfl (by omega) i (i + 1) (by omega) (by omega) (Ks.put l key v) hm k y
        have hwf := fun b w h h2 => with_f A len cap l w h hl hlc hle (some ⟨b, 0, none⟩) 1 1 [(key, v)] (hwi_of h2) rfl (by omega) i (i + 1) (by omega) (by omega) (Ks.put l key v) hm k y
        cases hf : Ks.fits k y (Ks.put l key v) with
        | true =>
          have hwi := fun b w h h2 => hwt b w h h2 (h3.trans hf)
          clear hwt hwf
          refine Sp.enter (n := 52) Try.func23 rfl rfl rfl (Hp.refl w) ?_
          repeat' (first
              | ((with_reducible refine is_build ?_); (first | refine ⟨_, Yl_build rfl (p_build1 _), ?_⟩ | refine ⟨_, Yl_build rfl (p_build2 _ _), ?_⟩ | refine ⟨_, Yl_build rfl s_build0, ?_⟩))
              | ((with_reducible refine ie_callf ?_); (first    | ((with_reducible refine g_call 37 ?_); (first | refine Ef_callP rfl rfl ent_37 (fun w hp => hlk w (hp.rd hr fun _ => List.not_mem_nil)) ?_)) | ((with_reducible refine g_call 39 ?_); (first | (((refine' Ef_callN rfl rfl ent_39 (fun w hp => hwi _ w (hp.rd hr fun _ => List.not_mem_nil) (hp.rowOf ?q1)) ?_); (case q1 => (repeat (first | exact .head _ | apply List.Mem.tail)))); rintro ⟨A1, c1⟩) | ((refine' Ef_callP rfl rfl ent_39 (fun w hp => hwi _ w (hp.rd hr fun _ => List.not_mem_nil) (hp.rowOf ?q1)) ?_); (case q1 => (repeat (first | exact .head _ | apply List.Mem.tail)))) | (refine Ef_callN rfl rfl ent_39 (fun w hp => hwd w (hp.rd hr fun _ => List.not_mem_nil)) ?_; rintro ⟨A1, c1⟩)))))
              | refine w1 ?_
              | (refine w2 ?_ ?_ <;> intro hc)
              | (first | ((refine' ⟨_, Yl_sl_l (l := i) rfl rfl ?q1 ?q2 ?q3, ?_⟩); (case q1 => exact und_of rfl); (case q2 => exact siz_of rfl); (case q3 => omega)))
              | (refine w4 ?_; (intro _))
              | (refine w5 ?_; (first | ((fail_if_success have := A1); intro A1 c1) | intro _ _))
              | refine w3 ?_ ?_
              | fail_if_success skip)
          exact ret_n [rP (Ks.put l key v) (A1, c1)] (resC1 rfl rfl rfl (by (repeat (first | exact .head _ | apply List.Mem.tail))) (agg_of rfl)) (by (repeat (first | exact List.nil_sublist _ | refine List.Sublist.cons_cons _ ?_ | refine List.Sublist.cons _ ?_))) ⟨(A1, c1), rfl, rfl⟩
        | false =>
          have hwi := fun b w h h2 => hwf b w h h2 (h3.trans hf)
          clear hwt hwf
          refine Sp.enter (n := 52) Try.func23 rfl rfl rfl (Hp.refl w) ?_
          refine T.row0e 57 2 ?_
          repeat' (first
              | ((with_reducible refine is_build ?_); (first | refine ⟨_, Yl_build rfl (p_build1 _), ?_⟩ | refine ⟨_, Yl_build rfl (p_build2 _ _), ?_⟩ | refine ⟨_, Yl_build rfl s_build0, ?_⟩))
              | ((with_reducible refine ie_callf ?_); (first    | ((with_reducible refine g_call 37 ?_); (first | refine Ef_callP rfl rfl ent_37 (fun w hp => hlk w (hp.rd hr fun _ => List.not_mem_nil)) ?_)) | ((with_reducible refine g_call 39 ?_); (first | (((refine' Ef_callN rfl rfl ent_39 (fun w hp => hwi _ w (hp.rd hr fun _ => List.not_mem_nil) (hp.rowOf ?q1)) ?_); (case q1 => (repeat (first | exact .head _ | apply List.Mem.tail)))); rintro ⟨A1, c1⟩) | ((refine' Ef_callP rfl rfl ent_39 (fun w hp => hwi _ w (hp.rd hr fun _ => List.not_mem_nil) (hp.rowOf ?q1)) ?_); (case q1 => (repeat (first | exact .head _ | apply List.Mem.tail)))) | (refine Ef_callN rfl rfl ent_39 (fun w hp => hwd w (hp.rd hr fun _ => List.not_mem_nil)) ?_; rintro ⟨A1, c1⟩)))))
              | refine w1 ?_
              | (refine w2 ?_ ?_ <;> intro hc)
              | (first | ((refine' ⟨_, Yl_sl_l (l := i) rfl rfl ?q1 ?q2 ?q3, ?_⟩); (case q1 => exact und_of rfl); (case q2 => exact siz_of rfl); (case q3 => omega)))
              | (refine w4 ?_; (intro _))
              | (refine w5 ?_; (first | ((fail_if_success have := A1); intro A1 c1) | intro _ _))
              | refine w3 ?_ ?_
              | fail_if_success skip)
          exact ret_n [rP [] (none, 0)] (resC1 rfl rfl rfl (by (repeat (first | exact .head _ | apply List.Mem.tail))) (agg_of rfl)) (by (repeat (first | exact List.nil_sublist _ | refine List.Sublist.cons_cons _ ?_ | refine List.Sublist.cons _ ?_))) ⟨(none, 0), rfl, rfl⟩
      · have en : Ks.swapR k y l key o v = (0, 0, [], 111) := by unfold Ks.swapR; rw [hb, h1]; simp [hvo]
        rw [en]
        generalize (Ks.lo l key).length = i at h2 h4 hlk e1 hm
        refine Sp.enter (n := 52) Try.func23 rfl rfl rfl (Hp.refl w) ?_
        refine T.row0e 57 2 ?_
        repeat' (first
            | ((with_reducible refine is_build ?_); (first | refine ⟨_, Yl_build rfl (p_build1 _), ?_⟩ | refine ⟨_, Yl_build rfl (p_build2 _ _), ?_⟩ | refine ⟨_, Yl_build rfl s_build0, ?_⟩))
            | ((with_reducible refine ie_callf ?_); (first    | ((with_reducible refine g_call 37 ?_); (first | refine Ef_callP rfl rfl ent_37 (fun w hp => hlk w (hp.rd hr fun _ => List.not_mem_nil)) ?_)) | ((with_reducible refine g_call 39 ?_); (first | (((refine' Ef_callN rfl rfl ent_39 (fun w hp => hwi _ w (hp.rd hr fun _ => List.not_mem_nil) (hp.rowOf ?q1)) ?_); (case q1 => (repeat (first | exact .head _ | apply List.Mem.tail)))); rintro ⟨A1, c1⟩) | ((refine' Ef_callP rfl rfl ent_39 (fun w hp => hwi _ w (hp.rd hr fun _ => List.not_mem_nil) (hp.rowOf ?q1)) ?_); (case q1 => (repeat (first | exact .head _ | apply List.Mem.tail)))) | (refine Ef_callN rfl rfl ent_39 (fun w hp => hwd w (hp.rd hr fun _ => List.not_mem_nil)) ?_; rintro ⟨A1, c1⟩)))))
            | refine w1 ?_
            | (refine w2 ?_ ?_ <;> intro hc)
            | (first | ((refine' ⟨_, Yl_sl_l (l := i) rfl rfl ?q1 ?q2 ?q3, ?_⟩); (case q1 => exact und_of rfl); (case q2 => exact siz_of rfl); (case q3 => omega)))
            | (refine w4 ?_; (intro _))
            | (refine w5 ?_; (first | ((fail_if_success have := A1); intro A1 c1) | intro _ _))
            | refine w3 ?_ ?_
            | fail_if_success skip)
        exact ret_n [rP [] (none, 0)] (resC1 rfl rfl rfl (by (repeat (first | exact .head _ | apply List.Mem.tail))) (agg_of rfl)) (by (repeat (first | exact List.nil_sublist _ | refine List.Sublist.cons_cons _ ?_ | refine List.Sublist.cons _ ?_))) ⟨(none, 0), rfl, rfl⟩

set_option maxHeartbeats 2000000 in
theorem del_c (k y : Int) (key : ByteArray) : Sp Try.prog 25 [.agg (sV k y (A, cap) len), .string key] w [] fun r N => ∃ z : Option Addr × Nat, r = .tuple #[.agg (sV (Ks.delR k y l key).1 (Ks.delR k y l key).2.1 z (Ks.delR k y l key).2.2.1.length), .int .i64 (Ks.delR k y l key).2.2.2] ∧ N = [rP (Ks.delR k y l key).2.2.1 z] := by
  cases hb : (Ks.may k y l && Ks.pr (key, Ks.e)) with
  | false =>
    have en : Ks.delR k y l key = (0, 0, [], 2) := by unfold Ks.delR; rw [hb]; rfl
    rw [en]
    have hlk := fun w h => look_f A len cap l w h hl hle k y (key, Ks.e) hb
    refine Sp.enter (n := 33) Try.func25 rfl rfl rfl (Hp.refl w) ?_
    refine T.row0e 57 2 ?_
    repeat' (first
        | ((with_reducible refine is_build ?_); (first | refine ⟨_, Yl_build rfl (p_build1 _), ?_⟩ | refine ⟨_, Yl_build rfl (p_build2 _ _), ?_⟩ | refine ⟨_, Yl_build rfl s_build0, ?_⟩))
        | ((with_reducible refine ie_callf ?_); (first    | ((with_reducible refine g_call 37 ?_); (first | refine Ef_callP rfl rfl ent_37 (fun w hp => hlk w (hp.rd hr fun _ => List.not_mem_nil)) ?_)) | ((with_reducible refine g_call 39 ?_); (first | (((refine' Ef_callN rfl rfl ent_39 (fun w hp => hwi _ w (hp.rd hr fun _ => List.not_mem_nil) (hp.rowOf ?q1)) ?_); (case q1 => (repeat (first | exact .head _ | apply List.Mem.tail)))); rintro ⟨A1, c1⟩) | ((refine' Ef_callP rfl rfl ent_39 (fun w hp => hwi _ w (hp.rd hr fun _ => List.not_mem_nil) (hp.rowOf ?q1)) ?_); (case q1 => (repeat (first | exact .head _ | apply List.Mem.tail)))) | (refine Ef_callN rfl rfl ent_39 (fun w hp => hwd w (hp.rd hr fun _ => List.not_mem_nil)) ?_; rintro ⟨A1, c1⟩)))))
        | refine w1 ?_
        | (refine w2 ?_ ?_ <;> intro hc)
        | (first | ((refine' ⟨_, Yl_sl_l (l := i) rfl rfl ?q1 ?q2 ?q3, ?_⟩); (case q1 => exact und_of rfl); (case q2 => exact siz_of rfl); (case q3 => omega)))
        | (refine w4 ?_; (intro _))
        | (refine w5 ?_; (first | ((fail_if_success have := A1); intro A1 c1) | intro _ _))
        | refine w3 ?_ ?_
        | fail_if_success skip)
    exact ret_n [rP [] (none, 0)] (resC1 rfl rfl rfl (by (repeat (first | exact .head _ | apply List.Mem.tail))) (agg_of rfl)) (by (repeat (first | exact List.nil_sublist _ | refine List.Sublist.cons_cons _ ?_ | refine List.Sublist.cons _ ?_))) ⟨(none, 0), rfl, rfl⟩
  | true =>
    have hb2 := hb
    rw [Bool.and_eq_true, Ks.may_iff] at hb2
    have hlk := fun w h => look_t A len cap l w h hl hle k y (key, Ks.e) hb2.1 hb2.2
    dsimp only at hlk
    have h3 := (Ks.may_iff _ _ _).2 (Ks.may_rest hb2.1 key)
    rcases Ks.get_or hb2.1.so key with ⟨h1, h4, h5, h6⟩ | ⟨v', h1, h2, h4, h5, h6, _⟩
    · have en : Ks.delR k y l key = (0, 0, [], 110) := by unfold Ks.delR; rw [hb, h1]; rfl
      rw [en]
      rw [h1] at hlk
      refine Sp.enter (n := 33) Try.func25 rfl rfl rfl (Hp.refl w) ?_
      refine T.row0e 57 2 ?_
      repeat' (first
          | ((with_reducible refine is_build ?_); (first | refine ⟨_, Yl_build rfl (p_build1 _), ?_⟩ | refine ⟨_, Yl_build rfl (p_build2 _ _), ?_⟩ | refine ⟨_, Yl_build rfl s_build0, ?_⟩))
          | ((with_reducible refine ie_callf ?_); (first    | ((with_reducible refine g_call 37 ?_); (first | refine Ef_callP rfl rfl ent_37 (fun w hp => hlk w (hp.rd hr fun _ => List.not_mem_nil)) ?_)) | ((with_reducible refine g_call 39 ?_); (first | (((refine' Ef_callN rfl rfl ent_39 (fun w hp => hwi _ w (hp.rd hr fun _ => List.not_mem_nil) (hp.rowOf ?q1)) ?_); (case q1 => (repeat (first | exact .head _ | apply List.Mem.tail)))); rintro ⟨A1, c1⟩) | ((refine' Ef_callP rfl rfl ent_39 (fun w hp => hwi _ w (hp.rd hr fun _ => List.not_mem_nil) (hp.rowOf ?q1)) ?_); (case q1 => (repeat (first | exact .head _ | apply List.Mem.tail)))) | (refine Ef_callN rfl rfl ent_39 (fun w hp => hwd w (hp.rd hr fun _ => List.not_mem_nil)) ?_; rintro ⟨A1, c1⟩)))))
          | refine w1 ?_
          | (refine w2 ?_ ?_ <;> intro hc)
          | (first | ((refine' ⟨_, Yl_sl_l (l := i) rfl rfl ?q1 ?q2 ?q3, ?_⟩); (case q1 => exact und_of rfl); (case q2 => exact siz_of rfl); (case q3 => omega)))
          | (refine w4 ?_; (intro _))
          | (refine w5 ?_; (first | ((fail_if_success have := A1); intro A1 c1) | intro _ _))
          | refine w3 ?_ ?_
          | fail_if_success skip)
      exact ret_n [rP [] (none, 0)] (resC1 rfl rfl rfl (by (repeat (first | exact .head _ | apply List.Mem.tail))) (agg_of rfl)) (by (repeat (first | exact List.nil_sublist _ | refine List.Sublist.cons_cons _ ?_ | refine List.Sublist.cons _ ?_))) ⟨(none, 0), rfl, rfl⟩
    · have hm : l.take (Ks.lo l key).length ++ ([] ++ l.drop ((Ks.lo l key).length + 1)) = Ks.rest l key := by rw [h5, h6]; rfl
      rw [h1] at hlk
      have en : Ks.delR k y l key = (k, y, Ks.rest l key, 0) := by unfold Ks.delR; rw [hb, h1]; rfl
      rw [en]
      generalize (Ks.lo l key).length = i at h2 h4 hlk hm
      have hwd := fun w h => with_t A len cap l w h hl hlc hle none 0 0 [] Rd.nil rfl (by omega) i (i + 1) (by omega) (by omega) (Ks.rest l key) hm k y h3
      refine Sp.enter (n := 33) Try.func25 rfl rfl rfl (Hp.refl w) ?_
      repeat' (first
          | ((with_reducible refine is_build ?_); (first | refine ⟨_, Yl_build rfl (p_build1 _), ?_⟩ | refine ⟨_, Yl_build rfl (p_build2 _ _), ?_⟩ | refine ⟨_, Yl_build rfl s_build0, ?_⟩))
          | ((with_reducible refine ie_callf ?_); (first    | ((with_reducible refine g_call 37 ?_); (first | refine Ef_callP rfl rfl ent_37 (fun w hp => hlk w (hp.rd hr fun _ => List.not_mem_nil)) ?_)) | ((with_reducible refine g_call 39 ?_); (first | (((refine' Ef_callN rfl rfl ent_39 (fun w hp => hwi _ w (hp.rd hr fun _ => List.not_mem_nil) (hp.rowOf ?q1)) ?_); (case q1 => (repeat (first | exact .head _ | apply List.Mem.tail)))); rintro ⟨A1, c1⟩) | ((refine' Ef_callP rfl rfl ent_39 (fun w hp => hwi _ w (hp.rd hr fun _ => List.not_mem_nil) (hp.rowOf ?q1)) ?_); (case q1 => (repeat (first | exact .head _ | apply List.Mem.tail)))) | (refine Ef_callN rfl rfl ent_39 (fun w hp => hwd w (hp.rd hr fun _ => List.not_mem_nil)) ?_; rintro ⟨A1, c1⟩)))))
          | refine w1 ?_
          | (refine w2 ?_ ?_ <;> intro hc)
          | (first | ((refine' ⟨_, Yl_sl_l (l := i) rfl rfl ?q1 ?q2 ?q3, ?_⟩); (case q1 => exact und_of rfl); (case q2 => exact siz_of rfl); (case q3 => omega)))
          | (refine w4 ?_; (intro _))
          | (refine w5 ?_; (first | ((fail_if_success have := A1); intro A1 c1) | intro _ _))
          | refine w3 ?_ ?_
          | fail_if_success skip)
      exact ret_n [rP (Ks.rest l key) (A1, c1)] (resC1 rfl rfl rfl (by (repeat (first | exact .head _ | apply List.Mem.tail))) (agg_of rfl)) (by (repeat (first | exact List.nil_sublist _ | refine List.Sublist.cons_cons _ ?_ | refine List.Sublist.cons _ ?_))) ⟨(A1, c1), rfl, rfl⟩

omit hlc in
theorem used_c (k y : Int) : Sp Try.prog 12 [.agg (sV k y (A, cap) len)] w [] fun r N => r = .tuple #[.int .i64 (if Ks.may k y l = true then (len : Int) else 0), .int .i64 (if Ks.may k y l = true then (Ks.cnt l : Int) else 0)] ∧ N = [] := by
  cases h1 : Ks.may k y l with
  | false =>
    have hma := fun w h => may_v A len cap l w h hl (by omega) k y false h1
    refine Sp.enter (n := 13) Try.func12 rfl rfl rfl (Hp.refl w) ?_
    repeat' (first | ((with_reducible refine ie_callf ?_); (first | ((with_reducible refine g_call 28 ?_); (first | refine Ef_callP rfl rfl ent_28 (fun w hp => hma w (hp.rd hr fun _ => List.not_mem_nil)) ?_)) | ((with_reducible refine g_call 35 ?_); (first | refine Ef_callP rfl rfl ent_35 (fun w hp => hcn w (hp.rd hr fun _ => List.not_mem_nil)) ?_))))   | ((with_reducible refine g_draw ?_); (first | (((with_reducible refine' T.drawM (id := 3) [(0, true), (1, true), (2, true), (3, false), (4, false), (5, false), (6, false), (7, false)] mixd ?q1 ?_); (case q1 => kernel_rfl))))) | refine w1 ?_ | (refine w2 ?_ ?_ <;> intro hc) | (first | ((refine' ⟨_, Yl_sl_l (l := i) rfl rfl ?q1 ?q2 ?q3, ?_⟩); (case q1 => exact und_of rfl); (case q2 => exact siz_of rfl); (case q3 => omega))) | (refine w4 ?_; (intro _)) | (refine w5 ?_; (intro _ _)) | refine w3 ?_ ?_ | fail_if_success skip)
    exact ret_n [] (res2 rfl rfl rfl) (List.nil_sublist _) ⟨rfl, rfl⟩
  | true =>
    have hma := fun w h => may_v A len cap l w h hl (by omega) k y true h1
    have hcb := Ks.cnt_pr ((Ks.may_iff _ _ _).1 h1).pr
    have hcn := fun w h => count_c A len cap l w h hl (by omega) (by omega)
    refine Sp.enter (n := 13) Try.func12 rfl rfl rfl (Hp.refl w) ?_
    repeat' (first | ((with_reducible refine ie_callf ?_); (first | ((with_reducible refine g_call 28 ?_); (first | refine Ef_callP rfl rfl ent_28 (fun w hp => hma w (hp.rd hr fun _ => List.not_mem_nil)) ?_)) | ((with_reducible refine g_call 35 ?_); (first | refine Ef_callP rfl rfl ent_35 (fun w hp => hcn w (hp.rd hr fun _ => List.not_mem_nil)) ?_))))   | ((with_reducible refine g_draw ?_); (first | (((with_reducible refine' T.drawM (id := 3) [(0, true), (1, true), (2, true), (3, false), (4, false), (5, false), (6, false), (7, false)] mixd ?q1 ?_); (case q1 => kernel_rfl))))) | refine w1 ?_ | (refine w2 ?_ ?_ <;> intro hc) | (first | ((refine' ⟨_, Yl_sl_l (l := i) rfl rfl ?q1 ?q2 ?q3, ?_⟩); (case q1 => exact und_of rfl); (case q2 => exact siz_of rfl); (case q3 => omega))) | (refine w4 ?_; (intro _)) | (refine w5 ?_; (intro _ _)) | refine w3 ?_ ?_ | fail_if_success skip)
    exact ret_n [] (res2 rfl rfl rfl) (List.nil_sublist _) ⟨rfl, rfl⟩

set_option maxHeartbeats 2000000 in
theorem list_c (k y : Int) (f : ByteArray) (n : Int) : Sp Try.prog 13 [.agg (sV k y (A, cap) len), .string f, .int .i64 n] w [] fun r N => ∃ z : Option Addr × Nat, r = .slice z.1 (Ks.listR k y l f n).length z.2 ∧ N = [rK (Ks.listR k y l f n) z] := by
  cases h1 : Ks.may k y l with
  | false =>
    have en : Ks.listR k y l f n = [] := by unfold Ks.listR; rw [h1]; rfl
    rw [en]
    have hma := fun w h => may_v A len cap l w h hl (by omega) k y false h1
    refine Sp.enter (n := 41) Try.func13 rfl rfl rfl (Hp.refl w) ?_
    refine T.row0e 9 1 ?_
    repeat' (first    | ((with_reducible refine ie_callf ?_); (first | ((with_reducible refine g_call 28 ?_); (first | refine Ef_callP rfl rfl ent_28 (fun w hp => hma w (hp.rd hr fun _ => List.not_mem_nil)) ?_))  | ((with_reducible refine g_call 36 ?_); (first | refine Ef_callP rfl rfl ent_36 (fun w hp => hat w (hp.rd hr fun _ => List.not_mem_nil)) ?_))))    | refine w1 ?_ | (refine w2 ?_ ?_ <;> intro hc) | (first | ((refine' ⟨_, Yl_sl_l (l := i) rfl rfl ?q1 ?q2 ?q3, ?_⟩); (case q1 => exact und_of rfl); (case q2 => exact siz_of rfl); (case q3 => omega))) | (refine w4 ?_; (intro _)) | (refine w5 ?_; (first | ((fail_if_success have := A1); intro A1 c1) | ((fail_if_success have := A2); intro A2 c2) | intro _ _)) | refine w3 ?_ ?_ | fail_if_success skip)
    exact ret_n [rK [] (none, 0)] (res1 rfl rfl) (by (repeat (first | exact List.nil_sublist _ | refine List.Sublist.cons_cons _ ?_ | refine List.Sublist.cons _ ?_))) ⟨(none, 0), rfl, rfl⟩
  | true =>
    have hm := (Ks.may_iff _ _ _).1 h1
    have hma := fun w h => may_v A len cap l w h hl (by omega) k y true h1
    have hat := fun w h => at_c A len cap l w h hl (by omega) hm.so k y f
    have hge := Ks.lo_ge hm.so f
    have hdl : l.drop (Ks.lo l f).length = Ks.ge l f := (congrArg (fun m : List Pr => m.drop (Ks.lo l f).length) hge).trans (by simp)
    have hil : (Ks.lo l f).length ≤ len := by
      have := congrArg List.length hge
      rw [List.length_append] at this
      omega
    have en : Ks.listR k y l f n = ((l.drop (Ks.lo l f).length).map (·.1)).take n.toNat := by unfold Ks.listR; rw [h1, hdl]; rfl
    rw [en]
    generalize (Ks.lo l f).length = i at hat hil ⊢
    have hs := hr.from_ (l := i) (c := cap) pE_len hl hil hlc
    have hgl : (l.drop i).length = len - i := by rw [List.length_drop, hl]
    generalize l.drop i = g at hs hgl ⊢
    have hK : (g.map (·.1)).length = len - i := by rw [List.length_map, hgl]
    refine Sp.enter (n := 41) Try.func13 rfl rfl rfl (Hp.refl w) ?_
    refine T.row0e 9 1 ?_
    repeat' (first    | ((with_reducible refine ie_callf ?_); (first | ((with_reducible refine g_call 28 ?_); (first | refine Ef_callP rfl rfl ent_28 (fun w hp => hma w (hp.rd hr fun _ => List.not_mem_nil)) ?_))  | ((with_reducible refine g_call 36 ?_); (first | refine Ef_callP rfl rfl ent_36 (fun w hp => hat w (hp.rd hr fun _ => List.not_mem_nil)) ?_))))    | refine w1 ?_ | (refine w2 ?_ ?_ <;> intro hc) | (first | ((refine' ⟨_, Yl_sl_l (l := i) rfl rfl ?q1 ?q2 ?q3, ?_⟩); (case q1 => exact und_of rfl); (case q2 => exact siz_of rfl); (case q3 => omega))) | (refine w4 ?_; (intro _)) | (refine w5 ?_; (first | ((fail_if_success have := A1); intro A1 c1) | ((fail_if_success have := A2); intro A2 c2) | intro _ _)) | refine w3 ?_ ?_ | fail_if_success skip)
    refine T.loop (α := Nat × Option Addr × Nat) (fun z => [(2, .int .i64 n), (7, .slice z.2.1 z.1 z.2.2), (24, .slice (subA A cap i 2) (len - i) (cap - i)), (25, .int .i64 ((len - i : Nat) : Int)), (26, .int .i64 (z.1 : Int))]) (fun z => [.row 9 1 (.slice z.2.1 z.1 z.2.2) z.1 (((g.map (·.1)).take z.1).flatMap kE)]) (fun z => z.1 ≤ len - i ∧ z.1 ≤ n.toNat) (fun z => len - i - z.1) (0, none, 0) ?_ ?_ ?_ ?_
    · (repeat (first | exact Sub.nil | refine Sub.cons rfl ?_))
    · (repeat (first | exact List.nil_sublist _ | refine List.Sublist.cons_cons _ ?_ | refine List.Sublist.cons _ ?_))
    · exact ⟨Nat.zero_le _, Nat.zero_le _⟩
    · rintro ⟨j, A1, c1⟩ ⟨hj, hjn⟩
      dsimp only at hj hjn ⊢
      have oL := one_flat kE_one ((g.map (·.1)).take j)
      by_cases hlt : j < len - i
      · obtain ⟨x, hx⟩ := some_of_lt (l := g) (i := j) (by omega)
        have eA := enc_atA pE_len hx
        have hkx : (g.map (·.1))[j]? = some x.1 := by rw [List.getElem?_map, hx]; rfl
        have oX := kE_one x.1
        by_cases hn : n ≤ (j : Int)
        · have hjl : ((g.map (·.1)).take n.toNat).length = j := by rw [List.length_take, hK]; omega
          have e1 : (g.map (·.1)).take j = (g.map (·.1)).take n.toNat := by rw [show j = n.toNat by omega]
          rw [e1]
          repeat' (first    | ((with_reducible refine ie_callf ?_); (first | ((with_reducible refine g_call 28 ?_); (first | refine Ef_callP rfl rfl ent_28 (fun w hp => hma w (hp.rd hr fun _ => List.not_mem_nil)) ?_))  | ((with_reducible refine g_call 36 ?_); (first | refine Ef_callP rfl rfl ent_36 (fun w hp => hat w (hp.rd hr fun _ => List.not_mem_nil)) ?_))))    | refine w1 ?_ | (refine w2 ?_ ?_ <;> intro hc) | (first | ((refine' ⟨_, Yl_sl_l (l := i) rfl rfl ?q1 ?q2 ?q3, ?_⟩); (case q1 => exact und_of rfl); (case q2 => exact siz_of rfl); (case q3 => omega))) | (refine w4 ?_; (intro _)) | (refine w5 ?_; (first | ((fail_if_success have := A1); intro A1 c1) | ((fail_if_success have := A2); intro A2 c2) | intro _ _)) | refine w3 ?_ ?_ | fail_if_success skip)
          exact ret_n [rK ((g.map (·.1)).take n.toNat) (A1, c1)] (res1 rfl rfl) (by unfold rK; rw [hjl]; (repeat (first | exact List.nil_sublist _ | refine List.Sublist.cons_cons _ ?_ | refine List.Sublist.cons _ ?_))) ⟨(A1, c1), by rw [hjl], rfl⟩
        · repeat' (first    | ((with_reducible refine ie_callf ?_); (first | ((with_reducible refine g_call 28 ?_); (first | refine Ef_callP rfl rfl ent_28 (fun w hp => hma w (hp.rd hr fun _ => List.not_mem_nil)) ?_))  | ((with_reducible refine g_call 36 ?_); (first | refine Ef_callP rfl rfl ent_36 (fun w hp => hat w (hp.rd hr fun _ => List.not_mem_nil)) ?_))))    | refine w1 ?_ | (refine w2 ?_ ?_ <;> intro hc) | (first | ((refine' ⟨_, Yl_sl_l (l := i) rfl rfl ?q1 ?q2 ?q3, ?_⟩); (case q1 => exact und_of rfl); (case q2 => exact siz_of rfl); (case q3 => omega))) | (refine w4 ?_; (intro _)) | (refine w5 ?_; (first | ((fail_if_success have := A1); intro A1 c1) | ((fail_if_success have := A2); intro A2 c2) | intro _ _)) | refine w3 ?_ ?_ | fail_if_success skip)
          refine loopQ_n (j + 1, A2, c2) ?_ ?_ ⟨show j + 1 ≤ len - i by omega, show j + 1 ≤ n.toNat by omega⟩ (show len - i - (j + 1) < len - i - j by omega)
          · (repeat (first | exact Sub.nil | refine Sub.cons rfl ?_))
          · rw [take_snoc hkx, kE_snoc]
            (repeat (first | exact List.nil_sublist _ | refine List.Sublist.cons_cons _ ?_ | refine List.Sublist.cons _ ?_))
      · have hjl : ((g.map (·.1)).take n.toNat).length = j := by rw [List.length_take, hK]; omega
        have e1 : (g.map (·.1)).take j = (g.map (·.1)).take n.toNat := by rw [List.take_of_length_le (by omega), List.take_of_length_le (by omega)]
        rw [e1]
        repeat' (first    | ((with_reducible refine ie_callf ?_); (first | ((with_reducible refine g_call 28 ?_); (first | refine Ef_callP rfl rfl ent_28 (fun w hp => hma w (hp.rd hr fun _ => List.not_mem_nil)) ?_))  | ((with_reducible refine g_call 36 ?_); (first | refine Ef_callP rfl rfl ent_36 (fun w hp => hat w (hp.rd hr fun _ => List.not_mem_nil)) ?_))))    | refine w1 ?_ | (refine w2 ?_ ?_ <;> intro hc) | (first | ((refine' ⟨_, Yl_sl_l (l := i) rfl rfl ?q1 ?q2 ?q3, ?_⟩); (case q1 => exact und_of rfl); (case q2 => exact siz_of rfl); (case q3 => omega))) | (refine w4 ?_; (intro _)) | (refine w5 ?_; (first | ((fail_if_success have := A1); intro A1 c1) | ((fail_if_success have := A2); intro A2 c2) | intro _ _)) | refine w3 ?_ ?_ | fail_if_success skip)
        exact ret_n [rK ((g.map (·.1)).take n.toNat) (A1, c1)] (res1 rfl rfl) (by unfold rK; rw [hjl]; (repeat (first | exact List.nil_sublist _ | refine List.Sublist.cons_cons _ ?_ | refine List.Sublist.cons _ ?_))) ⟨(A1, c1), by rw [hjl], rfl⟩
end
end Go.Proofs.Ytimmabejfigleaa
