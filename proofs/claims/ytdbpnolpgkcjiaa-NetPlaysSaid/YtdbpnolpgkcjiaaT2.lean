/- Copies of packets; none, Len, New, Send: what a call of each comes to. -/
import Derived.Test.YtdbpnolpgkcjiaaNt
namespace Go.Proofs.Ytdbpnolpgkcjiaa
open Go.RowKit Go.Conc

theorem u34 : Try.prog.underlying 34 = some (.chan .both 38) := by kernel_rfl
theorem b38 : (Try.prog.info? 38).map (·.bytes) = some 24 := by kernel_rfl
theorem z_build36 (c : Nat) (w : World) : (Instr.build 36 #[(0, .chan (some c))]).run Try.prog w = .ok (.agg #[.chan (some c)]) w := by kernel_rfl

section
variable (p : Pk) (w : World) (hr : In w p) (h4 : p.1.length ≤ 140737488355328)
include hr h4
theorem clone_c : Sp Try.prog 23 [pV p] w [] fun v N => ∃ z : Hd, v = pV (p.1, z) ∧ N = [bP (p.1, z)] := by
  obtain ⟨l, A, cap⟩ := p
  have oL := one_flat eU_one l
  unfold In at hr
  dsimp only at hr h4 ⊢
  obtain ⟨len, hl⟩ : ∃ len, l.length = len := ⟨_, rfl⟩
  unfold pV
  dsimp only
  rw [hl] at hr h4 ⊢
  cases A with
  | none =>
    have h0 : len = 0 := by
      rcases Nat.eq_zero_or_pos len with h | h
      · exact h
      · have := hr.some_ h; cases this
    have hn : l = [] := List.eq_nil_of_length_eq_zero (by omega)
    subst hn
    subst hl
    refine Sp.enter (n := 8) Try.func23 rfl rfl rfl (Hp.refl w) ?_
    refine T.row0e 5 1 ?_
    repeat' (first
        | (first | (((refine' Ef_makeChan rfl rfl u34 b38 ?q1 ?_); (case q1 => decide)); rintro c))
        | refine w1 ?_
        | (refine w2 ?_ ?_ <;> intro hc)
        | (first | ((refine' ⟨_, Yl_eql_nil rfl rfl ?q1, ?_⟩); (case q1 => exact und_of rfl)) | ((refine' ⟨_, Yl_eql_ptr rfl rfl ?q1, ?_⟩); (case q1 => exact ptr_of rfl rfl)) | refine ⟨_, Yl_eql_chan rfl rfl u34, ?_⟩ | ((refine' ⟨_, Yl_len_chan rfl u34 ?q1, ?_⟩); (case q1 => (repeat (first | exact .head _ | apply List.Mem.tail)))))
        | (refine w4 ?_; (first | ((fail_if_success have := b1); intro b1) | ((fail_if_success have := b2); intro b2) | ((fail_if_success have := b3); intro b3) | ((fail_if_success have := b4); intro b4) | ((fail_if_success have := b5); intro b5) | ((fail_if_success have := b6); intro b6) | ((fail_if_success have := b7); intro b7) | ((fail_if_success have := b8); intro b8) | ((fail_if_success have := b9); intro b9) | ((fail_if_success have := b10); intro b10) | ((fail_if_success have := b11); intro b11) | ((fail_if_success have := b12); intro b12)))
        | (refine w5 ?_; (first | ((fail_if_success have := A1); intro A1 c1) | intro _ _))
        | refine w3 ?_ ?_
        | fail_if_success skip)
    exact ret_n [bP ([], (none, 0))] (res1 rfl rfl) (List.Sublist.refl _) ⟨(none, 0), rfl, rfl⟩
  | some a =>
    refine Sp.enter (n := 8) Try.func23 rfl rfl rfl (Hp.refl w) ?_
    repeat' (first
        | (first | (((refine' Ef_makeChan rfl rfl u34 b38 ?q1 ?_); (case q1 => decide)); rintro c))
        | refine w1 ?_
        | (refine w2 ?_ ?_ <;> intro hc)
        | (first | ((refine' ⟨_, Yl_eql_nil rfl rfl ?q1, ?_⟩); (case q1 => exact und_of rfl)) | ((refine' ⟨_, Yl_eql_ptr rfl rfl ?q1, ?_⟩); (case q1 => exact ptr_of rfl rfl)) | refine ⟨_, Yl_eql_chan rfl rfl u34, ?_⟩ | ((refine' ⟨_, Yl_len_chan rfl u34 ?q1, ?_⟩); (case q1 => (repeat (first | exact .head _ | apply List.Mem.tail)))))
        | (refine w4 ?_; (first | ((fail_if_success have := b1); intro b1) | ((fail_if_success have := b2); intro b2) | ((fail_if_success have := b3); intro b3) | ((fail_if_success have := b4); intro b4) | ((fail_if_success have := b5); intro b5) | ((fail_if_success have := b6); intro b6) | ((fail_if_success have := b7); intro b7) | ((fail_if_success have := b8); intro b8) | ((fail_if_success have := b9); intro b9) | ((fail_if_success have := b10); intro b10) | ((fail_if_success have := b11); intro b11) | ((fail_if_success have := b12); intro b12)))
        | (refine w5 ?_; (first | ((fail_if_success have := A1); intro A1 c1) | intro _ _))
        | refine w3 ?_ ?_
        | fail_if_success skip)
    subst hl
    exact ret_n [bP (l, (A1, c1))] (res1 rfl rfl) (List.Sublist.refl _) ⟨(A1, c1), rfl, rfl⟩
theorem cat_c : Sp Try.prog 33 [pV p, .slice none 0 0] w [] fun v N => ∃ z : Hd, v = pV (p.1, z) ∧ N = [bP (p.1, z)] := by
  obtain ⟨l, A, cap⟩ := p
  have oL := one_flat eU_one l
  have hr0 : Rd w none 0 1 ([] : List Value) := Rd.nil
  unfold In at hr
  dsimp only at hr h4 ⊢
  obtain ⟨len, hl⟩ : ∃ len, l.length = len := ⟨_, rfl⟩
  unfold pV
  dsimp only
  rw [hl] at hr h4 ⊢
  refine Sp.enter (n := 13) Try.func33 rfl rfl rfl (Hp.refl w) ?_
  refine T.row0e 5 1 ?_
  repeat' (first
      | (first | (((refine' Ef_makeChan rfl rfl u34 b38 ?q1 ?_); (case q1 => decide)); rintro c))
      | refine w1 ?_
      | (refine w2 ?_ ?_ <;> intro hc)
      | (first | ((refine' ⟨_, Yl_eql_nil rfl rfl ?q1, ?_⟩); (case q1 => exact und_of rfl)) | ((refine' ⟨_, Yl_eql_ptr rfl rfl ?q1, ?_⟩); (case q1 => exact ptr_of rfl rfl)) | refine ⟨_, Yl_eql_chan rfl rfl u34, ?_⟩ | ((refine' ⟨_, Yl_len_chan rfl u34 ?q1, ?_⟩); (case q1 => (repeat (first | exact .head _ | apply List.Mem.tail)))))
      | (refine w4 ?_; (first | ((fail_if_success have := b1); intro b1) | ((fail_if_success have := b2); intro b2) | ((fail_if_success have := b3); intro b3) | ((fail_if_success have := b4); intro b4) | ((fail_if_success have := b5); intro b5) | ((fail_if_success have := b6); intro b6) | ((fail_if_success have := b7); intro b7) | ((fail_if_success have := b8); intro b8) | ((fail_if_success have := b9); intro b9) | ((fail_if_success have := b10); intro b10) | ((fail_if_success have := b11); intro b11) | ((fail_if_success have := b12); intro b12)))
      | (refine w5 ?_; (first | ((fail_if_success have := A1); intro A1 c1) | ((fail_if_success have := A2); intro A2 c2) | intro _ _))
      | refine w3 ?_ ?_
      | fail_if_success skip)
  subst hl
  refine ret_n [bP (l, (A2, c2))] (res1 rfl rfl) ?_ ⟨(A2, c2), rfl, rfl⟩
  unfold bP
  simp only [Nat.add_zero, List.append_nil]
  exact List.Sublist.refl _
theorem copy_c : Sp Try.prog 28 [pV p] w [] fun v N => ∃ z : Hd, v = pV (p.1, z) ∧ N = [bP (p.1, z)] := by
  have hcat := fun w h1 => cat_c p w h1 h4
  unfold In at hr hcat
  refine Sp.enter (n := 5) Try.func28 rfl rfl rfl (Hp.refl w) ?_
  repeat' (first
      | ((with_reducible refine ie_callf ?_); (first | ((with_reducible refine g_call 33 ?_); (first | (refine Ef_callN rfl rfl ent_33 (fun w hp => hcat w (hp.rd hr fun _ => List.not_mem_nil)) ?_; rintro ⟨A1, c1⟩)))))
      | (first | (((refine' Ef_makeChan rfl rfl u34 b38 ?q1 ?_); (case q1 => decide)); rintro c))
      | refine w1 ?_
      | (refine w2 ?_ ?_ <;> intro hc)
      | (first | ((refine' ⟨_, Yl_eql_nil rfl rfl ?q1, ?_⟩); (case q1 => exact und_of rfl)) | ((refine' ⟨_, Yl_eql_ptr rfl rfl ?q1, ?_⟩); (case q1 => exact ptr_of rfl rfl)) | refine ⟨_, Yl_eql_chan rfl rfl u34, ?_⟩ | ((refine' ⟨_, Yl_len_chan rfl u34 ?q1, ?_⟩); (case q1 => (repeat (first | exact .head _ | apply List.Mem.tail)))))
      | (refine w4 ?_; (first | ((fail_if_success have := b1); intro b1) | ((fail_if_success have := b2); intro b2) | ((fail_if_success have := b3); intro b3) | ((fail_if_success have := b4); intro b4) | ((fail_if_success have := b5); intro b5) | ((fail_if_success have := b6); intro b6) | ((fail_if_success have := b7); intro b7) | ((fail_if_success have := b8); intro b8) | ((fail_if_success have := b9); intro b9) | ((fail_if_success have := b10); intro b10) | ((fail_if_success have := b11); intro b11) | ((fail_if_success have := b12); intro b12)))
      | (refine w5 ?_; (first | ((fail_if_success have := A1); intro A1 c1) | intro _ _))
      | refine w3 ?_ ?_
      | fail_if_success skip)
  exact ret_n [bP (p.1, (A1, c1))] (res1 rfl rfl) (List.Sublist.refl _) ⟨(A1, c1), rfl, rfl⟩
end

section
variable (w : World)
theorem none0_v : Sp Try.prog 21 [.pointer none] w [] fun v N => v = .bool true ∧ N = [] := by
  refine Sp.enter (n := 12) Try.func21 rfl rfl rfl (Hp.refl w) ?_
  repeat' (first
      | ((with_reducible refine is_load ?_); (first | ((refine' ⟨_, Yl_load_old rfl ?q1 hb List.not_mem_nil rfl, ?_⟩); (case q1 => exact one_of rfl)) | ((refine' ⟨_, Yl_load_rd rfl ?q1 ha haR ?q2, ?_⟩); (case q1 => exact one_of rfl); (case q2 => assumption))))
      | (first | (((refine' Ef_makeChan rfl rfl u34 b38 ?q1 ?_); (case q1 => decide)); rintro c))
      | refine w1 ?_
      | (refine w2 ?_ ?_ <;> intro hc)
      | (first | ((refine' ⟨_, Yl_eql_nil rfl rfl ?q1, ?_⟩); (case q1 => exact und_of rfl)) | ((refine' ⟨_, Yl_eql_ptr rfl rfl ?q1, ?_⟩); (case q1 => exact ptr_of rfl rfl)) | refine ⟨_, Yl_eql_chan rfl rfl u34, ?_⟩ | ((refine' ⟨_, Yl_len_chan rfl u34 ?q1, ?_⟩); (case q1 => (repeat (first | exact .head _ | apply List.Mem.tail)))))
      | (refine w4 ?_; (first | ((fail_if_success have := b1); intro b1) | ((fail_if_success have := b2); intro b2) | ((fail_if_success have := b3); intro b3) | ((fail_if_success have := b4); intro b4) | ((fail_if_success have := b5); intro b5) | ((fail_if_success have := b6); intro b6) | ((fail_if_success have := b7); intro b7) | ((fail_if_success have := b8); intro b8) | ((fail_if_success have := b9); intro b9) | ((fail_if_success have := b10); intro b10) | ((fail_if_success have := b11); intro b11) | ((fail_if_success have := b12); intro b12)))
      | (refine w5 ?_; (intro _ _))
      | refine w3 ?_ ?_
      | fail_if_success skip)
  exact ret_n [] (res1 rfl rfl) (List.nil_sublist _) ⟨rfl, rfl⟩
theorem noneZ_v (b : Nat) (hb : w.heap[b]? = some (.cells #[.chan none] 36 (0, 0))) : Sp Try.prog 21 [.pointer (some ⟨b, 0, none⟩)] w [] fun v N => v = .bool true ∧ N = [] := by
  refine Sp.enter (n := 12) Try.func21 rfl rfl rfl (Hp.refl w) ?_
  repeat' (first
      | ((with_reducible refine is_load ?_); (first | ((refine' ⟨_, Yl_load_old rfl ?q1 hb List.not_mem_nil rfl, ?_⟩); (case q1 => exact one_of rfl)) | ((refine' ⟨_, Yl_load_rd rfl ?q1 ha haR ?q2, ?_⟩); (case q1 => exact one_of rfl); (case q2 => assumption))))
      | (first | (((refine' Ef_makeChan rfl rfl u34 b38 ?q1 ?_); (case q1 => decide)); rintro c))
      | refine w1 ?_
      | (refine w2 ?_ ?_ <;> intro hc)
      | (first | ((refine' ⟨_, Yl_eql_nil rfl rfl ?q1, ?_⟩); (case q1 => exact und_of rfl)) | ((refine' ⟨_, Yl_eql_ptr rfl rfl ?q1, ?_⟩); (case q1 => exact ptr_of rfl rfl)) | refine ⟨_, Yl_eql_chan rfl rfl u34, ?_⟩ | ((refine' ⟨_, Yl_len_chan rfl u34 ?q1, ?_⟩); (case q1 => (repeat (first | exact .head _ | apply List.Mem.tail)))))
      | (refine w4 ?_; (first | ((fail_if_success have := b1); intro b1) | ((fail_if_success have := b2); intro b2) | ((fail_if_success have := b3); intro b3) | ((fail_if_success have := b4); intro b4) | ((fail_if_success have := b5); intro b5) | ((fail_if_success have := b6); intro b6) | ((fail_if_success have := b7); intro b7) | ((fail_if_success have := b8); intro b8) | ((fail_if_success have := b9); intro b9) | ((fail_if_success have := b10); intro b10) | ((fail_if_success have := b11); intro b11) | ((fail_if_success have := b12); intro b12)))
      | (refine w5 ?_; (intro _ _))
      | refine w3 ?_ ?_
      | fail_if_success skip)
  exact ret_n [] (res1 rfl rfl) (List.nil_sublist _) ⟨rfl, rfl⟩
end
theorem none1_v (b c : Nat) (w : World) (hb : w.heap[b]? = some (.cells #[.chan (some c)] 36 (0, 0))) : Sp Try.prog 21 [.pointer (some ⟨b, 0, none⟩)] w [] fun v N => v = .bool false ∧ N = [] := by
  refine Sp.enter (n := 12) Try.func21 rfl rfl rfl (Hp.refl w) ?_
  repeat' (first
      | ((with_reducible refine is_load ?_); (first | ((refine' ⟨_, Yl_load_old rfl ?q1 hb List.not_mem_nil rfl, ?_⟩); (case q1 => exact one_of rfl)) | ((refine' ⟨_, Yl_load_rd rfl ?q1 ha haR ?q2, ?_⟩); (case q1 => exact one_of rfl); (case q2 => assumption))))
      | (first | (((refine' Ef_makeChan rfl rfl u34 b38 ?q1 ?_); (case q1 => decide)); rintro c))
      | refine w1 ?_
      | (refine w2 ?_ ?_ <;> intro hc)
      | (first | ((refine' ⟨_, Yl_eql_nil rfl rfl ?q1, ?_⟩); (case q1 => exact und_of rfl)) | ((refine' ⟨_, Yl_eql_ptr rfl rfl ?q1, ?_⟩); (case q1 => exact ptr_of rfl rfl)) | refine ⟨_, Yl_eql_chan rfl rfl u34, ?_⟩ | ((refine' ⟨_, Yl_len_chan rfl u34 ?q1, ?_⟩); (case q1 => (repeat (first | exact .head _ | apply List.Mem.tail)))))
      | (refine w4 ?_; (first | ((fail_if_success have := b1); intro b1) | ((fail_if_success have := b2); intro b2) | ((fail_if_success have := b3); intro b3) | ((fail_if_success have := b4); intro b4) | ((fail_if_success have := b5); intro b5) | ((fail_if_success have := b6); intro b6) | ((fail_if_success have := b7); intro b7) | ((fail_if_success have := b8); intro b8) | ((fail_if_success have := b9); intro b9) | ((fail_if_success have := b10); intro b10) | ((fail_if_success have := b11); intro b11) | ((fail_if_success have := b12); intro b12)))
      | (refine w5 ?_; (intro _ _))
      | refine w3 ?_ ?_
      | fail_if_success skip)
  exact ret_n [] (res1 rfl rfl) (List.nil_sublist _) ⟨rfl, rfl⟩

theorem new_c (w : World) : Sp Try.prog 9 [] w [] fun v N => ∃ z : Nat × Nat, v = .pointer (some ⟨z.1, 0, none⟩) ∧ N = [nO z.1 z.2, chA z.2 []] := by
  refine Sp.enter (n := 4) Try.func9 rfl rfl rfl (Hp.refl w) ?_
  repeat' (first
      | ((with_reducible refine is_build ?_); (first | refine ⟨_, Yl_build rfl (z_build36 c), ?_⟩))
      | (first | (((refine' Ef_makeChan rfl rfl u34 b38 ?q1 ?_); (case q1 => decide)); rintro c))
      | refine w1 ?_
      | (refine w2 ?_ ?_ <;> intro hc)
      | (first | ((refine' ⟨_, Yl_eql_nil rfl rfl ?q1, ?_⟩); (case q1 => exact und_of rfl)) | ((refine' ⟨_, Yl_eql_ptr rfl rfl ?q1, ?_⟩); (case q1 => exact ptr_of rfl rfl)) | refine ⟨_, Yl_eql_chan rfl rfl u34, ?_⟩ | ((refine' ⟨_, Yl_len_chan rfl u34 ?q1, ?_⟩); (case q1 => (repeat (first | exact .head _ | apply List.Mem.tail)))))
      | (refine w4 ?_; (first | ((fail_if_success have := b1); intro b1) | ((fail_if_success have := b2); intro b2) | ((fail_if_success have := b3); intro b3) | ((fail_if_success have := b4); intro b4) | ((fail_if_success have := b5); intro b5) | ((fail_if_success have := b6); intro b6) | ((fail_if_success have := b7); intro b7) | ((fail_if_success have := b8); intro b8) | ((fail_if_success have := b9); intro b9) | ((fail_if_success have := b10); intro b10) | ((fail_if_success have := b11); intro b11) | ((fail_if_success have := b12); intro b12)))
      | (refine w5 ?_; (intro _ _))
      | refine w3 ?_ ?_
      | fail_if_success skip)
  exact ret_n [nO b1 c, chA c []] (res1 rfl rfl) (by (repeat (first | exact List.nil_sublist _ | refine List.Sublist.cons_cons _ ?_ | refine List.Sublist.cons _ ?_))) ⟨(b1, c), rfl, rfl⟩

section
variable (b c : Nat) (w : World) (R : List Nat) (l : List Pk) (hp : Hp w R [nO b c, chA c l] w)
include hp
theorem len_c : Sp Try.prog 12 [.pointer (some ⟨b, 0, none⟩)] w R fun v N => v = .int .i64 l.length ∧ N = [nO b c, chA c l] := by
  refine Sp.enter (n := 10) Try.func12 rfl rfl rfl hp ?_
  repeat' (first
      | ((with_reducible refine is_load ?_); (first | ((refine' ⟨_, Yl_load_old rfl ?q1 hb List.not_mem_nil rfl, ?_⟩); (case q1 => exact one_of rfl)) | ((refine' ⟨_, Yl_load_rd rfl ?q1 ha haR ?q2, ?_⟩); (case q1 => exact one_of rfl); (case q2 => assumption))))
      | ((with_reducible refine ie_callf ?_); (first  | ((with_reducible refine g_call 21 ?_); (first | ((refine' Ef_callP rfl rfl ent_21 (fun w hp => none1_v b c w (hp.blkOf ?q1)) ?_); (case q1 => (repeat (first | exact .head _ | apply List.Mem.tail)))) | refine Ef_callP rfl rfl ent_21 (fun w hp => hno w hp) ?_))))
      | (first | (((refine' Ef_makeChan rfl rfl u34 b38 ?q1 ?_); (case q1 => decide)); rintro c))
      | refine w1 ?_
      | (refine w2 ?_ ?_ <;> intro hc)
      | (first | ((refine' ⟨_, Yl_eql_nil rfl rfl ?q1, ?_⟩); (case q1 => exact und_of rfl)) | ((refine' ⟨_, Yl_eql_ptr rfl rfl ?q1, ?_⟩); (case q1 => exact ptr_of rfl rfl)) | refine ⟨_, Yl_eql_chan rfl rfl u34, ?_⟩ | ((refine' ⟨_, Yl_len_chan rfl u34 ?q1, ?_⟩); (case q1 => (repeat (first | exact .head _ | apply List.Mem.tail)))))
      | (refine w4 ?_; (first | ((fail_if_success have := b1); intro b1) | ((fail_if_success have := b2); intro b2) | ((fail_if_success have := b3); intro b3) | ((fail_if_success have := b4); intro b4) | ((fail_if_success have := b5); intro b5) | ((fail_if_success have := b6); intro b6) | ((fail_if_success have := b7); intro b7) | ((fail_if_success have := b8); intro b8) | ((fail_if_success have := b9); intro b9) | ((fail_if_success have := b10); intro b10) | ((fail_if_success have := b11); intro b11) | ((fail_if_success have := b12); intro b12)))
      | (refine w5 ?_; (intro _ _))
      | refine w3 ?_ ?_
      | fail_if_success skip)
  exact ret_n [nO b c, chA c l] (res1 rfl rfl) (by (repeat (first | exact List.nil_sublist _ | refine List.Sublist.cons_cons _ ?_ | refine List.Sublist.cons _ ?_))) ⟨rfl, rfl⟩

section
variable (A : Option Addr) (cap : Nat) (ps : List Pk) (ha : Rd w A ps.length 1 (ps.flatMap pE)) (haR : (adr A).block ∉ R) (hin : Ins w ps) (hinR : ∀ p ∈ ps, 0 < p.1.length → (adr p.2.1).block ∉ R) (h5 : ∀ p ∈ ps, p.1.length ≤ 140737488355328)
include ha haR hin hinR h5
set_option maxHeartbeats 4000000 in
/-- There is room for all. -/
theorem send_c (hroom : l.length + ps.length ≤ 4096) : Sp Try.prog 10 [.pointer (some ⟨b, 0, none⟩), .slice A ps.length cap] w R fun v N => ∃ ns : List Pk, ns.map (·.1) = ps.map (·.1) ∧ v = .int .i64 0 ∧ N = [bag (ns.map bP), nO b c, chA c (l ++ ns)] := by
  refine Sp.enter (n := 21) Try.func10 rfl rfl rfl hp ?_
  repeat' (first
      | ((with_reducible refine is_load ?_); (first | ((refine' ⟨_, Yl_load_old rfl ?q1 hb List.not_mem_nil rfl, ?_⟩); (case q1 => exact one_of rfl)) | ((refine' ⟨_, Yl_load_rd rfl ?q1 ha haR ?q2, ?_⟩); (case q1 => exact one_of rfl); (case q2 => assumption))))
      | ((with_reducible refine ie_callf ?_); (first  | ((with_reducible refine g_call 21 ?_); (first | ((refine' Ef_callP rfl rfl ent_21 (fun w hp => none1_v b c w (hp.blkOf ?q1)) ?_); (case q1 => (repeat (first | exact .head _ | apply List.Mem.tail)))) | refine Ef_callP rfl rfl ent_21 (fun w hp => hno w hp) ?_)) | ((with_reducible refine g_call 23 ?_); (first | (refine Ef_callN rfl rfl ent_23 (fun w hp => clone_c x w (hp.rd (hin x (mem_of_some hx)) (hinR x (mem_of_some hx))) (h5 x (mem_of_some hx))) ?_; rintro ⟨A1, c1⟩))) | ((with_reducible refine g_call 22 ?_); (first | ((refine' Ef_callT [false, false, true, true] rfl rfl ent_22 rfl rfl rfl (fun w hp => put_c b c w _ (l ++ ns) (x.1, (A1, c1)) hp ?q1) ?_); (case q1 => rw [List.length_append]; omega)) | refine Ef_callT [false, true, true] rfl rfl ent_22 rfl rfl rfl (fun w hp => putF_c b c w _ l (x.1, (A1, c1)) hp hfull) ?_))))
      | (first | (((refine' Ef_makeChan rfl rfl u34 b38 ?q1 ?_); (case q1 => decide)); rintro c))
      | refine w1 ?_
      | (refine w2 ?_ ?_ <;> intro hc)
      | (first | ((refine' ⟨_, Yl_eql_nil rfl rfl ?q1, ?_⟩); (case q1 => exact und_of rfl)) | ((refine' ⟨_, Yl_eql_ptr rfl rfl ?q1, ?_⟩); (case q1 => exact ptr_of rfl rfl)) | refine ⟨_, Yl_eql_chan rfl rfl u34, ?_⟩ | ((refine' ⟨_, Yl_len_chan rfl u34 ?q1, ?_⟩); (case q1 => (repeat (first | exact .head _ | apply List.Mem.tail)))))
      | (refine w4 ?_; (first | ((fail_if_success have := b1); intro b1) | ((fail_if_success have := b2); intro b2) | ((fail_if_success have := b3); intro b3) | ((fail_if_success have := b4); intro b4) | ((fail_if_success have := b5); intro b5) | ((fail_if_success have := b6); intro b6) | ((fail_if_success have := b7); intro b7) | ((fail_if_success have := b8); intro b8) | ((fail_if_success have := b9); intro b9) | ((fail_if_success have := b10); intro b10) | ((fail_if_success have := b11); intro b11) | ((fail_if_success have := b12); intro b12)))
      | (refine w5 ?_; (first | ((fail_if_success have := A1); intro A1 c1) | intro _ _))
      | refine w3 ?_ ?_
      | fail_if_success skip)
  refine T.loopM (α := Nat × List Pk) (fun z => [(0, .pointer (some ⟨b, 0, none⟩)), (9, .slice A ps.length cap), (10, .int .i64 (ps.length : Int)), (11, .int .i64 (z.1 : Int))]) (fun z => [bag (z.2.map bP), nO b c, chA c (l ++ z.2)]) (fun z => z.1 ≤ ps.length ∧ z.2.map (·.1) = (ps.take z.1).map (·.1)) (fun z => ps.length - z.1) (0, []) ?_ ?_ ?_ ?_
  · (repeat (first | exact Sub.nil | refine Sub.cons rfl ?_))
  · intro w' h
    dsimp only
    rw [List.append_nil]
    exact h.bagNil
  · exact ⟨Nat.zero_le _, rfl⟩
  · rintro ⟨i, ns⟩ ⟨hi, hns⟩
    dsimp only at hi hns ⊢
    have hnl : ns.length = i := by have := congrArg List.length hns; simpa [Nat.min_eq_left hi] using this
    by_cases hlt : i < ps.length
    · obtain ⟨x, hx⟩ := some_of_lt (l := ps) (i := i) hlt
      have e0 : (ps.flatMap pE)[i * 1]? = some (pV x) := enc_at pE_len hx (j := 0) (by decide)
      refine T.part (M' := [bag (ns.map bP), nO b c, chA c (l ++ ns)]) (by (repeat (first | exact Part.nil | refine Part.p0 ?_ | refine Part.p1 ?_ | refine Part.p2 ?_ | refine Part.p3 ?_ | refine Part.p4 ?_ | refine Part.p5 ?_ | refine Part.p6 ?_))) ?_
      repeat' (first
          | ((with_reducible refine is_load ?_); (first | ((refine' ⟨_, Yl_load_old rfl ?q1 hb List.not_mem_nil rfl, ?_⟩); (case q1 => exact one_of rfl)) | ((refine' ⟨_, Yl_load_rd rfl ?q1 ha haR ?q2, ?_⟩); (case q1 => exact one_of rfl); (case q2 => assumption))))
          | ((with_reducible refine ie_callf ?_); (first  | ((with_reducible refine g_call 21 ?_); (first | ((refine' Ef_callP rfl rfl ent_21 (fun w hp => none1_v b c w (hp.blkOf ?q1)) ?_); (case q1 => (repeat (first | exact .head _ | apply List.Mem.tail)))) | refine Ef_callP rfl rfl ent_21 (fun w hp => hno w hp) ?_)) | ((with_reducible refine g_call 23 ?_); (first | (refine Ef_callN rfl rfl ent_23 (fun w hp => clone_c x w (hp.rd (hin x (mem_of_some hx)) (hinR x (mem_of_some hx))) (h5 x (mem_of_some hx))) ?_; rintro ⟨A1, c1⟩))) | ((with_reducible refine g_call 22 ?_); (first | ((refine' Ef_callT [false, false, true, true] rfl rfl ent_22 rfl rfl rfl (fun w hp => put_c b c w _ (l ++ ns) (x.1, (A1, c1)) hp ?q1) ?_); (case q1 => rw [List.length_append]; omega)) | refine Ef_callT [false, true, true] rfl rfl ent_22 rfl rfl rfl (fun w hp => putF_c b c w _ l (x.1, (A1, c1)) hp hfull) ?_))))
          | (first | (((refine' Ef_makeChan rfl rfl u34 b38 ?q1 ?_); (case q1 => decide)); rintro c))
          | refine w1 ?_
          | (refine w2 ?_ ?_ <;> intro hc)
          | (first | ((refine' ⟨_, Yl_eql_nil rfl rfl ?q1, ?_⟩); (case q1 => exact und_of rfl)) | ((refine' ⟨_, Yl_eql_ptr rfl rfl ?q1, ?_⟩); (case q1 => exact ptr_of rfl rfl)) | refine ⟨_, Yl_eql_chan rfl rfl u34, ?_⟩ | ((refine' ⟨_, Yl_len_chan rfl u34 ?q1, ?_⟩); (case q1 => (repeat (first | exact .head _ | apply List.Mem.tail)))))
          | (refine w4 ?_; (first | ((fail_if_success have := b1); intro b1) | ((fail_if_success have := b2); intro b2) | ((fail_if_success have := b3); intro b3) | ((fail_if_success have := b4); intro b4) | ((fail_if_success have := b5); intro b5) | ((fail_if_success have := b6); intro b6) | ((fail_if_success have := b7); intro b7) | ((fail_if_success have := b8); intro b8) | ((fail_if_success have := b9); intro b9) | ((fail_if_success have := b10); intro b10) | ((fail_if_success have := b11); intro b11) | ((fail_if_success have := b12); intro b12)))
          | (refine w5 ?_; (first | ((fail_if_success have := A1); intro A1 c1) | intro _ _))
          | refine w3 ?_ ?_
          | fail_if_success skip)
      refine loopH_n (i + 1, ns ++ [(x.1, (A1, c1))]) ?_ (fun w' h => ?_) ⟨show i + 1 ≤ _ by omega, by dsimp only; rw [take_snoc hx, List.map_append, List.map_append, hns]; rfl⟩ (show ps.length - (i + 1) < ps.length - i by omega)
      · (repeat (first | exact Sub.nil | refine Sub.cons rfl ?_))
      · dsimp only
        rw [List.map_append, ← List.append_assoc]
        exact ((h.ofPart (M' := [bP (x.1, (A1, c1)), bag (ns.map bP), nO b c, chA c (l ++ ns ++ [(x.1, (A1, c1))])]) (by (repeat (first | exact Part.nil | refine Part.p0 ?_ | refine Part.p1 ?_ | refine Part.p2 ?_ | refine Part.p3 ?_ | refine Part.p4 ?_ | refine Part.p5 ?_ | refine Part.p6 ?_)))).bagAdd)
    · have hil : i = ps.length := by omega
      rw [List.take_of_length_le (by omega)] at hns
      repeat' (first
          | ((with_reducible refine is_load ?_); (first | ((refine' ⟨_, Yl_load_old rfl ?q1 hb List.not_mem_nil rfl, ?_⟩); (case q1 => exact one_of rfl)) | ((refine' ⟨_, Yl_load_rd rfl ?q1 ha haR ?q2, ?_⟩); (case q1 => exact one_of rfl); (case q2 => assumption))))
          | ((with_reducible refine ie_callf ?_); (first  | ((with_reducible refine g_call 21 ?_); (first | ((refine' Ef_callP rfl rfl ent_21 (fun w hp => none1_v b c w (hp.blkOf ?q1)) ?_); (case q1 => (repeat (first | exact .head _ | apply List.Mem.tail)))) | refine Ef_callP rfl rfl ent_21 (fun w hp => hno w hp) ?_)) | ((with_reducible refine g_call 23 ?_); (first | (refine Ef_callN rfl rfl ent_23 (fun w hp => clone_c x w (hp.rd (hin x (mem_of_some hx)) (hinR x (mem_of_some hx))) (h5 x (mem_of_some hx))) ?_; rintro ⟨A1, c1⟩))) | ((with_reducible refine g_call 22 ?_); (first | ((refine' Ef_callT [false, false, true, true] rfl rfl ent_22 rfl rfl rfl (fun w hp => put_c b c w _ (l ++ ns) (x.1, (A1, c1)) hp ?q1) ?_); (case q1 => rw [List.length_append]; omega)) | refine Ef_callT [false, true, true] rfl rfl ent_22 rfl rfl rfl (fun w hp => putF_c b c w _ l (x.1, (A1, c1)) hp hfull) ?_))))
          | (first | (((refine' Ef_makeChan rfl rfl u34 b38 ?q1 ?_); (case q1 => decide)); rintro c))
          | refine w1 ?_
          | (refine w2 ?_ ?_ <;> intro hc)
          | (first | ((refine' ⟨_, Yl_eql_nil rfl rfl ?q1, ?_⟩); (case q1 => exact und_of rfl)) | ((refine' ⟨_, Yl_eql_ptr rfl rfl ?q1, ?_⟩); (case q1 => exact ptr_of rfl rfl)) | refine ⟨_, Yl_eql_chan rfl rfl u34, ?_⟩ | ((refine' ⟨_, Yl_len_chan rfl u34 ?q1, ?_⟩); (case q1 => (repeat (first | exact .head _ | apply List.Mem.tail)))))
          | (refine w4 ?_; (first | ((fail_if_success have := b1); intro b1) | ((fail_if_success have := b2); intro b2) | ((fail_if_success have := b3); intro b3) | ((fail_if_success have := b4); intro b4) | ((fail_if_success have := b5); intro b5) | ((fail_if_success have := b6); intro b6) | ((fail_if_success have := b7); intro b7) | ((fail_if_success have := b8); intro b8) | ((fail_if_success have := b9); intro b9) | ((fail_if_success have := b10); intro b10) | ((fail_if_success have := b11); intro b11) | ((fail_if_success have := b12); intro b12)))
          | (refine w5 ?_; (first | ((fail_if_success have := A1); intro A1 c1) | intro _ _))
          | refine w3 ?_ ?_
          | fail_if_success skip)
      exact ret_n [bag (ns.map bP), nO b c, chA c (l ++ ns)] (res1 rfl rfl) (by (repeat (first | exact List.nil_sublist _ | refine List.Sublist.cons_cons _ ?_ | refine List.Sublist.cons _ ?_))) ⟨ns, hns, rfl, rfl⟩
end
end
end Go.Proofs.Ytdbpnolpgkcjiaa
