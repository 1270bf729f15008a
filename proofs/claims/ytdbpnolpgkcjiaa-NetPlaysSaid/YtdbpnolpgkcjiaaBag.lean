/- Many owned things as one; loops and results whose memory is shown another way. No program in sight. -/
import Derived.Test.YtdbpnolpgkcjiaaCopy
namespace Go.Proofs.Ytdbpnolpgkcjiaa
open Go.RowKit

/-- Many things, owned as one. -/
def bag (l : List Asrt) : Asrt := .gen (l.flatMap Asrt.foot) (fun w => ∀ A ∈ l, A.holds w) (fun _ _ hk h A hA => Asrt.keep (h A hA) fun k hkA => hk k (List.mem_flatMap.2 ⟨A, hA, hkA⟩))

section
variable {w0 w : World} {R : List Nat} {M M' l : List Asrt}
theorem Hp.bagIn (h : Hp w0 R (l ++ M) w) : Hp w0 R (bag l :: M) w := by
  have hf : (bag l :: M).flatMap Asrt.foot = (l ++ M).flatMap Asrt.foot := by rw [List.flatMap_cons, List.flatMap_append]; rfl
  refine ⟨h.os, h.tape, h.output, h.size, h.old, fun A hA => ?_, by rw [hf]; exact h.nodup, fun k hk => h.lo k (by rw [← hf]; exact hk)⟩
  rcases List.mem_cons.1 hA with rfl | hA
  · exact ⟨fun B hB => h.own B (List.mem_append_left _ hB), fun k hk => h.foot_lt k (by rw [List.flatMap_append]; exact List.mem_append_left _ hk)⟩
  · exact h.own A (List.mem_append_right _ hA)
theorem Hp.bagOut (h : Hp w0 R (bag l :: M) w) : Hp w0 R (l ++ M) w := by
  have hf : (bag l :: M).flatMap Asrt.foot = (l ++ M).flatMap Asrt.foot := by rw [List.flatMap_cons, List.flatMap_append]; rfl
  refine ⟨h.os, h.tape, h.output, h.size, h.old, fun A hA => ?_, by rw [← hf]; exact h.nodup, fun k hk => h.lo k (by rw [hf]; exact hk)⟩
  rcases List.mem_append.1 hA with hA | hA
  · exact (h.own (bag l) (.head _)).1 A hA
  · exact h.own A (.tail _ hA)
theorem Hp.ofPart (h : Hp w0 R M w) (hM : Part M' M) : Hp w0 R M' w := by
  obtain ⟨M1, h1, h2⟩ := hM
  exact (h.perm h1).weaken h2
/-- One thing more in a bag, at its end. -/
theorem Hp.bagAdd {A : Asrt} (h : Hp w0 R (A :: bag l :: M) w) : Hp w0 R (bag (l ++ [A]) :: M) w := by
  apply Hp.bagIn
  have h1 : Hp w0 R (bag l :: A :: M) w := h.perm (List.Perm.swap _ _ _)
  have h2 := h1.bagOut
  rw [List.append_assoc]
  exact h2
theorem Hp.bagNil (h : Hp w0 R M w) : Hp w0 R (bag [] :: M) w := Hp.bagIn h
theorem Hp.bagApp {l2 : List Asrt} (h : Hp w0 R (bag l :: bag l2 :: M) w) : Hp w0 R (bag (l ++ l2) :: M) w := by
  apply Hp.bagIn
  have h2 : Hp w0 R (bag l2 :: (l ++ M)) w := h.bagOut.perm List.perm_middle
  have h3 : Hp w0 R (l2 ++ (l ++ M)) w := h2.bagOut
  exact h3.perm (by rw [← List.append_assoc]; exact List.Perm.append_right _ List.perm_append_comm)
/-- Two bags out of one. -/
theorem Hp.bagCut {l2 : List Asrt} (h : Hp w0 R (bag (l ++ l2) :: M) w) : Hp w0 R (bag l :: bag l2 :: M) w := by
  have h1 : Hp w0 R (l ++ (l2 ++ M)) w := by rw [← List.append_assoc]; exact h.bagOut
  have h2 : Hp w0 R (bag l :: (l2 ++ M)) w := h1.bagIn
  have h3 : Hp w0 R (l2 ++ (bag l :: M)) w := h2.perm List.perm_middle.symm
  exact h3.bagIn.perm (List.Perm.swap _ _ _)
theorem Hp.bagPerm {l2 : List Asrt} (hl : l.Perm l2) (h : Hp w0 R (bag l :: M) w) : Hp w0 R (bag l2 :: M) w := (h.bagOut.perm (List.Perm.append_right _ hl)).bagIn
theorem Hp.bagSub {l2 : List Asrt} (hl : l2.Sublist l) (h : Hp w0 R (bag l :: M) w) : Hp w0 R (bag l2 :: M) w := (h.bagOut.weaken (List.Sublist.append hl (List.Sublist.refl _))).bagIn
/-- One thing out of a bag, what is ahead of it and what is behind it. -/
theorem Hp.bagTake {A : Asrt} {l2 : List Asrt} (h : Hp w0 R (bag (l ++ A :: l2) :: M) w) : Hp w0 R (A :: bag l :: bag l2 :: M) w := by
  have h1 : Hp w0 R (bag l :: bag (A :: l2) :: M) w := h.bagCut
  have h2 : Hp w0 R (bag (A :: l2) :: bag l :: M) w := h1.perm (List.Perm.swap _ _ _)
  have h3 : Hp w0 R (A :: (l2 ++ (bag l :: M))) w := h2.bagOut
  have h4 : Hp w0 R (l2 ++ (A :: bag l :: M)) w := h3.perm List.perm_middle.symm
  have h5 : Hp w0 R (bag l2 :: A :: bag l :: M) w := h4.bagIn
  exact (h5.perm (List.Perm.swap _ _ _)).perm (List.Perm.cons _ (List.Perm.swap _ _ _))
theorem Hp.bagBack {A : Asrt} {l2 : List Asrt} (h : Hp w0 R (A :: bag l :: bag l2 :: M) w) : Hp w0 R (bag (l ++ A :: l2) :: M) w := by
  have h1 : Hp w0 R (bag (l ++ [A]) :: bag l2 :: M) w := h.bagAdd
  have h2 := h1.bagApp
  rwa [List.append_assoc] at h2
theorem Hp.bagOf (h : Hp w0 R M w) (hm : bag l ∈ M) : ∀ A ∈ l, A.holds w := (h.own _ hm).1
theorem Hp.rdIn (h : Hp w0 R M w) (hm : bag l ∈ M) {e k m cap : Nat} {A : Option Addr} {xs : List Value} (hA : Asrt.row e k (.slice A m cap) m xs ∈ l) : Rd w A m k xs := Rd.of_row (h.bagOf hm _ hA)
end

section
variable {P : Program} {n : Nat} {w0 : World} {R : List Nat} {L : List (Nat × Value)} {M M' l : List Asrt} {t ty : TypeId} {x y : Operand} {v : Value} {K K' : List (Nat × Value) → List Asrt → Prop}
/-- The memory, shown another way. -/
theorem T.mem {c : Code} {Q : Exit → List (Nat × Value) → List Asrt → Prop} (hc : ∀ w, Hp w0 R M w → Hp w0 R M' w) (h : T P n w0 R c Q L M') : T P n w0 R c Q L M := .mk fun a w hk hp => h.run a w hk (hc w hp)

/-- A loop whose state at a round's end is shown another way. -/
def loopH {α : Type} (w0 : World) (R : List Nat) (F : α → List (Nat × Value)) (G : α → List Asrt) (I : α → Prop) (m : α → Nat) (x : α) (Q : Exit → List (Nat × Value) → List Asrt → Prop) : Exit → List (Nat × Value) → List Asrt → Prop
  | .normal, L, M => ∃ y, Sub (F y) L ∧ (∀ w, Hp w0 R M w → Hp w0 R (G y) w) ∧ I y ∧ m y < m x
  | e, L, M => Q e L M
theorem loopH_n {α : Type} {F : α → List (Nat × Value)} {G : α → List Asrt} {I : α → Prop} {m : α → Nat} {x : α} {Q : Exit → List (Nat × Value) → List Asrt → Prop} (y : α) (h1 : Sub (F y) L) (h2 : ∀ w, Hp w0 R M w → Hp w0 R (G y) w) (h3 : I y) (h4 : m y < m x) :
    loopH w0 R F G I m x Q .normal L M := ⟨y, h1, h2, h3, h4⟩
theorem loopH_x {α : Type} {F : α → List (Nat × Value)} {G : α → List Asrt} {I : α → Prop} {m : α → Nat} {x : α} {Q : Exit → List (Nat × Value) → List Asrt → Prop} {id : Nat} (h : Q (.exit id) L M) : loopH w0 R F G I m x Q (.exit id) L M := h
theorem loopH_r {α : Type} {F : α → List (Nat × Value)} {G : α → List Asrt} {I : α → Prop} {m : α → Nat} {x : α} {Q : Exit → List (Nat × Value) → List Asrt → Prop} (h : Q .ret L M) : loopH w0 R F G I m x Q .ret L M := h

theorem T.loopM {α : Type} {c : Code} {Q : Exit → List (Nat × Value) → List Asrt → Prop} (F : α → List (Nat × Value)) (G : α → List Asrt) (I : α → Prop) (m : α → Nat) (x0 : α)
    (hL : Sub (F x0) L) (hM : ∀ w, Hp w0 R M w → Hp w0 R (G x0) w) (h0 : I x0) (h : ∀ x, I x → T P n w0 R c (loopH w0 R F G I m x Q) (F x) (G x)) : T P n w0 R (.loop c) Q L M := by
  refine .mk fun a w hk hp => ?_
  intro b kk cs
  have key : ∀ k x a w, m x = k → I x → Kn n (F x) a → Hp w0 R (G x) w →
      ∃ e a' w', post n w0 R Q e a' w' ∧ Arrives P (lone (b.at a (.code c :: .inLoop c :: kk)) cs w) b kk cs e a' w' := by
    intro k
    induction k using Nat.strongRecOn with
    | _ k ih =>
      intro x a w hm hI hk hp
      obtain ⟨e, a1, w1, ⟨L1, M1, hk1, hp1, hq⟩, harr⟩ := (h x hI).run a w hk hp b (.inLoop c :: kk) cs
      cases e with
      | normal =>
        obtain ⟨y, hs1, hs2, hIy, hlt⟩ := hq
        obtain ⟨e2, a2, w2, hq2, harr2⟩ := ih (m y) (hm ▸ hlt) y a1 w1 rfl hIy (hk1.sub hs1) (hs2 _ hp1)
        exact ⟨e2, a2, w2, hq2, .of_steps (Steps.trans harr (.one step_inLoop)) harr2⟩
      | exit id => exact ⟨_, a1, w1, ⟨L1, M1, hk1, hp1, hq⟩, .pass (x := .inLoop c) rfl (fun _ _ => .inl (by simp)) harr⟩
      | goto l => exact ⟨_, a1, w1, ⟨L1, M1, hk1, hp1, hq⟩, .pass (x := .inLoop c) rfl (fun _ _ => .inl (by simp)) harr⟩
      | ret => exact ⟨_, a1, w1, ⟨L1, M1, hk1, hp1, hq⟩, .pass (x := .inLoop c) rfl (fun _ _ => .inl (by simp)) harr⟩
      | panic ch => exact ⟨_, a1, w1, ⟨L1, M1, hk1, hp1, hq⟩, .pass (x := .inLoop c) rfl (fun _ _ => .inl (by simp)) harr⟩
      | outgrown => exact ⟨_, a1, w1, ⟨L1, M1, hk1, hp1, hq⟩, .pass (x := .inLoop c) rfl (fun _ _ => .inl (by simp)) harr⟩
  obtain ⟨e, a', w', hq, harr⟩ := key _ x0 a w rfl h0 (hk.sub hL) (hM _ hp)
  exact ⟨e, a', w', hq, .of_steps (.one step_loop) harr⟩

/-- What a callee leaves, shown another way. -/
theorem Sp.mem {f : FuncId} {args : List Value} {w : World} {Res Res' : Value → List Asrt → Prop} (h : Sp P f args w R Res) (hr : ∀ v N, Res v N → ∃ N', (∀ w', Hp w R N w' → Hp w R N' w') ∧ Res' v N') : Sp P f args w R Res' :=
  .mk (Calls.mono h.run fun _ _ ⟨v, N, he, hR, hp⟩ => by
    obtain ⟨N', hpm, hR'⟩ := hr v N hR
    exact ⟨v, N', he, hR', hpm _ hp⟩)

/-- What the memory behind an operation tells. -/
theorem Ef_more {d : Option Nat} {op : Op} (h : Ef P n w0 R d op ty L M K') (hk : ∀ L' M' w', Hp w0 R M' w' → K' L' M' → K L' M') : Ef P n w0 R d op ty L M K :=
  .mk fun a w next Q h1 h2 h3 => h.run a w next Q h1 h2 fun a' w' L' M' k1 k2 k3 => h3 a' w' L' M' k1 k2 (hk L' M' w' k2 k3)

/-! ### Reads of what reads so wherever it lies -/
theorem Yl_load_hp {A : Option Addr} {m k j : Nat} {xs : List Value} (hx : evl L x = some (.pointer (some ((adr A).add j)))) (h : oneT P t = true) (hr : ∀ w, Hp w0 R M w → Rd w A m k xs) (hc : xs[j]? = some v) : Yl P n w0 R (.load t x) ty L M v :=
  Yl_load hx h fun _ hp => (hr _ hp).cell j v hc
theorem Yl_loadA_hp {A : Option Addr} {m k k' j : Nat} {xs vs : List Value} (hx : evl L x = some (.pointer (some ((adr A).add j)))) (h : aggT P t = some k') (hr : ∀ w, Hp w0 R M w → Rd w A m k xs) (hl : vs.length = k') (hc : ∀ i u, vs[i]? = some u → xs[j + i]? = some u) :
    Yl P n w0 R (.load t x) ty L M (.agg vs.toArray) :=
  Yl_loadA vs hx h hl fun _ hp i u hu => by rw [add_add']; exact (hr _ hp).cell _ _ (hc i u hu)
theorem Yl_index_hp {A : Option Addr} {m cap k j k' : Nat} {e : TypeId} {kd : IntKind} {xs : List Value} (hx : evl L x = some (.slice A m cap)) (hy : evl L y = some (.int kd (j : Int))) (ht : P.underlying t = some (.slice e)) (hs : sizT P e = some k)
    (hj : j < m) (hr : ∀ w, Hp w0 R M w → Rd w A m k' xs) : Yl P n w0 R (.indexAddr t x y) ty L M (.pointer (some ((adr A).add (j * k)))) := .mk fun a w hk hp => by
  have hA : A = some (adr A) := (hr w hp).some_ (by omega)
  simp [execOp, hk.ev hx, hk.ev hy, run_indexAt ht hs hA hj]
end
end Go.Proofs.Ytdbpnolpgkcjiaa
