/- Drawn regions in which two effects may come in either order; code behind which ways meet again. -/
import Derived.Test.YtdbpnolpgkcjiaaNums
namespace Go.Proofs.Ytdbpnolpgkcjiaa
open Go.RowKit

inductive Sch where
  | run (l : List (Nat × Bool))
  | y (i : Nat) (r : Sch)
  | e (i : Nat) (r : Sch)
  | b (i : Nat) (r : Sch) (j : Nat) (s : Sch)

def chkB (ops : Array Oper) : Sch → Nat → Array Bool → Bool
  | .run l, f, listed => (l.length == f) && chkS ops l listed
  | .y i r, f + 1, listed => (Region.ready .any ops listed).contains i && Region.free .any ops listed i && chkB ops r f (listed.setIfInBounds i true)
  | .e i r, f + 1, listed => (Region.ready .any ops listed == [i]) && chkB ops r f (listed.setIfInBounds i true)
  | .b i r j s, f + 1, listed => (Region.ready .any ops listed == [i, j]) && chkB ops r f (listed.setIfInBounds i true) && chkB ops s f (listed.setIfInBounds j true)
  | _, 0, _ => false

def wpB (P : Program) (ops : Array Oper) (S : World → Prop) (Q : Exit → Act → World → Prop) : Sch → Act → World → Prop
  | .run l, a, w => wpS P ops S Q l a w
  | .y i r, a, w => ∃ o v, ops[i]? = some o ∧ YieldsIf P ops S o v a ∧ wpB P ops S Q r (a.put o.dst v) w
  | .e i r, a, w => wpOp P ops Q i (fun a' w' => S w' ∧ wpB P ops S Q r a' w') a w
  | .b i r j s, a, w => wpOp P ops Q i (fun a' w' => S w' ∧ wpB P ops S Q r a' w') a w ∧ wpOp P ops Q j (fun a' w' => S w' ∧ wpB P ops S Q s a' w') a w

def drawOKB (ops : Array Oper) (s : Sch) : Bool := Region.noSelect ops && chkB ops s ops.size (Array.replicate ops.size false)

theorem wpB_sound {P : Program} {ops : Array Oper} {S : World → Prop} {Q : Exit → Act → World → Prop} (hs : Region.noSelect ops = true) (hQ : ∀ c d v a w, Q (.panic c) (Act.put a d v) w → Q (.panic c) a w) :
    ∀ (s : Sch) (f : Nat) (listed : Array Bool) (a : Act) (w : World), chkB ops s f listed = true → S w → wpB P ops S Q s a w → wpAnyH P .any ops Q S f listed a w := by
  intro s
  induction s with
  | run l =>
    intro f listed a w hc hS h
    simp only [chkB, Bool.and_eq_true, beq_iff_eq] at hc
    rw [← hc.1]
    exact wpS_sound hs hQ l listed a w hc.2 hS h
  | y i r ih =>
    intro f listed a w hc hS h
    cases f with
    | zero => simp [chkB] at hc
    | succ f =>
      simp only [chkB, Bool.and_eq_true] at hc
      obtain ⟨o, v, ho, hy, hr⟩ := h
      exact wpAnyH_take ho hs hc.1.2 hc.1.1 (fun c a w => hQ c _ _ a w) hy hS (ih f _ _ _ hc.2 hS hr)
  | e i r ih =>
    intro f listed a w hc hS h
    cases f with
    | zero => simp [chkB] at hc
    | succ f =>
      simp only [chkB, Bool.and_eq_true, beq_iff_eq] at hc
      refine wpAnyH_all hc.1 (by simp) fun j hj => ?_
      have : j = i := by simpa using hj
      subst this
      exact wpOp_mono (fun a' w' ⟨hS', h'⟩ => ⟨hS', ih f _ _ _ hc.2 hS' h'⟩) h
  | b i r j s ihr ihs =>
    intro f listed a w hc hS h
    cases f with
    | zero => simp [chkB] at hc
    | succ f =>
      simp only [chkB, Bool.and_eq_true, beq_iff_eq] at hc
      refine wpAnyH_all hc.1.1 (by simp) fun k hk => ?_
      rcases (show k = i ∨ k = j by simpa using hk) with rfl | rfl
      · exact wpOp_mono (fun a' w' ⟨hS', h'⟩ => ⟨hS', ihr f _ _ _ hc.1.2 hS' h'⟩) h.1
      · exact wpOp_mono (fun a' w' ⟨hS', h'⟩ => ⟨hS', ihs f _ _ _ hc.2 hS' h'⟩) h.2

structure TB (P : Program) (n : Nat) (w0 : World) (R : List Nat) (ops : Array Oper) (Mc : List Asrt) (K : List (Nat × Value) → List Asrt → Prop) (s : Sch) (L : List (Nat × Value)) (M : List Asrt) : Prop where
  run : ∀ a w, Kn n L a → Hp w0 R M w → Hp w0 R Mc w → wpB P ops (Hp w0 R Mc) (regQ n w0 R K) s a w

section
variable {P : Program} {n : Nat} {w0 : World} {R : List Nat} {L : List (Nat × Value)} {M Mc : List Asrt} {ops : Array Oper} {K : List (Nat × Value) → List Asrt → Prop}
variable {op op' : Op} {ty ty' : TypeId} {p p' : String} {af af' : Array Edge} {r s : Sch}

theorem T.drawB {id : Nat} {Q : Exit → List (Nat × Value) → List Asrt → Prop} (s : Sch) (Mc : List Asrt) (hm : P.follows .mixedOrders = true) (hB : drawOKB ops s = true) (hMc : Mc.Sublist M)
    (h : TB P n w0 R ops Mc (Q .normal) s L M) : T P n w0 R (.region id ops true) Q L M := by
  refine .mk fun a w hk hp => ?_
  simp only [drawOKB, Bool.and_eq_true] at hB
  have hd : Hp w0 R M w.drew := hp.drew
  refine wp_mono (Q := regQ n w0 R (Q .normal)) (wp_region_held (S := Hp w0 R Mc) hm ?_) fun e a' w' hq => by
    cases e <;> first | exact hq | exact hq.elim
  exact wpB_sound (P := P) (S := Hp w0 R Mc) (Q := regQ n w0 R (Q .normal)) hB.1 (fun _ _ _ _ _ h => h) s _ _ a w.drew hB.2 (hd.weaken hMc) (h.run a w.drew hk hd (hd.weaken hMc))
theorem T.drawBM {id : Nat} {Q : Exit → List (Nat × Value) → List Asrt → Prop} (s : Sch) (hm : P.follows .mixedOrders = true) (hB : drawOKB ops s = true) (h : TB P n w0 R ops M (Q .normal) s L M) : T P n w0 R (.region id ops true) Q L M :=
  T.drawB s M hm hB (List.Sublist.refl _) h
theorem T.drawB0 {id : Nat} {Q : Exit → List (Nat × Value) → List Asrt → Prop} (s : Sch) (hm : P.follows .mixedOrders = true) (hB : drawOKB ops s = true) (h : TB P n w0 R ops [] (Q .normal) s L M) : T P n w0 R (.region id ops true) Q L M :=
  T.drawB s [] hm hB (List.nil_sublist _) h

theorem TB_run {l : List (Nat × Bool)} (h : TS P n w0 R ops Mc K l L M) : TB P n w0 R ops Mc K (.run l) L M := .mk fun a w hk hp hc => h.run a w hk hp hc
theorem TB_y {i d : Nat} (ho : ops[i]? = some ⟨some d, op, ty, p, af, none⟩) (hd : Nat.blt d n = true) (h : ∃ v, Yl P n w0 R op ty L Mc v ∧ TB P n w0 R ops Mc K r ((d, v) :: L) M) : TB P n w0 R ops Mc K (.y i r) L M := by
  obtain ⟨v, hy, h⟩ := h
  refine .mk fun a w hk hp hc => ?_
  exact ⟨_, v, ho, .inl ⟨rfl, fun w' hw' => by rw [ex_eq]; exact hy.run a w' hk hw'⟩, h.run _ _ (hk.put v hd) hp hc⟩
theorem eff_wpOp {i : Nat} {d : Option Nat} {s : Sch} (ho : ops[i]? = some ⟨d, op, ty, p, af, none⟩) (h : Ef P n w0 R d op ty L M (fun L' M' => Mc.Sublist M' ∧ TB P n w0 R ops Mc K s L' M')) {a : Act} {w : World} (hk : Kn n L a) (hp : Hp w0 R M w) :
    wpOp P ops (regQ n w0 R K) i (fun a' w' => Hp w0 R Mc w' ∧ wpB P ops (Hp w0 R Mc) (regQ n w0 R K) s a' w') a w := by
  unfold wpOp
  rw [ho]
  refine (if_pos (by simp [Region.wanted])).mpr (.inl ?_)
  rw [owp_eq]
  exact h.run a w _ _ hk hp fun a' w' L' M' hk' hp' ⟨h1, h2⟩ => ⟨hp'.weaken h1, h2.run a' w' hk' hp' (hp'.weaken h1)⟩
theorem TB_e {i : Nat} {d : Option Nat} (ho : ops[i]? = some ⟨d, op, ty, p, af, none⟩) (h : Ef P n w0 R d op ty L M (fun L' M' => Mc.Sublist M' ∧ TB P n w0 R ops Mc K r L' M')) : TB P n w0 R ops Mc K (.e i r) L M :=
  .mk fun _ _ hk hp _ => eff_wpOp ho h hk hp
theorem TB_b {i j : Nat} {d d' : Option Nat} (ho : ops[i]? = some ⟨d, op, ty, p, af, none⟩) (ho' : ops[j]? = some ⟨d', op', ty', p', af', none⟩) (h : Ef P n w0 R d op ty L M (fun L' M' => Mc.Sublist M' ∧ TB P n w0 R ops Mc K r L' M'))
    (h' : Ef P n w0 R d' op' ty' L M (fun L' M' => Mc.Sublist M' ∧ TB P n w0 R ops Mc K s L' M')) : TB P n w0 R ops Mc K (.b i r j s) L M :=
  .mk fun _ _ hk hp _ => ⟨eff_wpOp ho h hk hp, eff_wpOp ho' h' hk hp⟩
theorem TBand {s : Sch} (h1 : Mc.Sublist M) (h2 : TB P n w0 R ops Mc K s L M) : Mc.Sublist M ∧ TB P n w0 R ops Mc K s L M := ⟨h1, h2⟩
theorem g_TB {s : Sch} (h : TB P n w0 R ops Mc K s L M) : TB P n w0 R ops Mc K s L M := h

/-- All that M' holds M holds, in whatever order. -/
def Part (M' M : List Asrt) : Prop := ∃ M1, M.Perm M1 ∧ M'.Sublist M1
theorem Part.sub {M' M : List Asrt} (h : M'.Sublist M) : Part M' M := ⟨M, List.Perm.refl _, h⟩
theorem Part.nil {M : List Asrt} : Part [] M := ⟨M, List.Perm.refl _, List.nil_sublist _⟩
theorem Part.pick {A : Asrt} {M' l1 l2 : List Asrt} (h : Part M' (l1 ++ l2)) : Part (A :: M') (l1 ++ A :: l2) := by
  obtain ⟨M1, h1, h2⟩ := h
  exact ⟨A :: M1, List.perm_middle.trans (h1.cons A), h2.cons_cons A⟩
theorem Part.p0 {A : Asrt} {M' l : List Asrt} (h : Part M' l) : Part (A :: M') (A :: l) := Part.pick (l1 := []) h
theorem Part.p1 {A B : Asrt} {M' l : List Asrt} (h : Part M' (B :: l)) : Part (A :: M') (B :: A :: l) := Part.pick (l1 := [B]) h
theorem Part.p2 {A B C : Asrt} {M' l : List Asrt} (h : Part M' (B :: C :: l)) : Part (A :: M') (B :: C :: A :: l) := Part.pick (l1 := [B, C]) h
theorem Part.p3 {A B C D : Asrt} {M' l : List Asrt} (h : Part M' (B :: C :: D :: l)) : Part (A :: M') (B :: C :: D :: A :: l) := Part.pick (l1 := [B, C, D]) h
theorem Part.p4 {A B C D E : Asrt} {M' l : List Asrt} (h : Part M' (B :: C :: D :: E :: l)) : Part (A :: M') (B :: C :: D :: E :: A :: l) := Part.pick (l1 := [B, C, D, E]) h
theorem Part.p5 {A B C D E F : Asrt} {M' l : List Asrt} (h : Part M' (B :: C :: D :: E :: F :: l)) : Part (A :: M') (B :: C :: D :: E :: F :: A :: l) := Part.pick (l1 := [B, C, D, E, F]) h
theorem Part.p6 {A B C D E F G : Asrt} {M' l : List Asrt} (h : Part M' (B :: C :: D :: E :: F :: G :: l)) : Part (A :: M') (B :: C :: D :: E :: F :: G :: A :: l) := Part.pick (l1 := [B, C, D, E, F, G]) h

theorem T.part {c : Code} {Q : Exit → List (Nat × Value) → List Asrt → Prop} {M' : List Asrt} (hM : Part M' M) (h : T P n w0 R c Q L M') : T P n w0 R c Q L M := by
  obtain ⟨M1, h1, h2⟩ := hM
  exact .mk fun a w hk hp => h.run a w hk ((hp.perm h1).weaken h2)

/-- What is known where ways meet. -/
def joinQ {α : Type} (F : α → List (Nat × Value)) (G : α → List Asrt) (Φ : α → Prop) (Q : Exit → List (Nat × Value) → List Asrt → Prop) : Exit → List (Nat × Value) → List Asrt → Prop
  | .normal, L, M => ∃ z, Φ z ∧ Sub (F z) L ∧ Part (G z) M
  | e, L, M => Q e L M
theorem joinQ_n {α : Type} {F : α → List (Nat × Value)} {G : α → List Asrt} {Φ : α → Prop} {Q : Exit → List (Nat × Value) → List Asrt → Prop} (z : α) (h0 : Φ z) (h1 : Sub (F z) L) (h2 : Part (G z) M) : joinQ F G Φ Q .normal L M := ⟨z, h0, h1, h2⟩
theorem joinQ_r {α : Type} {F : α → List (Nat × Value)} {G : α → List Asrt} {Φ : α → Prop} {Q : Exit → List (Nat × Value) → List Asrt → Prop} (h : Q .ret L M) : joinQ F G Φ Q .ret L M := h
theorem joinQ_x {α : Type} {F : α → List (Nat × Value)} {G : α → List Asrt} {Φ : α → Prop} {Q : Exit → List (Nat × Value) → List Asrt → Prop} {id : Nat} (h : Q (.exit id) L M) : joinQ F G Φ Q (.exit id) L M := h
theorem T.joinS {α : Type} {x y : Code} {Q : Exit → List (Nat × Value) → List Asrt → Prop} (F : α → List (Nat × Value)) (G : α → List Asrt) (Φ : α → Prop)
    (h1 : T P n w0 R x (joinQ F G Φ (seqQ P n w0 R y Q)) L M) (h2 : ∀ z, Φ z → T P n w0 R y Q (F z) (G z)) : T P n w0 R x (seqQ P n w0 R y Q) L M := by
  refine .mk fun a w hk hp => wp_mono (h1.run a w hk hp) fun e a' w' ⟨L', M', hk', hp', hq⟩ => ?_
  cases e with
  | normal =>
    obtain ⟨z, h0, hs, M1, hp1, hs1⟩ := hq
    exact ⟨L', M', hk', hp', (T.part (M := M') ⟨M1, hp1, hs1⟩ (T.sub hs (List.Sublist.refl _) (h2 z h0)) : T P n w0 R y Q L' M')⟩
  | exit id => exact ⟨L', M', hk', hp', hq⟩
  | goto l => exact ⟨L', M', hk', hp', hq⟩
  | ret => exact ⟨L', M', hk', hp', hq⟩
  | panic ch => exact ⟨L', M', hk', hp', hq⟩
  | outgrown => exact ⟨L', M', hk', hp', hq⟩
/-- x, then y: behind x only F and G are kept. -/
theorem T.join {α : Type} {x y : Code} {Q : Exit → List (Nat × Value) → List Asrt → Prop} (F : α → List (Nat × Value)) (G : α → List Asrt) (Φ : α → Prop)
    (h1 : T P n w0 R x (joinQ F G Φ (seqQ P n w0 R y Q)) L M) (h2 : ∀ z, Φ z → T P n w0 R y Q (F z) (G z)) : T P n w0 R (.seq x y) Q L M := by
  exact T.seq (T.joinS F G Φ h1 h2)
end
end Go.Proofs.Ytdbpnolpgkcjiaa
