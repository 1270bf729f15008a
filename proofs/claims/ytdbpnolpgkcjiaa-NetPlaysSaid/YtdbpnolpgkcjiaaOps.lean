/- The engine's laws, an operation each. -/
import Derived.Test.YtdbpnolpgkcjiaaEng
import Derived.Lib.Hide
namespace Go.Proofs.Ytdbpnolpgkcjiaa
open Go.RowKit

/-! ### The order that is drawn: those that only read first -/

def wpS (P : Program) (ops : Array Oper) (S : World → Prop) (Q : Exit → Act → World → Prop) : List (Nat × Bool) → Act → World → Prop
  | [], a, w => Q .normal a w
  | (i, true) :: r, a, w => ∃ o v, ops[i]? = some o ∧ YieldsIf P ops S o v a ∧ wpS P ops S Q r (a.put o.dst v) w
  | (i, false) :: r, a, w => wpOp P ops Q i (fun a' w' => S w' ∧ wpS P ops S Q r a' w') a w

def chkS (ops : Array Oper) : List (Nat × Bool) → Array Bool → Bool
  | [], listed => (Region.ready .any ops listed).isEmpty
  | (i, true) :: r, listed => (Region.ready .any ops listed).contains i && Region.free .any ops listed i && chkS ops r (listed.setIfInBounds i true)
  | (i, false) :: r, listed => (Region.ready .any ops listed == [i]) && chkS ops r (listed.setIfInBounds i true)

def drawOK (ops : Array Oper) (sched : List (Nat × Bool)) : Bool := Region.noSelect ops && (sched.length == ops.size) && chkS ops sched (Array.replicate ops.size false)

theorem wpS_sound {P : Program} {ops : Array Oper} {S : World → Prop} {Q : Exit → Act → World → Prop} (hs : Region.noSelect ops = true) (hQ : ∀ c d v a w, Q (.panic c) (Act.put a d v) w → Q (.panic c) a w) :
    ∀ (sched : List (Nat × Bool)) (listed : Array Bool) (a : Act) (w : World), chkS ops sched listed = true → S w → wpS P ops S Q sched a w → wpAnyH P .any ops Q S sched.length listed a w
  | [], listed, a, w, hc, _, h => wpAnyH_done (by simpa [chkS] using hc) h 0
  | (i, true) :: r, listed, a, w, hc, hS, h => by
    simp only [chkS, Bool.and_eq_true] at hc
    obtain ⟨o, v, ho, hy, hr⟩ := h
    exact wpAnyH_take ho hs hc.1.2 hc.1.1 (fun c a w => hQ c _ _ a w) hy hS (wpS_sound hs hQ r _ _ _ hc.2 hS hr)
  | (i, false) :: r, listed, a, w, hc, hS, h => by
    simp only [chkS, Bool.and_eq_true, beq_iff_eq] at hc
    refine wpAnyH_all hc.1 (by simp) fun j hj => ?_
    have : j = i := by simpa using hj
    subst this
    exact wpOp_mono (fun a' w' ⟨hS', h'⟩ => ⟨hS', wpS_sound hs hQ r _ _ _ hc.2 hS' h'⟩) h

structure TS (P : Program) (n : Nat) (w0 : World) (R : List Nat) (ops : Array Oper) (Mc : List Asrt) (K : List (Nat × Value) → List Asrt → Prop) (sched : List (Nat × Bool)) (L : List (Nat × Value)) (M : List Asrt) : Prop where
  run : ∀ a w, Kn n L a → Hp w0 R M w → Hp w0 R Mc w → wpS P ops (Hp w0 R Mc) (regQ n w0 R K) sched a w

section
variable {P : Program} {n : Nat} {w0 : World} {R : List Nat} {L L' : List (Nat × Value)} {M M' Mc : List Asrt} {ops : Array Oper} {K : List (Nat × Value) → List Asrt → Prop}
variable {op : Op} {ty : TypeId} {p : String} {af : Array Edge} {rest : List Oper} {r : List (Nat × Bool)}

theorem T.draw {id : Nat} {Q : Exit → List (Nat × Value) → List Asrt → Prop} (sched : List (Nat × Bool)) (Mc : List Asrt) (hm : P.follows .mixedOrders = true) (hB : drawOK ops sched = true) (hMc : Mc.Sublist M)
    (h : TS P n w0 R ops Mc (Q .normal) sched L M) : T P n w0 R (.region id ops true) Q L M := by
  refine .mk fun a w hk hp => ?_
  simp only [drawOK, Bool.and_eq_true, beq_iff_eq] at hB
  have hd : Hp w0 R M w.drew := hp.drew
  refine wp_mono (Q := regQ n w0 R (Q .normal)) (wp_region_held (S := Hp w0 R Mc) hm ?_) fun e a' w' hq => by
    cases e <;> first | exact hq | exact hq.elim
  have := wpS_sound (P := P) (S := Hp w0 R Mc) (Q := regQ n w0 R (Q .normal)) hB.1.1 (fun _ _ _ _ _ h => h) sched _ a w.drew hB.2 (hd.weaken hMc) (h.run a w.drew hk hd (hd.weaken hMc))
  rw [hB.1.2] at this
  exact this

theorem yielded_of {a : Act} (hk : Kn n L a) {j t : Nat} {b : Bool} (hs : gslot ops j = some t) (hv : Env.get L t = some (.bool b)) : yielded ops a.tmps j = some b := by
  have h1 := hk.get t _ hv
  unfold gslot at hs
  unfold yielded
  rw [hs]
  simp only [Option.bind_some]
  cases h2 : a.tmps[t]? with
  | none => simp [h2] at h1; cases h1
  | some u =>
    have : u = .bool b := by simpa [h2] using h1
    subst this; rfl

theorem TL_nil (h : K L M) : TL P n w0 R ops K [] L M := .mk fun _ _ hk hp => wpList_nil ⟨L, M, hk, hp, h⟩

theorem TL_y {d : Nat} (hd : Nat.blt d n = true) (h : ∃ v, Yl P n w0 R op ty L M v ∧ TL P n w0 R ops K rest ((d, v) :: L) M) : TL P n w0 R ops K (⟨some d, op, ty, p, af, none⟩ :: rest) L M := by
  obtain ⟨v, hy, h⟩ := h
  refine .mk fun a w hk hp => ?_
  refine wpList_plain rfl fun K' hK => ?_
  unfold Oper.wp
  rw [ex_eq, hy.run a w hk hp]
  exact hK _ _ (h.run _ _ (hk.put v hd) hp)

theorem TL_e {d : Option Nat} (h : Ef P n w0 R d op ty L M (fun L' M' => TL P n w0 R ops K rest L' M')) : TL P n w0 R ops K (⟨d, op, ty, p, af, none⟩ :: rest) L M := by
  refine .mk fun a w hk hp => ?_
  refine wpList_plain rfl fun K' hK => ?_
  rw [owp_eq]
  exact h.run a w K' _ hk hp fun a' w' L' M' hk' hp' h' => hK _ _ (h'.run a' w' hk' hp')

theorem TL_gy {d j t : Nat} {b : Bool} (hs : gslot ops j = some t) (hv : Env.get L t = some (.bool b)) (hd : Nat.blt d n = true) (h : ∃ v, Yl P n w0 R op ty L M v ∧ TL P n w0 R ops K rest ((d, v) :: L) M) :
    TL P n w0 R ops K (⟨some d, op, ty, p, af, some (j, b)⟩ :: rest) L M := by
  obtain ⟨v, hy, h⟩ := h
  refine .mk fun a w hk hp => ?_
  refine wpList_step fun K' hK => ?_
  rw [if_pos (by simp [Region.wanted, yielded_of hk hs hv])]
  unfold Oper.wp
  rw [ex_eq, hy.run a w hk hp]
  exact hK _ _ (h.run _ _ (hk.put v hd) hp)

theorem TL_ge {d : Option Nat} {j t : Nat} {b : Bool} (hs : gslot ops j = some t) (hv : Env.get L t = some (.bool b)) (h : Ef P n w0 R d op ty L M (fun L' M' => TL P n w0 R ops K rest L' M')) :
    TL P n w0 R ops K (⟨d, op, ty, p, af, some (j, b)⟩ :: rest) L M := by
  refine .mk fun a w hk hp => ?_
  refine wpList_step fun K' hK => ?_
  rw [if_pos (by simp [Region.wanted, yielded_of hk hs hv]), owp_eq]
  exact h.run a w K' _ hk hp fun a' w' L' M' hk' hp' h' => hK _ _ (h'.run a' w' hk' hp')

theorem TL_gn {d j t : Nat} {b : Bool} (hs : gslot ops j = some t) (hv : Env.get L t = some (.bool (!b))) (hd : Nat.blt d n = true) (h : TL P n w0 R ops K rest ((d, undef) :: L) M) :
    TL P n w0 R ops K (⟨some d, op, ty, p, af, some (j, b)⟩ :: rest) L M := by
  refine .mk fun a w hk hp => ?_
  refine wpList_step fun K' hK => ?_
  rw [if_neg (by simp [Region.wanted, yielded_of hk hs hv])]
  exact hK _ _ (h.run _ _ (hk.put undef hd) hp)

theorem yielded_undef {a : Act} (hk : Kn n L a) {j t : Nat} (hs : gslot ops j = some t) (hv : Env.get L t = some undef) : yielded ops a.tmps j = none := by
  have h1 := hk.get t _ hv
  unfold gslot at hs
  unfold yielded
  rw [hs]
  simp only [Option.bind_some]
  cases h2 : a.tmps[t]? with
  | none => rfl
  | some u =>
    have : u = undef := by simpa [h2] using h1
    subst this; rfl

/-- An operation whose guard was not yielded at all. -/
theorem TL_gu {d j t : Nat} {b : Bool} (hs : gslot ops j = some t) (hv : Env.get L t = some undef) (hd : Nat.blt d n = true) (h : TL P n w0 R ops K rest ((d, undef) :: L) M) :
    TL P n w0 R ops K (⟨some d, op, ty, p, af, some (j, b)⟩ :: rest) L M := by
  refine .mk fun a w hk hp => ?_
  refine wpList_step fun K' hK => ?_
  rw [if_neg (by simp [Region.wanted, yielded_undef hk hs hv])]
  exact hK _ _ (h.run _ _ (hk.put undef hd) hp)

theorem TS_gu {i d j t : Nat} {b : Bool} (ho : ops[i]? = some ⟨some d, op, ty, p, af, some (j, b)⟩) (hs : gslot ops j = some t) (hv : Env.get L t = some undef) (hd : Nat.blt d n = true)
    (h : TS P n w0 R ops Mc K r ((d, undef) :: L) M) : TS P n w0 R ops Mc K ((i, true) :: r) L M := by
  refine .mk fun a w hk hp hc => ?_
  exact ⟨_, undef, ho, .inr ⟨by simp [Region.wanted, yielded_undef hk hs hv], rfl⟩, h.run _ _ (hk.put undef hd) hp hc⟩

theorem TS_gue {i d j t : Nat} {b : Bool} (ho : ops[i]? = some ⟨some d, op, ty, p, af, some (j, b)⟩) (hs : gslot ops j = some t) (hv : Env.get L t = some undef) (hd : Nat.blt d n = true)
    (h : TS P n w0 R ops Mc K r ((d, undef) :: L) M) : TS P n w0 R ops Mc K ((i, false) :: r) L M := by
  refine .mk fun a w hk hp hc => ?_
  show wpOp _ _ _ _ _ _ _
  unfold wpOp
  rw [ho]
  refine (if_neg (by simp [Region.wanted, yielded_undef hk hs hv])).mpr ?_
  exact ⟨hc, h.run _ _ (hk.put undef hd) hp hc⟩

theorem TL_gn0 {j t : Nat} {b : Bool} (hs : gslot ops j = some t) (hv : Env.get L t = some (.bool (!b))) (h : TL P n w0 R ops K rest L M) :
    TL P n w0 R ops K (⟨none, op, ty, p, af, some (j, b)⟩ :: rest) L M := by
  refine .mk fun a w hk hp => ?_
  refine wpList_step fun K' hK => ?_
  rw [if_neg (by simp [Region.wanted, yielded_of hk hs hv])]
  exact hK _ _ (h.run _ _ hk hp)

theorem TS_nil (h : K L M) : TS P n w0 R ops Mc K [] L M := .mk fun _ _ hk hp _ => ⟨L, M, hk, hp, h⟩

theorem TS_y {i d : Nat} (ho : ops[i]? = some ⟨some d, op, ty, p, af, none⟩) (hd : Nat.blt d n = true) (h : ∃ v, Yl P n w0 R op ty L Mc v ∧ TS P n w0 R ops Mc K r ((d, v) :: L) M) : TS P n w0 R ops Mc K ((i, true) :: r) L M := by
  obtain ⟨v, hy, h⟩ := h
  refine .mk fun a w hk hp hc => ?_
  exact ⟨_, v, ho, .inl ⟨rfl, fun w' hw' => by rw [ex_eq]; exact hy.run a w' hk hw'⟩, h.run _ _ (hk.put v hd) hp hc⟩

theorem TS_gy {i d j t : Nat} {b : Bool} (ho : ops[i]? = some ⟨some d, op, ty, p, af, some (j, b)⟩) (hs : gslot ops j = some t) (hv : Env.get L t = some (.bool b)) (hd : Nat.blt d n = true)
    (h : ∃ v, Yl P n w0 R op ty L Mc v ∧ TS P n w0 R ops Mc K r ((d, v) :: L) M) : TS P n w0 R ops Mc K ((i, true) :: r) L M := by
  obtain ⟨v, hy, h⟩ := h
  refine .mk fun a w hk hp hc => ?_
  exact ⟨_, v, ho, .inl ⟨by simp [Region.wanted, yielded_of hk hs hv], fun w' hw' => by rw [ex_eq]; exact hy.run a w' hk hw'⟩, h.run _ _ (hk.put v hd) hp hc⟩

theorem TS_gn {i d j t : Nat} {b : Bool} (ho : ops[i]? = some ⟨some d, op, ty, p, af, some (j, b)⟩) (hs : gslot ops j = some t) (hv : Env.get L t = some (.bool (!b))) (hd : Nat.blt d n = true)
    (h : TS P n w0 R ops Mc K r ((d, undef) :: L) M) : TS P n w0 R ops Mc K ((i, true) :: r) L M := by
  refine .mk fun a w hk hp hc => ?_
  exact ⟨_, undef, ho, .inr ⟨by simp [Region.wanted, yielded_of hk hs hv], rfl⟩, h.run _ _ (hk.put undef hd) hp hc⟩

theorem TS_e {i : Nat} {d : Option Nat} (ho : ops[i]? = some ⟨d, op, ty, p, af, none⟩) (h : Ef P n w0 R d op ty L M (fun L' M' => Mc.Sublist M' ∧ TS P n w0 R ops Mc K r L' M')) : TS P n w0 R ops Mc K ((i, false) :: r) L M := by
  refine .mk fun a w hk hp hc => ?_
  show wpOp _ _ _ _ _ _ _
  unfold wpOp
  rw [ho]
  refine (if_pos (by simp [Region.wanted])).mpr (.inl ?_)
  rw [owp_eq]
  exact h.run a w _ _ hk hp fun a' w' L' M' hk' hp' ⟨h1, h2⟩ => ⟨hp'.weaken h1, h2.run a' w' hk' hp' (hp'.weaken h1)⟩

theorem TS_ey {i d : Nat} (ho : ops[i]? = some ⟨some d, op, ty, p, af, none⟩) (hd : Nat.blt d n = true) (hMc : Mc.Sublist M) (h : ∃ v, Yl P n w0 R op ty L M v ∧ TS P n w0 R ops Mc K r ((d, v) :: L) M) : TS P n w0 R ops Mc K ((i, false) :: r) L M := by
  obtain ⟨v, hy, h⟩ := h
  refine TS_e ho <| .mk fun a w next Q hk hp hn => ?_
  unfold Oper.wp
  rw [ex_eq, hy.run a w hk hp]
  exact hn _ _ _ _ (hk.put v hd) hp ⟨hMc, h⟩

theorem TS_ge {i j t : Nat} {b : Bool} {d : Option Nat} (ho : ops[i]? = some ⟨d, op, ty, p, af, some (j, b)⟩) (hs : gslot ops j = some t) (hv : Env.get L t = some (.bool b))
    (h : Ef P n w0 R d op ty L M (fun L' M' => Mc.Sublist M' ∧ TS P n w0 R ops Mc K r L' M')) : TS P n w0 R ops Mc K ((i, false) :: r) L M := by
  refine .mk fun a w hk hp hc => ?_
  show wpOp _ _ _ _ _ _ _
  unfold wpOp
  rw [ho]
  refine (if_pos (by simp [Region.wanted, yielded_of hk hs hv])).mpr (.inl ?_)
  rw [owp_eq]
  exact h.run a w _ _ hk hp fun a' w' L' M' hk' hp' ⟨h1, h2⟩ => ⟨hp'.weaken h1, h2.run a' w' hk' hp' (hp'.weaken h1)⟩

theorem TS_gey {i j t d : Nat} {b : Bool} (ho : ops[i]? = some ⟨some d, op, ty, p, af, some (j, b)⟩) (hs : gslot ops j = some t) (hv : Env.get L t = some (.bool b)) (hd : Nat.blt d n = true) (hMc : Mc.Sublist M)
    (h : ∃ v, Yl P n w0 R op ty L M v ∧ TS P n w0 R ops Mc K r ((d, v) :: L) M) : TS P n w0 R ops Mc K ((i, false) :: r) L M := by
  obtain ⟨v, hy, h⟩ := h
  refine TS_ge ho hs hv <| .mk fun a w next Q hk hp hn => ?_
  unfold Oper.wp
  rw [ex_eq, hy.run a w hk hp]
  exact hn _ _ _ _ (hk.put v hd) hp ⟨hMc, h⟩

theorem TS_gne {i j t d : Nat} {b : Bool} (ho : ops[i]? = some ⟨some d, op, ty, p, af, some (j, b)⟩) (hs : gslot ops j = some t) (hv : Env.get L t = some (.bool (!b))) (hd : Nat.blt d n = true)
    (h : TS P n w0 R ops Mc K r ((d, undef) :: L) M) : TS P n w0 R ops Mc K ((i, false) :: r) L M := by
  refine .mk fun a w hk hp hc => ?_
  show wpOp _ _ _ _ _ _ _
  unfold wpOp
  rw [ho]
  refine (if_neg (by simp [Region.wanted, yielded_of hk hs hv])).mpr ?_
  exact ⟨hc, h.run _ _ (hk.put undef hd) hp hc⟩

theorem TS_gne0 {i j t : Nat} {b : Bool} (ho : ops[i]? = some ⟨none, op, ty, p, af, some (j, b)⟩) (hs : gslot ops j = some t) (hv : Env.get L t = some (.bool (!b)))
    (h : TS P n w0 R ops Mc K r L M) : TS P n w0 R ops Mc K ((i, false) :: r) L M := by
  refine .mk fun a w hk hp hc => ?_
  show wpOp _ _ _ _ _ _ _
  unfold wpOp
  rw [ho]
  refine (if_neg (by simp [Region.wanted, yielded_of hk hs hv])).mpr ?_
  exact ⟨hc, h.run _ _ hk hp hc⟩

/-- A fact that the memory gives. -/
theorem T.fact {c : Code} {Q : Exit → List (Nat × Value) → List Asrt → Prop} {φ : Prop} (h1 : ∀ w, Hp w0 R M w → φ) (h2 : φ → T P n w0 R c Q L M) : T P n w0 R c Q L M :=
  .mk fun a w hk hp => (h2 (h1 w hp)).run a w hk hp
theorem TL.fact {φ : Prop} {l : List Oper} (h1 : ∀ w, Hp w0 R M w → φ) (h2 : φ → TL P n w0 R ops K l L M) : TL P n w0 R ops K l L M :=
  .mk fun a w hk hp => (h2 (h1 w hp)).run a w hk hp
theorem TS.fact {φ : Prop} {l : List (Nat × Bool)} (h1 : ∀ w, Hp w0 R M w → φ) (h2 : φ → TS P n w0 R ops Mc K l L M) : TS P n w0 R ops Mc K l L M :=
  .mk fun a w hk hp => (h2 (h1 w hp)).run a w hk hp
end

/-! ### Operations that only yield -/

def evps (L : List (Nat × Value)) : List (Nat × Operand) → Option (List (Nat × Value))
  | [] => some []
  | (i, x) :: r => match evl L x, evps L r with
    | some v, some vs => some ((i, v) :: vs)
    | _, _ => none

theorem Kn.evps {n : Nat} {L : List (Nat × Value)} {a : Act} (hk : Kn n L a) : ∀ {l : List (Nat × Operand)} {vs : List (Nat × Value)}, evps L l = some vs → l.map (fun p => (p.1, a.eval p.2)) = vs
  | [], vs, h => by simp [Proofs.Ytdbpnolpgkcjiaa.evps] at h; simp [h]
  | (i, x) :: r, vs, h => by
    simp only [Proofs.Ytdbpnolpgkcjiaa.evps] at h
    split at h
    · rename_i v vs' h1 h2
      simp only [Option.some.injEq] at h
      subst h
      simp [hk.ev h1, Kn.evps hk h2]
    · cases h


section
variable {P : Program} {n : Nat} {w0 : World} {R : List Nat} {L : List (Nat × Value)} {M : List Asrt} {ty t : TypeId} {x y c : Operand} {v u : Value}

theorem Yl_move (hx : evl L x = some v) : Yl P n w0 R (.move x) ty L M v := .mk fun a w hk _ => by simp [execOp, hk.ev hx]
theorem Yl_assign (hx : evl L x = some v) : Yl P n w0 R (.assign x) ty L M v := .mk fun a w hk _ => by simp [execOp, hk.ev hx]
theorem Yl_pick_t (hc : evl L c = some (.bool true)) (hx : evl L x = some v) : Yl P n w0 R (.pick c x y) ty L M v := .mk fun a w hk _ => by
  simp [execOp, hk.ev hc, hk.ev hx, asBool]
theorem Yl_pick_f (hc : evl L c = some (.bool false)) (hy : evl L y = some v) : Yl P n w0 R (.pick c x y) ty L M v := .mk fun a w hk _ => by
  simp [execOp, hk.ev hc, hk.ev hy, asBool]

theorem Yl_not {b : Bool} (hx : evl L x = some (.bool b)) : Yl P n w0 R (.unOp .not t x) ty L M (.bool (!b)) := .mk fun a w hk _ => by
  simp [execOp, hk.ev hx, Op.unary]

theorem Yl_nilCheck {ad : Addr} (hx : evl L x = some (.pointer (some ad))) : Yl P n w0 R (.nilCheck x) ty L M (.pointer (some ad)) := .mk fun a w hk _ => by
  simp [execOp, hk.ev hx]

theorem Yl_extract {vs : Array Value} {i : Nat} (hx : evl L x = some (.tuple vs)) (hi : vs[i]? = some v) : Yl P n w0 R (.extract x i) ty L M v := .mk fun a w hk _ => by
  simp [execOp, hk.ev hx, Instr.extract, hi]

theorem Yl_len_slice {A : Option Addr} {m cap : Nat} {e : TypeId} (hx : evl L x = some (.slice A m cap)) (ht : P.underlying t = some (.slice e)) :
    Yl P n w0 R (.call { callee := .builtin .len, args := #[x], argTypes := #[t] }) ty L M (.int .i64 m) := .mk fun a w hk _ => by
  simp [execOp, hk.ev hx, resolve, invoke, builtin, Builtin.len_, run_underlying ht, goInt]

theorem Yl_len_string {s : ByteArray} (hx : evl L x = some (.string s)) (ht : P.underlying t = some .string) :
    Yl P n w0 R (.call { callee := .builtin .len, args := #[x], argTypes := #[t] }) ty L M (.int .i64 s.size) := .mk fun a w hk _ => by
  simp [execOp, hk.ev hx, resolve, invoke, builtin, Builtin.len_, run_underlying ht, goInt]

theorem eqGuard_int {op : BinOp} {k k' : IntKind} {i j : Int} {w : World} : (eqGuard op t x y (.int k i) (.int k' j)).run P w = .ok () w := by
  unfold eqGuard; cases op <;> simp

def arithI (op : BinOp) (k : IntKind) (i j : Int) : Sem Value :=
  match op with
  | .add | .sub | .mul => Op.intArith op k i j
  | .quo | .rem => Op.intDiv op k i j
  | .and | .or | .xor | .andNot => Op.intBits op k i j
  | _ => Op.intCmp op i j

theorem run_binInt {op : BinOp} {k : IntKind} {i j : Int} {w : World} (h : op ≠ .shl ∧ op ≠ .shr) :
    (binOp op t (.int k i) (.int k j)).run P w = (arithI op k i j).run P w := by
  cases op <;> first | (exact absurd rfl h.1) | (exact absurd rfl h.2) | simp [binOp, arithI]

theorem Yl_bin_int {op : BinOp} {k : IntKind} {i j : Int} {yt : TypeId} (hx : evl L x = some (.int k i)) (hy : evl L y = some (.int k j)) (hr : ∀ w, (binOp op t (.int k i) (.int k j)).run P w = .ok v w) :
    Yl P n w0 R (.binOp op t x y yt) ty L M v := .mk fun a w hk _ => by
  simp [execOp, hk.ev hx, hk.ev hy, eqGuard_int, hr w]

theorem Yl_add {i j : Int} {yt : TypeId} (hx : evl L x = some (.int .i64 i)) (hy : evl L y = some (.int .i64 j)) (h1 : -9223372036854775808 ≤ i + j) (h2 : i + j ≤ 9223372036854775807) :
    Yl P n w0 R (.binOp .add t x y yt) ty L M (.int .i64 (i + j)) := Yl_bin_int hx hy fun w => by
  rw [run_binInt (by decide)]; simp [arithI, Op.intArith, IntWalk.i64_in _ ⟨h1, h2⟩]
theorem Yl_sub {i j : Int} {yt : TypeId} (hx : evl L x = some (.int .i64 i)) (hy : evl L y = some (.int .i64 j)) (h1 : -9223372036854775808 ≤ i - j) (h2 : i - j ≤ 9223372036854775807) :
    Yl P n w0 R (.binOp .sub t x y yt) ty L M (.int .i64 (i - j)) := Yl_bin_int hx hy fun w => by
  rw [run_binInt (by decide)]; simp [arithI, Op.intArith, IntWalk.i64_in _ ⟨h1, h2⟩]

theorem Yl_rem {i : Int} {m : Nat} {yt : TypeId} (hx : evl L x = some (.int .i64 i)) (hy : evl L y = some (.int .i64 (m : Int))) (h0 : 0 ≤ i) (hm : 0 < m) :
    Yl P n w0 R (.binOp .rem t x y yt) ty L M (.int .i64 (i % m)) := Yl_bin_int hx hy fun w => by
  rw [run_binInt (by decide)]
  have hm' : m ≠ 0 := by omega
  simp [arithI, Op.intDiv, hm', Int.tmod_eq_emod_of_nonneg h0]
theorem Yl_quo {i : Int} {m : Nat} {yt : TypeId} (hx : evl L x = some (.int .i64 i)) (hy : evl L y = some (.int .i64 (m : Int))) (h0 : 0 ≤ i) (hm : 0 < m) (h2 : i ≤ 9223372036854775807) :
    Yl P n w0 R (.binOp .quo t x y yt) ty L M (.int .i64 (i / m)) := Yl_bin_int hx hy fun w => by
  rw [run_binInt (by decide)]
  have h3 : 0 ≤ i / m := Int.ediv_nonneg h0 (by omega)
  have h4 : i / m ≤ i := Int.ediv_le_self _ h0
  have hm' : m ≠ 0 := by omega
  simp [arithI, Op.intDiv, hm', Int.tdiv_eq_ediv_of_nonneg h0, IntWalk.i64_in _ ⟨show -9223372036854775808 ≤ i / m by omega, show i / m ≤ 9223372036854775807 by omega⟩]

section cmp
variable {k : IntKind} {i j : Int} {yt : TypeId} {K : Value → Prop}
theorem Yl_cmp {op : BinOp} {b : Bool} (hx : evl L x = some (.int k i)) (hy : evl L y = some (.int k j)) (ho : op ≠ .shl ∧ op ≠ .shr) (hr : ∀ w, (arithI op k i j).run P w = .ok (.bool b) w) : Yl P n w0 R (.binOp op t x y yt) ty L M (.bool b) :=
  Yl_bin_int hx hy fun w => by rw [run_binInt ho]; exact hr w
theorem Yl_lss_t (hx : evl L x = some (.int k i)) (hy : evl L y = some (.int k j)) (h : i < j) : Yl P n w0 R (.binOp .lss t x y yt) ty L M (.bool true) := Yl_cmp hx hy (by decide) (fun w => by simp [arithI, Op.intCmp, h])
theorem Yl_lss_f (hx : evl L x = some (.int k i)) (hy : evl L y = some (.int k j)) (h : ¬ i < j) : Yl P n w0 R (.binOp .lss t x y yt) ty L M (.bool false) := Yl_cmp hx hy (by decide) (fun w => by simp [arithI, Op.intCmp]; omega)
theorem Yl_leq_t (hx : evl L x = some (.int k i)) (hy : evl L y = some (.int k j)) (h : i ≤ j) : Yl P n w0 R (.binOp .leq t x y yt) ty L M (.bool true) := Yl_cmp hx hy (by decide) (fun w => by simp [arithI, Op.intCmp, h])
theorem Yl_leq_f (hx : evl L x = some (.int k i)) (hy : evl L y = some (.int k j)) (h : ¬ i ≤ j) : Yl P n w0 R (.binOp .leq t x y yt) ty L M (.bool false) := Yl_cmp hx hy (by decide) (fun w => by simp [arithI, Op.intCmp]; omega)
theorem Yl_gtr_t (hx : evl L x = some (.int k i)) (hy : evl L y = some (.int k j)) (h : j < i) : Yl P n w0 R (.binOp .gtr t x y yt) ty L M (.bool true) := Yl_cmp hx hy (by decide) (fun w => by simp [arithI, Op.intCmp, h])
theorem Yl_gtr_f (hx : evl L x = some (.int k i)) (hy : evl L y = some (.int k j)) (h : ¬ j < i) : Yl P n w0 R (.binOp .gtr t x y yt) ty L M (.bool false) := Yl_cmp hx hy (by decide) (fun w => by simp [arithI, Op.intCmp]; omega)
theorem Yl_geq_t (hx : evl L x = some (.int k i)) (hy : evl L y = some (.int k j)) (h : j ≤ i) : Yl P n w0 R (.binOp .geq t x y yt) ty L M (.bool true) := Yl_cmp hx hy (by decide) (fun w => by simp [arithI, Op.intCmp, h])
theorem Yl_geq_f (hx : evl L x = some (.int k i)) (hy : evl L y = some (.int k j)) (h : ¬ j ≤ i) : Yl P n w0 R (.binOp .geq t x y yt) ty L M (.bool false) := Yl_cmp hx hy (by decide) (fun w => by simp [arithI, Op.intCmp]; omega)
theorem Yl_eql_t (hx : evl L x = some (.int k i)) (hy : evl L y = some (.int k j)) (h : i = j) : Yl P n w0 R (.binOp .eql t x y yt) ty L M (.bool true) := Yl_cmp hx hy (by decide) (fun w => by simp [arithI, Op.intCmp, h])
theorem Yl_eql_f (hx : evl L x = some (.int k i)) (hy : evl L y = some (.int k j)) (h : ¬ i = j) : Yl P n w0 R (.binOp .eql t x y yt) ty L M (.bool false) := Yl_cmp hx hy (by decide) (fun w => by simp [arithI, Op.intCmp]; omega)
theorem Yl_neq_f (hx : evl L x = some (.int k i)) (hy : evl L y = some (.int k j)) (h : i = j) : Yl P n w0 R (.binOp .neq t x y yt) ty L M (.bool false) := Yl_cmp hx hy (by decide) (fun w => by simp [arithI, Op.intCmp, h])
theorem Yl_neq_t (hx : evl L x = some (.int k i)) (hy : evl L y = some (.int k j)) (h : ¬ i = j) : Yl P n w0 R (.binOp .neq t x y yt) ty L M (.bool true) := Yl_cmp hx hy (by decide) (fun w => by simp [arithI, Op.intCmp, h])
theorem sp_lss (hx : evl L x = some (.int k i)) (hy : evl L y = some (.int k j)) (h1 : i < j → K (.bool true)) (h2 : ¬ i < j → K (.bool false)) : ∃ v, Yl P n w0 R (.binOp .lss t x y yt) ty L M v ∧ K v := by
  by_cases h : i < j
  · exact ⟨_, Yl_cmp hx hy (by decide) (b := true) (fun w => by simp [arithI, Op.intCmp, h]), h1 h⟩
  · exact ⟨_, Yl_cmp hx hy (by decide) (b := false) (fun w => by simp [arithI, Op.intCmp]; omega), h2 h⟩
theorem sp_leq (hx : evl L x = some (.int k i)) (hy : evl L y = some (.int k j)) (h1 : i ≤ j → K (.bool true)) (h2 : ¬ i ≤ j → K (.bool false)) : ∃ v, Yl P n w0 R (.binOp .leq t x y yt) ty L M v ∧ K v := by
  by_cases h : i ≤ j
  · exact ⟨_, Yl_cmp hx hy (by decide) (b := true) (fun w => by simp [arithI, Op.intCmp, h]), h1 h⟩
  · exact ⟨_, Yl_cmp hx hy (by decide) (b := false) (fun w => by simp [arithI, Op.intCmp]; omega), h2 h⟩
theorem sp_gtr (hx : evl L x = some (.int k i)) (hy : evl L y = some (.int k j)) (h1 : j < i → K (.bool true)) (h2 : ¬ j < i → K (.bool false)) : ∃ v, Yl P n w0 R (.binOp .gtr t x y yt) ty L M v ∧ K v := by
  by_cases h : j < i
  · exact ⟨_, Yl_cmp hx hy (by decide) (b := true) (fun w => by simp [arithI, Op.intCmp, h]), h1 h⟩
  · exact ⟨_, Yl_cmp hx hy (by decide) (b := false) (fun w => by simp [arithI, Op.intCmp]; omega), h2 h⟩
theorem sp_geq (hx : evl L x = some (.int k i)) (hy : evl L y = some (.int k j)) (h1 : j ≤ i → K (.bool true)) (h2 : ¬ j ≤ i → K (.bool false)) : ∃ v, Yl P n w0 R (.binOp .geq t x y yt) ty L M v ∧ K v := by
  by_cases h : j ≤ i
  · exact ⟨_, Yl_cmp hx hy (by decide) (b := true) (fun w => by simp [arithI, Op.intCmp, h]), h1 h⟩
  · exact ⟨_, Yl_cmp hx hy (by decide) (b := false) (fun w => by simp [arithI, Op.intCmp]; omega), h2 h⟩
theorem sp_eql (hx : evl L x = some (.int k i)) (hy : evl L y = some (.int k j)) (h1 : i = j → K (.bool true)) (h2 : ¬ i = j → K (.bool false)) : ∃ v, Yl P n w0 R (.binOp .eql t x y yt) ty L M v ∧ K v := by
  by_cases h : i = j
  · exact ⟨_, Yl_cmp hx hy (by decide) (b := true) (fun w => by simp [arithI, Op.intCmp, h]), h1 h⟩
  · exact ⟨_, Yl_cmp hx hy (by decide) (b := false) (fun w => by simp [arithI, Op.intCmp, h]), h2 h⟩
theorem sp_neq (hx : evl L x = some (.int k i)) (hy : evl L y = some (.int k j)) (h1 : ¬ i = j → K (.bool true)) (h2 : i = j → K (.bool false)) : ∃ v, Yl P n w0 R (.binOp .neq t x y yt) ty L M v ∧ K v := by
  by_cases h : i = j
  · exact ⟨_, Yl_cmp hx hy (by decide) (b := false) (fun w => by simp [arithI, Op.intCmp, h]), h2 h⟩
  · exact ⟨_, Yl_cmp hx hy (by decide) (b := true) (fun w => by simp [arithI, Op.intCmp, h]), h1 h⟩
/-- A bool whose value is a variable: parted. -/
theorem sp_bool {op : Op} {b : Bool} (h : Yl P n w0 R op ty L M (.bool b)) (h1 : b = true → K (.bool true)) (h2 : b = false → K (.bool false)) : ∃ v, Yl P n w0 R op ty L M v ∧ K v := by
  cases b
  · exact ⟨_, h, h2 rfl⟩
  · exact ⟨_, h, h1 rfl⟩
theorem Yl_eql_bool {a b : Bool} (hx : evl L x = some (.bool a)) (hy : evl L y = some (.bool b)) (ht : P.underlying t = some .bool) : Yl P n w0 R (.binOp .eql t x y yt) ty L M (.bool (a == b)) := .mk fun ac w hk _ => by
  simp [execOp, hk.ev hx, hk.ev hy, eqGuard, binOp, Op.equal, Op.maxDepth, run_equalIn_bool' w _ _ _ _ ht]
theorem Yl_neq_bool {a b : Bool} (hx : evl L x = some (.bool a)) (hy : evl L y = some (.bool b)) (ht : P.underlying t = some .bool) : Yl P n w0 R (.binOp .neq t x y yt) ty L M (.bool (a != b)) := .mk fun ac w hk _ => by
  simp [execOp, hk.ev hx, hk.ev hy, eqGuard, binOp, Op.equal, Op.maxDepth, run_equalIn_bool' w _ _ _ _ ht, bne]
theorem str_beq (a b : ByteArray) : (a.toList == b.toList) = decide (a = b) := by
  by_cases h : a = b
  · simp [h]
  · have h2 : a.toList ≠ b.toList := fun e => h (by
      rw [ByteArray.toList_eq, ByteArray.toList_eq] at e
      cases a; cases b; simp at e; simp [e])
    simp [h, h2]
theorem Yl_eql_str {a b : ByteArray} (hx : evl L x = some (.string a)) (hy : evl L y = some (.string b)) : Yl P n w0 R (.binOp .eql t x y yt) ty L M (.bool (decide (a = b))) := .mk fun ac w hk _ => by
  simp [execOp, hk.ev hx, hk.ev hy, eqGuard, binOp, Op.stringOp, str_beq]
theorem Yl_neq_str {a b : ByteArray} (hx : evl L x = some (.string a)) (hy : evl L y = some (.string b)) : Yl P n w0 R (.binOp .neq t x y yt) ty L M (.bool (!decide (a = b))) := .mk fun ac w hk _ => by
  simp [execOp, hk.ev hx, hk.ev hy, eqGuard, binOp, Op.stringOp, str_beq]
end cmp

theorem Yl_build {parts : Array (Nat × Operand)} {vs : List (Nat × Value)} (hv : evps L parts.toList = some vs) (hb : ∀ w, (Instr.build t vs.toArray).run P w = .ok v w) : Yl P n w0 R (.build t parts) ty L M v := .mk fun a w hk _ => by
  have h1 : (parts.map fun (i, x) => (i, a.eval x)) = vs.toArray := by
    apply Array.ext'; simpa using hk.evps hv
  simp [execOp, h1, hb w]

/-! ### Addresses, loads -/

def fld (P : Program) (t : TypeId) (i : Nat) : Option Nat :=
  match P.underlying t with
  | some (.struct fs) => match fs[i]? with
    | some f => match P.info? f.type with
      | some inf => if inf.size = 0 then none else some f.offset
      | none => none
    | none => none
  | _ => none

theorem run_fieldAt {i off : Nat} (hf : fld P t i = some off) (ad : Addr) (w : World) : (Instr.fieldAt t (.pointer (some ad)) i).run P w = .ok (.pointer (some (ad.add off))) w := by
  unfold fld at hf
  split at hf
  · rename_i fs hu
    split at hf
    · rename_i f hfi
      split at hf
      · rename_i inf hi
        split at hf
        · cases hf
        · rename_i hsz
          simp only [Option.some.injEq] at hf
          subst hf
          simp [Instr.fieldAt, run_underlying hu, hfi, Instr.sureAddr, fieldPlace, sizeOf, typeInfo, hi, hsz]
      · cases hf
    · cases hf
  · cases hf

theorem Yl_fld_blk {i off b o : Nat} (hx : evl L x = some (.pointer (some ⟨b, o, none⟩))) (hf : fld P t i = some off) : Yl P n w0 R (.fieldAddr t x i) ty L M (.pointer (some ⟨b, o + off, none⟩)) := .mk fun a w hk _ => by
  have e : (⟨b, o, none⟩ : Addr).add off = ⟨b, o + off, none⟩ := by unfold Addr.add; split <;> simp_all
  simp [execOp, hk.ev hx, run_fieldAt hf, e]
theorem Yl_fld_blk0 {i off b : Nat} (hx : evl L x = some (.pointer (some ⟨b, 0, none⟩))) (hf : fld P t i = some off) : Yl P n w0 R (.fieldAddr t x i) ty L M (.pointer (some ⟨b, off, none⟩)) := by
  simpa using Yl_fld_blk (P := P) (n := n) (w0 := w0) (R := R) (M := M) (ty := ty) hx hf
theorem Yl_fld_ad {i off m : Nat} {ad : Addr} (hx : evl L x = some (.pointer (some (ad.add m)))) (hf : fld P t i = some off) : Yl P n w0 R (.fieldAddr t x i) ty L M (.pointer (some (ad.add (m + off)))) := .mk fun a w hk _ => by
  have e : (ad.add m).add off = ad.add (m + off) := by unfold Addr.add; by_cases h1 : m = 0 <;> by_cases h2 : off = 0 <;> simp [h1, h2, Nat.add_assoc]
  simp [execOp, hk.ev hx, run_fieldAt hf, e]

def adr (A : Option Addr) : Addr := A.getD default

/-- A slice (address A, n elements of k cells) that reads as the cells xs in w. -/
structure Rd (w : World) (A : Option Addr) (n k : Nat) (xs : List Value) : Prop where
  len : xs.length = n * k
  some_ : 0 < n → A = some (adr A)
  lt : 0 < n → (adr A).block < w.heap.size
  cell : ∀ (j : Nat) (u : Value), xs[j]? = some u → w.cell? ((adr A).add j) = some u

theorem block_add (a : Addr) (m : Nat) : (a.add m).block = a.block := by unfold Addr.add; split <;> rfl
theorem add_add' (a : Addr) (i j : Nat) : (a.add i).add j = a.add (i + j) := by
  unfold Addr.add; by_cases h1 : i = 0 <;> by_cases h2 : j = 0 <;> simp [h1, h2, Nat.add_assoc]
theorem blk_add (b o m : Nat) : (⟨b, o, none⟩ : Addr).add m = ⟨b, o + m, none⟩ := by unfold Addr.add; split <;> simp_all

theorem Rd.nil {w : World} {A : Option Addr} {k : Nat} : Rd w A 0 k [] := ⟨by simp, fun h => absurd h (by omega), fun h => absurd h (by omega), fun j u h => by simp at h⟩

theorem Rd.keep {w w' : World} {A : Option Addr} {m k : Nat} {xs : List Value} (h : Rd w A m k xs) (hs : w.heap.size ≤ w'.heap.size) (hb : 0 < m → w'.heap[(adr A).block]? = w.heap[(adr A).block]?) : Rd w' A m k xs :=
  ⟨h.len, h.some_, fun hm => Nat.lt_of_lt_of_le (h.lt hm) hs, fun j u hu => by
    have hm : 0 < m := by
      rcases Nat.eq_zero_or_pos m with e | e
      · have h1 := h.len; have h2 := (List.getElem?_eq_some_iff.1 hu).1; subst e; simp at h1; simp [h1] at h2
      · exact e
    rw [World.cell?_of_block (w := w) (by rw [block_add]; exact hb hm)]; exact h.cell j u hu⟩

theorem Hp.rd {w : World} {A : Option Addr} {m k : Nat} {xs : List Value} (hp : Hp w0 R M w) (h : Rd w0 A m k xs) (hR : 0 < m → (adr A).block ∉ R) : Rd w A m k xs :=
  h.keep hp.size fun hm => hp.old _ (h.lt hm) (hR hm)

theorem Rd.of_row {w : World} {base e k m cap : Nat} {A : Option Addr} {xs : List Value} (h : w.ownsRow base e k (.slice A m cap) m xs) : Rd w A m k xs := by
  rcases h.2 with ⟨hv, h0⟩ | ⟨g, cap', cur, hv, _, hg, _⟩
  · subst h0
    have : xs = [] := List.eq_nil_of_length_eq_zero (by simpa using h.1)
    subst this
    exact Rd.nil
  · injection hv with h1 h2 h3
    subst h1
    exact ⟨h.1, fun _ => rfl, fun _ => heap_lt hg, h.cells (g := g) rfl⟩

def oneT (P : Program) (t : TypeId) : Bool := match P.underlying t with | some (.struct _) | some (.array _ _) | none => false | _ => true
def aggT (P : Program) (t : TypeId) : Option Nat := match P.underlying t with | some (.struct _) | some (.array _ _) => (P.info? t).map (·.size) | _ => none
def sizT (P : Program) (t : TypeId) : Option Nat := (P.info? t).map (·.size)

theorem run_isAgg_one (h : oneT P t = true) (w : World) : (isAgg t).run P w = .ok false w := by
  unfold oneT at h
  cases hu : P.underlying t with
  | none => simp [hu] at h
  | some d => rw [hu] at h; exact Go.Proofs.run_isAgg_plain hu (by cases d <;> simp_all) w

theorem run_loadAt_one {ad : Addr} {w : World} (h : oneT P t = true) (hc : w.cell? ad = some v) : (Instr.loadAt t (.pointer (some ad))).run P w = .ok v w := by
  simp [Instr.loadAt, Instr.sureAddr, loadVar, run_isAgg_one h, load, Sem.run, hc]

theorem Yl_load {ad : Addr} (hx : evl L x = some (.pointer (some ad))) (h : oneT P t = true) (hc : ∀ w, Hp w0 R M w → w.cell? ad = some v) : Yl P n w0 R (.load t x) ty L M v := .mk fun a w hk hp => by
  simp [execOp, hk.ev hx, run_loadAt_one h (hc w hp)]
theorem Yl_load_blk {b o : Nat} {C : Array Value} {e : TypeId} {fr : Nat × Nat} (hx : evl L x = some (.pointer (some ⟨b, o, none⟩))) (h : oneT P t = true) (hm : Asrt.blk b (.cells C e fr) ∈ M) (hc : C[o]? = some v) : Yl P n w0 R (.load t x) ty L M v :=
  Yl_load hx h fun _ hp => by rw [cell_of_row _ b o C e fr (hp.own _ hm)]; exact hc
theorem Yl_load_rd {A : Option Addr} {m k j : Nat} {xs : List Value} (hx : evl L x = some (.pointer (some ((adr A).add j)))) (h : oneT P t = true) (hr : Rd w0 A m k xs) (hR : (adr A).block ∉ R) (hc : xs[j]? = some v) : Yl P n w0 R (.load t x) ty L M v :=
  Yl_load hx h fun _ hp => (hp.rd hr fun _ => hR).cell j v hc
theorem Yl_load_row {A : Option Addr} {e m k j cap : Nat} {xs : List Value} (hx : evl L x = some (.pointer (some ((adr A).add j)))) (h : oneT P t = true) (hm : Asrt.row e k (.slice A m cap) m xs ∈ M) (hc : xs[j]? = some v) : Yl P n w0 R (.load t x) ty L M v :=
  Yl_load hx h fun _ hp => (Rd.of_row (hp.own _ hm)).cell j v hc

theorem run_loadAt_agg {ad : Addr} {w : World} {k : Nat} (vs : List Value) (h : aggT P t = some k) (hl : vs.length = k) (hc : ∀ j u, vs[j]? = some u → w.cell? (ad.add j) = some u) :
    (Instr.loadAt t (.pointer (some ad))).run P w = .ok (.agg vs.toArray) w := by
  unfold aggT at h
  have hag : (isAgg t).run P w = .ok true w := by
    unfold isAgg
    cases hu : P.underlying t with
    | none => simp [hu] at h
    | some d => rw [Sem.run_bind, run_underlying hu w]; rw [hu] at h; cases d <;> simp_all
  have hsz : ∃ inf, P.info? t = some inf ∧ inf.size = k := by
    cases hu : P.underlying t with
    | none => simp [hu] at h
    | some d => rw [hu] at h; cases d <;> simp_all
  obtain ⟨inf, hi, hs⟩ := hsz
  have hl2 := run_loadCells_list (P := P) w ad vs hc
  simp [Instr.loadAt, Instr.sureAddr, loadVar, hag, sizeOf, typeInfo, hi, hs, ← hl, hl2]

theorem Yl_loadA {ad : Addr} {k : Nat} (vs : List Value) (hx : evl L x = some (.pointer (some ad))) (h : aggT P t = some k) (hl : vs.length = k) (hc : ∀ w, Hp w0 R M w → ∀ j u, vs[j]? = some u → w.cell? (ad.add j) = some u) :
    Yl P n w0 R (.load t x) ty L M (.agg vs.toArray) := .mk fun a w hk hp => by
  simp [execOp, hk.ev hx, run_loadAt_agg vs h hl (hc w hp)]
theorem Yl_loadA_blk {b : Nat} {C : Array Value} {e : TypeId} {fr : Nat × Nat} (hx : evl L x = some (.pointer (some ⟨b, 0, none⟩))) (hm : Asrt.blk b (.cells C e fr) ∈ M) (h : aggT P t = some C.size) : Yl P n w0 R (.load t x) ty L M (.agg C) := by
  have := Yl_loadA (P := P) (n := n) (w0 := w0) (R := R) (L := L) (M := M) (ty := ty) (t := t) C.toList hx h (by simp) fun w hp j u hu => by
    rw [blk_add, Nat.zero_add, cell_of_row w b j C e fr (hp.own _ hm)]; simpa using hu
  simpa using this
theorem Yl_loadA_mid {b o k : Nat} {C : Array Value} {e : TypeId} {fr : Nat × Nat} (hx : evl L x = some (.pointer (some ⟨b, o, none⟩))) (hm : Asrt.blk b (.cells C e fr) ∈ M) (h : aggT P t = some k) (hk : o + k ≤ C.size) :
    Yl P n w0 R (.load t x) ty L M (.agg ((C.toList.drop o).take k).toArray) :=
  Yl_loadA ((C.toList.drop o).take k) hx h (by simp; omega) fun w hp j u hu => by
    rw [blk_add, cell_of_row w b _ C e fr (hp.own _ hm)]
    rw [List.getElem?_take] at hu
    split at hu
    · rw [List.getElem?_drop] at hu; simpa using hu
    · cases hu
theorem Yl_loadA_rd {A : Option Addr} {m k j : Nat} {xs vs : List Value} (hx : evl L x = some (.pointer (some ((adr A).add j)))) (h : aggT P t = some k) (hr : Rd w0 A m k xs) (hR : (adr A).block ∉ R) (hl : vs.length = k) (hc : ∀ i u, vs[i]? = some u → xs[j + i]? = some u) :
    Yl P n w0 R (.load t x) ty L M (.agg vs.toArray) :=
  Yl_loadA vs hx h hl fun _ hp i u hu => by rw [add_add']; exact (hp.rd hr fun _ => hR).cell _ _ (hc i u hu)
theorem Yl_loadA_row {A : Option Addr} {e m k j cap : Nat} {xs vs : List Value} (hx : evl L x = some (.pointer (some ((adr A).add j)))) (h : aggT P t = some k) (hm : Asrt.row e k (.slice A m cap) m xs ∈ M) (hl : vs.length = k) (hc : ∀ i u, vs[i]? = some u → xs[j + i]? = some u) :
    Yl P n w0 R (.load t x) ty L M (.agg vs.toArray) :=
  Yl_loadA vs hx h hl fun _ hp i u hu => by rw [add_add']; exact (Rd.of_row (hp.own _ hm)).cell _ _ (hc i u hu)

theorem run_indexAt {A : Option Addr} {m cap k j : Nat} {e : TypeId} {kd : IntKind} {w : World} (ht : P.underlying t = some (.slice e)) (hs : sizT P e = some k) (hA : A = some (adr A)) (hj : j < m) :
    (Instr.indexAt t (.slice A m cap) (.int kd (j : Int))).run P w = .ok (.pointer (some ((adr A).add (j * k)))) w := by
  obtain ⟨inf, hi, hs⟩ := Option.map_eq_some_iff.1 hs
  rw [hA]
  simp [Instr.indexAt, asIntOf, run_underlying ht, hj, sizeOf, typeInfo, hi, hs, adr]

theorem Yl_index {A : Option Addr} {m cap k j : Nat} {e : TypeId} {kd : IntKind} (hx : evl L x = some (.slice A m cap)) (hy : evl L y = some (.int kd (j : Int))) (ht : P.underlying t = some (.slice e)) (hs : sizT P e = some k)
    (hj : j < m) (hA : A = some (adr A)) : Yl P n w0 R (.indexAddr t x y) ty L M (.pointer (some ((adr A).add (j * k)))) := .mk fun a w hk _ => by
  simp [execOp, hk.ev hx, hk.ev hy, run_indexAt ht hs hA hj]

/-- An index into an array that lies in memory. -/
theorem Yl_index_arr {b o len j k : Nat} {e : TypeId} {kd : IntKind} (hx : evl L x = some (.pointer (some ⟨b, o, none⟩))) (hy : evl L y = some (.int kd (j : Int))) (ht : P.underlying t = some (.array len e)) (hs : sizT P e = some k) (hj : j < len) :
    Yl P n w0 R (.indexAddr t x y) ty L M (.pointer (some ⟨b, o + j * k, none⟩)) := .mk fun a w hk _ => by
  obtain ⟨inf, hi, hs⟩ := Option.map_eq_some_iff.1 hs
  simp [execOp, hk.ev hx, hk.ev hy, Instr.indexAt, asIntOf, run_underlying ht, Instr.sureAddr, hj, sizeOf, typeInfo, hi, hs, blk_add]
theorem Yl_index_arrI {b o len k : Nat} {j : Int} {e : TypeId} {kd : IntKind} (hx : evl L x = some (.pointer (some ⟨b, o, none⟩))) (hy : evl L y = some (.int kd j)) (ht : P.underlying t = some (.array len e)) (hs : sizT P e = some k) (h0 : 0 ≤ j) (hj : j < len) :
    Yl P n w0 R (.indexAddr t x y) ty L M (.pointer (some ⟨b, o + j.toNat * k, none⟩)) := by
  obtain ⟨m, rfl⟩ := Int.eq_ofNat_of_zero_le h0
  exact Yl_index_arr hx hy ht hs (by omega)
theorem Yl_indexI {A : Option Addr} {m cap k : Nat} {j : Int} {e : TypeId} {kd : IntKind} (hx : evl L x = some (.slice A m cap)) (hy : evl L y = some (.int kd j)) (ht : P.underlying t = some (.slice e)) (hs : sizT P e = some k)
    (h0 : 0 ≤ j) (hj : j < m) (hA : A = some (adr A)) : Yl P n w0 R (.indexAddr t x y) ty L M (.pointer (some ((adr A).add (j.toNat * k)))) := by
  obtain ⟨m, rfl⟩ := Int.eq_ofNat_of_zero_le h0
  exact Yl_index hx hy ht hs (by omega) hA

/-! ### Which operation is it? -/
theorem is_move {K : Value → Prop} {x : Operand} (h : ∃ v, Yl P n w0 R (.move x) ty L M v ∧ K v) : ∃ v, Yl P n w0 R (.move x) ty L M v ∧ K v := h
theorem is_assign {K : Value → Prop} {x : Operand} (h : ∃ v, Yl P n w0 R (.assign x) ty L M v ∧ K v) : ∃ v, Yl P n w0 R (.assign x) ty L M v ∧ K v := h
theorem is_pick {K : Value → Prop} {c x y : Operand} (h : ∃ v, Yl P n w0 R (.pick c x y) ty L M v ∧ K v) : ∃ v, Yl P n w0 R (.pick c x y) ty L M v ∧ K v := h
theorem is_nil {K : Value → Prop} {x : Operand} (h : ∃ v, Yl P n w0 R (.nilCheck x) ty L M v ∧ K v) : ∃ v, Yl P n w0 R (.nilCheck x) ty L M v ∧ K v := h
theorem is_fld {K : Value → Prop} {t : TypeId} {x : Operand} {i : Nat} (h : ∃ v, Yl P n w0 R (.fieldAddr t x i) ty L M v ∧ K v) : ∃ v, Yl P n w0 R (.fieldAddr t x i) ty L M v ∧ K v := h
theorem is_ext {K : Value → Prop} {x : Operand} {i : Nat} (h : ∃ v, Yl P n w0 R (.extract x i) ty L M v ∧ K v) : ∃ v, Yl P n w0 R (.extract x i) ty L M v ∧ K v := h
theorem is_un {K : Value → Prop} {u : UnOp} {t : TypeId} {x : Operand} (h : ∃ v, Yl P n w0 R (.unOp u t x) ty L M v ∧ K v) : ∃ v, Yl P n w0 R (.unOp u t x) ty L M v ∧ K v := h
theorem is_len {K : Value → Prop} {a : Array Operand} {ts : Array TypeId} (h : ∃ v, Yl P n w0 R (.call { callee := .builtin .len, args := a, argTypes := ts }) ty L M v ∧ K v) : ∃ v, Yl P n w0 R (.call { callee := .builtin .len, args := a, argTypes := ts }) ty L M v ∧ K v := h
theorem is_load {K : Value → Prop} {t : TypeId} {x : Operand} (h : ∃ v, Yl P n w0 R (.load t x) ty L M v ∧ K v) : ∃ v, Yl P n w0 R (.load t x) ty L M v ∧ K v := h
theorem is_idx {K : Value → Prop} {t : TypeId} {x y : Operand} (h : ∃ v, Yl P n w0 R (.indexAddr t x y) ty L M v ∧ K v) : ∃ v, Yl P n w0 R (.indexAddr t x y) ty L M v ∧ K v := h
theorem is_index {K : Value → Prop} {t : TypeId} {x y : Operand} (h : ∃ v, Yl P n w0 R (.index t x y) ty L M v ∧ K v) : ∃ v, Yl P n w0 R (.index t x y) ty L M v ∧ K v := h
theorem is_fieldv {K : Value → Prop} {t : TypeId} {x : Operand} {i : Nat} (h : ∃ v, Yl P n w0 R (.field t x i) ty L M v ∧ K v) : ∃ v, Yl P n w0 R (.field t x i) ty L M v ∧ K v := h
theorem is_build {K : Value → Prop} {t : TypeId} {ps : Array (Nat × Operand)} (h : ∃ v, Yl P n w0 R (.build t ps) ty L M v ∧ K v) : ∃ v, Yl P n w0 R (.build t ps) ty L M v ∧ K v := h
theorem is_conv {K : Value → Prop} {s d : TypeId} {x : Operand} (h : ∃ v, Yl P n w0 R (.convert s d x) ty L M v ∧ K v) : ∃ v, Yl P n w0 R (.convert s d x) ty L M v ∧ K v := h
theorem is_slice {K : Value → Prop} {t : TypeId} {x : Operand} {l hh m : Option Operand} (h : ∃ v, Yl P n w0 R (.slice t x l hh m) ty L M v ∧ K v) : ∃ v, Yl P n w0 R (.slice t x l hh m) ty L M v ∧ K v := h
theorem is_mkf {K : Value → Prop} {f : Fn} {a b : Array Operand} (h : ∃ v, Yl P n w0 R (.makeFunc f a b) ty L M v ∧ K v) : ∃ v, Yl P n w0 R (.makeFunc f a b) ty L M v ∧ K v := h
theorem is_b_lss {K : Value → Prop} {t yt : TypeId} {x y : Operand} (h : ∃ v, Yl P n w0 R (.binOp .lss t x y yt) ty L M v ∧ K v) : ∃ v, Yl P n w0 R (.binOp .lss t x y yt) ty L M v ∧ K v := h
theorem is_b_leq {K : Value → Prop} {t yt : TypeId} {x y : Operand} (h : ∃ v, Yl P n w0 R (.binOp .leq t x y yt) ty L M v ∧ K v) : ∃ v, Yl P n w0 R (.binOp .leq t x y yt) ty L M v ∧ K v := h
theorem is_b_gtr {K : Value → Prop} {t yt : TypeId} {x y : Operand} (h : ∃ v, Yl P n w0 R (.binOp .gtr t x y yt) ty L M v ∧ K v) : ∃ v, Yl P n w0 R (.binOp .gtr t x y yt) ty L M v ∧ K v := h
theorem is_b_geq {K : Value → Prop} {t yt : TypeId} {x y : Operand} (h : ∃ v, Yl P n w0 R (.binOp .geq t x y yt) ty L M v ∧ K v) : ∃ v, Yl P n w0 R (.binOp .geq t x y yt) ty L M v ∧ K v := h
theorem is_b_eql {K : Value → Prop} {t yt : TypeId} {x y : Operand} (h : ∃ v, Yl P n w0 R (.binOp .eql t x y yt) ty L M v ∧ K v) : ∃ v, Yl P n w0 R (.binOp .eql t x y yt) ty L M v ∧ K v := h
theorem is_b_neq {K : Value → Prop} {t yt : TypeId} {x y : Operand} (h : ∃ v, Yl P n w0 R (.binOp .neq t x y yt) ty L M v ∧ K v) : ∃ v, Yl P n w0 R (.binOp .neq t x y yt) ty L M v ∧ K v := h
theorem is_b_add {K : Value → Prop} {t yt : TypeId} {x y : Operand} (h : ∃ v, Yl P n w0 R (.binOp .add t x y yt) ty L M v ∧ K v) : ∃ v, Yl P n w0 R (.binOp .add t x y yt) ty L M v ∧ K v := h
theorem is_b_sub {K : Value → Prop} {t yt : TypeId} {x y : Operand} (h : ∃ v, Yl P n w0 R (.binOp .sub t x y yt) ty L M v ∧ K v) : ∃ v, Yl P n w0 R (.binOp .sub t x y yt) ty L M v ∧ K v := h
theorem is_b_mul {K : Value → Prop} {t yt : TypeId} {x y : Operand} (h : ∃ v, Yl P n w0 R (.binOp .mul t x y yt) ty L M v ∧ K v) : ∃ v, Yl P n w0 R (.binOp .mul t x y yt) ty L M v ∧ K v := h
theorem is_b_rem {K : Value → Prop} {t yt : TypeId} {x y : Operand} (h : ∃ v, Yl P n w0 R (.binOp .rem t x y yt) ty L M v ∧ K v) : ∃ v, Yl P n w0 R (.binOp .rem t x y yt) ty L M v ∧ K v := h
theorem is_b_quo {K : Value → Prop} {t yt : TypeId} {x y : Operand} (h : ∃ v, Yl P n w0 R (.binOp .quo t x y yt) ty L M v ∧ K v) : ∃ v, Yl P n w0 R (.binOp .quo t x y yt) ty L M v ∧ K v := h
theorem is_b_and {K : Value → Prop} {t yt : TypeId} {x y : Operand} (h : ∃ v, Yl P n w0 R (.binOp .and t x y yt) ty L M v ∧ K v) : ∃ v, Yl P n w0 R (.binOp .and t x y yt) ty L M v ∧ K v := h
theorem is_b_or {K : Value → Prop} {t yt : TypeId} {x y : Operand} (h : ∃ v, Yl P n w0 R (.binOp .or t x y yt) ty L M v ∧ K v) : ∃ v, Yl P n w0 R (.binOp .or t x y yt) ty L M v ∧ K v := h
theorem is_b_shl {K : Value → Prop} {t yt : TypeId} {x y : Operand} (h : ∃ v, Yl P n w0 R (.binOp .shl t x y yt) ty L M v ∧ K v) : ∃ v, Yl P n w0 R (.binOp .shl t x y yt) ty L M v ∧ K v := h
theorem is_b_shr {K : Value → Prop} {t yt : TypeId} {x y : Operand} (h : ∃ v, Yl P n w0 R (.binOp .shr t x y yt) ty L M v ∧ K v) : ∃ v, Yl P n w0 R (.binOp .shr t x y yt) ty L M v ∧ K v := h
theorem is_b_andNot {K : Value → Prop} {t yt : TypeId} {x y : Operand} (h : ∃ v, Yl P n w0 R (.binOp .andNot t x y yt) ty L M v ∧ K v) : ∃ v, Yl P n w0 R (.binOp .andNot t x y yt) ty L M v ∧ K v := h
end
end Go.Proofs.Ytdbpnolpgkcjiaa
