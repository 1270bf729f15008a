/- A range over a function, in my engine: the walk in a round's frame; the statement; the function's return with its mark. -/
import Derived.Test.YtegaejbfhpigjaaAuto
import Derived.RangeFuncLeaves
import Derived.RangeFuncSeq
namespace Go.Proofs.Ytegaejbfhpigjaa
open Go.RowKit

/-! ### From a plain walk to a walk in a round -/

def plainOp : Op → Bool
  | .defer _ => false
  | _ => true

theorem plainOp_ne {o : Op} (h : plainOp o = true) : ∀ c, o ≠ .defer c := fun c e => by rw [e] at h; cases h

theorem rowsIn_round {P : Program} {row : String} {args : Array Value} {w : World} {K : Value → World → Prop} (r m : Nat) (h : Rows P row args w K) : RowsIn (Fence.wide.inRound r) m P row args w K :=
  fun c cs _ => let ⟨v, w', q, s⟩ := h c cs; ⟨v, w', q, by rw [fenced_inRound]; exact stepsIn_wide.2 s⟩

theorem callsIn_round {P : Program} {f : FuncId} {args : Array Value} {w : World} {K : Ending → World → Prop} (r m : Nat) (h : Calls P f args w K) : CallsIn (Fence.wide.inRound r) m P f args w K :=
  (callsIn_wide (n := m)).2 h

theorem owpIn_round {P : Program} {o : Oper} {a : Act} {w : World} {next next' : Act → World → Prop} {Q : Exit → Act → World → Prop} (r m : Nat) (hd : plainOp o.op = true) (h : o.wp P a w next Q) (hn : ∀ a w, next a w → next' a w) :
    o.wpIn (Fence.wide.inRound r) m P a w next' Q := by
  refine ⟨fun _ _ => trivial, ?_⟩
  rw [Oper.semAt_eq _ _ _ (plainOp_ne hd)]
  unfold Oper.wp at h
  generalize (execOp a.eval o).run P w = res at h ⊢
  have hdep : ∀ k : Nat, (Fence.wide.inRound r).depth.isSome = true → 1 ≤ k := fun k h => by cases h
  cases res with
  | ok nx w' =>
    cases nx with
    | value v => exact hn _ _ h
    | skip => exact hn _ _ h
    | defer d => exact hn _ _ h
    | enter f args =>
      refine ⟨hdep _, CallsIn.mono (callsIn_round r _ h) ?_⟩
      intro e w'' q
      cases e with
      | returned v => exact hn _ _ q
      | panicked c => exact q
      | outgrown => exact q
    | row row args =>
      exact ⟨hdep _, RowsIn.mono (rowsIn_round r _ h) fun v w'' q => hn _ _ q⟩
    | round => exact h.elim
    | _ => exact h.elim
  | halt x w' =>
    cases x with
    | panic v => exact h
    | _ => exact h.elim

theorem wpListIn_round {P : Program} {ops : Array Oper} {Q : Exit → Act → World → Prop} (r m : Nat) (hlo : ¬ LetsOut Q) : ∀ (l : List Oper) (a : Act) (w : World), l.all (fun o => plainOp o.op) = true → wpList P ops Q l a w → wpListIn (Fence.wide.inRound r) m P ops Q l a w
  | [], _, _, _, h => h
  | o :: rest, a, w, hd, h => by
    simp only [List.all_cons, Bool.and_eq_true] at hd
    unfold wpList at h
    unfold wpListIn
    split
    · rename_i hw
      rw [if_pos hw] at h
      rcases h with h | ⟨_, h⟩
      · exact owpIn_round r m hd.1 h fun a w h' => wpListIn_round r m hlo rest a w hd.2 h'
      · exact (hlo h).elim
    · rename_i hw
      rw [if_neg hw] at h
      exact ⟨fun _ _ => trivial, wpListIn_round r m hlo rest _ w hd.2 h⟩

theorem wpOpsIn_round {P : Program} {ops : Array Oper} {Q : Exit → Act → World → Prop} (r m : Nat) (hlo : ¬ LetsOut Q) (hd : ops.toList.all (fun o => plainOp o.op) = true) : ∀ (l : List Nat) (a : Act) (w : World), wpOps P ops Q l a w → wpOpsIn (Fence.wide.inRound r) m P ops Q l a w
  | [], _, _, h => h
  | i :: rest, a, w, h => by
    simp only [wpOps] at h
    simp only [wpOpsIn]
    cases ho : ops[i]? with
    | none => rw [ho] at h; exact wpOpsIn_round r m hlo hd rest a w h
    | some o =>
      rw [ho] at h
      simp only at h ⊢
      split
      · rename_i hw
        rw [if_pos hw] at h
        rcases h with h | ⟨_, h⟩
        · have hp : plainOp o.op = true := List.all_eq_true.1 hd o (Array.mem_toList_iff.2 (Array.mem_of_getElem? ho))
          exact owpIn_round r m hp h fun a w h' => wpOpsIn_round r m hlo hd rest a w h'
        · exact (hlo h).elim
      · rename_i hw
        rw [if_neg hw] at h
        exact ⟨fun _ _ => trivial, wpOpsIn_round r m hlo hd rest _ w h⟩

/-! ### The walk in a round -/

/-- A piece of code, in a round's frame. -/
structure TR (P : Program) (n : Nat) (w0 : World) (R : List Nat) (r : Nat) (c : Code) (Q : Exit → List (Nat × Value) → List Asrt → Prop) (L : List (Nat × Value)) (M : List Asrt) : Prop where
  run : ∀ a w, Kn n L a → Hp w0 R M w → c.wpIn (Fence.wide.inRound r) 0 P (post n w0 R Q) a w

section
variable {P : Program} {n : Nat} {w0 : World} {R : List Nat} {r : Nat} {L : List (Nat × Value)} {M : List Asrt} {Q : Exit → List (Nat × Value) → List Asrt → Prop}

theorem noOut {K : List (Nat × Value) → List Asrt → Prop} : ¬ LetsOut (regQ n w0 R K) := fun ⟨_, _, h⟩ => h

theorem regQ_post {Q : Exit → List (Nat × Value) → List Asrt → Prop} : ∀ e a w, regQ n w0 R (Q .normal) e a w → post n w0 R Q e a w := fun e a w hq => by
  cases e <;> first | exact hq | exact hq.elim

theorem TR.region {id : Nat} {l : List Oper} (hd : l.all (fun o => plainOp o.op) = true) (h : TL P n w0 R l.toArray (Q .normal) l L M) : TR P n w0 R r (.region id l.toArray false) Q L M :=
  .mk fun a w hk hp => wpIn_mono (wpIn_region_lit (wpListIn_round r 0 noOut l a w hd (h.run a w hk hp))) regQ_post

theorem TR.draw {id : Nat} {ops : Array Oper} (sched : List (Nat × Bool)) (Mc : List Asrt) (hd : ops.toList.all (fun o => plainOp o.op) = true) (hm : P.follows .mixedOrders = true) (hB : drawOK ops sched = true) (hMc : Mc.Sublist M)
    (h : TS P n w0 R ops Mc (Q .normal) sched L M) : TR P n w0 R r (.region id ops true) Q L M := by
  refine .mk fun a w hk hp => ?_
  simp only [drawOK, Bool.and_eq_true, beq_iff_eq] at hB
  have hdr : Hp w0 R M w.drew := hp.drew
  refine wpIn_mono (Q := regQ n w0 R (Q .normal)) (wpIn_region_draw fun t => ?_) regQ_post
  have hH := wpS_sound (P := P) (S := Hp w0 R Mc) (Q := regQ n w0 R (Q .normal)) hB.1.1 (fun _ _ _ _ _ h => h) sched _ a w.drew hB.2 (hdr.weaken hMc) (h.run a w.drew hk hdr (hdr.weaken hMc))
  rw [hB.1.2] at hH
  have hA := wpAny_of_held _ _ _ _ hH
  simp only [Region.schedule, hm, Bool.true_or, if_true]
  exact wpOpsIn_round r 0 noOut hd _ a _ (wpAny_sound ops.size t _ a _ hA)

theorem TR.block {c : Code} {id : Nat} (h : TR P n w0 R r c (blockQ id Q) L M) : TR P n w0 R r (.block id c) Q L M :=
  .mk fun a w hk hp => wpIn_block (wpIn_mono (h.run a w hk hp) fun e a' w' ⟨L', M', hk', hp', hq⟩ => by
    cases e with
    | exit id' =>
      simp only [blockQ] at hq
      simp only [Exit.inBlock]
      split
      · rename_i he; rw [if_pos he] at hq; exact ⟨L', M', hk', hp', hq⟩
      · rename_i he; rw [if_neg he] at hq; exact ⟨L', M', hk', hp', hq⟩
    | _ => exact ⟨L', M', hk', hp', hq⟩)
end

/-! ### The statement -/

theorem Hp.self {w0 w : World} {R : List Nat} {N : List Asrt} (h : Hp w0 R N w) : Hp w (N.flatMap Asrt.foot) N w :=
  ⟨rfl, rfl, rfl, Nat.le_refl _, fun _ _ _ => rfl, h.own, h.nodup, fun k hk => .inl hk⟩

theorem grownBy_put (w : World) (r : Nat) (o : Obj) : w.grownBy (w.putObj r o) (some r) :=
  ⟨rfl, rfl, rfl, by simp, fun _ _ hne => World.putObj_heap_other (fun e => hne (by rw [e]))⟩

/-- A block that is owned is laid anew. -/
theorem Hp.put {w0 w : World} {R : List Nat} {M : List Asrt} (h : Hp w0 R M w) {i l : Nat} {o : Obj} (o' : Obj) (hi : M[i]? = some (.blk l o)) : Hp w0 R (M.set i (.blk l o')) (w.putObj l o') :=
  have hl : w.heap[l]? = some o := h.own _ (List.mem_of_getElem? hi)
  h.step hi (grownBy_put w l o') (fun k hk => by cases hk; simp [Asrt.foot]) (A' := .blk l o') (World.putObj_heap_same (heap_lt hl)) (fun k hk => .inl hk) (by simp [Asrt.foot])

/-- The loop's record. -/
def recOf (fn : FuncId) (tmps : Array Value) (ps : Array Tmp) (assign body : Code) (D : Nat) (st : LoopState) : Loop :=
  { state := st, pending := none, fn := fn, tmps := tmps, params := ps, assign := assign, body := body, defers := D }

def recs (l D : Nat) (rc : Loop) : List Asrt := [.blk l (.loop rc), .blk D (.deferred (some []))]

/-- What an iterator is told of a call of yield: G: the round's things, in a state s; pr s: what has come; A x: what is handed over with x; E x: the argument. -/
def Yields {β σ : Type} (P : Program) (N : Nat) (l : Nat) (A : β → List Asrt) (E : β → Value) (pr : σ → List β) (G : σ → List Asrt) : Prop :=
  ∀ (s : σ) (x : β) (w : World), (pr s).length < N → Hp w ((A x ++ G s).flatMap Asrt.foot) (A x ++ G s) w →
    YieldAt Fence.wide 0 P l #[E x] w fun e w' => e = .returned (.bool true) ∧ ∃ s', pr s' = pr s ++ [x] ∧ Hp w ((A x ++ G s).flatMap Asrt.foot) (G s') w'

theorem getElem?_at {l1 l2 : List Asrt} {A : Asrt} {i : Nat} (hi : l1.length = i) : (l1 ++ A :: l2)[i]? = some A := by
  subst hi; simp

section
variable {P : Program} {n : Nat} {w0 : World} {R : List Nat} {L : List (Nat × Value)} {M : List Asrt}

/-- **The statement**: M: all that is known; G: what the rounds turn, by what has come. -/
theorem range_wp {β σ : Type} (NN : Nat) {g : Operand} {p : Tmp} {assign body : Code} {gf : FuncId} {lb : Array Value} {a : Act} {w : World} {Q : Exit → Act → World → Prop}
    (A : β → List Asrt) (E : β → Value) (pr : σ → List β) (G : σ → List Asrt) (Z : List Asrt) (s0 : σ) (Done : σ → Prop)
    (hk : Kn n L a) (hp : Hp w0 R (G s0 ++ Z) w) (hg : evl L g = some (.func (.func gf) #[] lb)) (hen : Enters P gf) (hpn : Nat.blt p n = true)
    (hiter : ∀ (l : Nat) (G' : σ → List Asrt) (w : World), (∃ N, ∀ s, G' s = G s ++ N) → Yields P NN l A E pr G' → Hp w0 R (G' s0 ++ Z) w →
      Sp P gf (.func (.yield l) #[] #[] :: lb.toList) w ((G' s0).flatMap Asrt.foot) (fun _ N => ∃ s, Done s ∧ N = G' s))
    (hround : ∀ (l D : Nat) (W : World) (s : σ) (x : β) (rc rc' : Loop), (pr s).length < NN →
      TR P n W ((A x ++ (G s ++ recs l D rc)).flatMap Asrt.foot) l assign (fun e L1 M1 => e = .normal ∧ ∃ N1, M1 = N1 ++ recs l D rc ∧
        TR P n W ((A x ++ (G s ++ recs l D rc)).flatMap Asrt.foot) l body (fun e _ M2 => e = .normal ∧ ∃ s', pr s' = pr s ++ [x] ∧
          ∀ w', Hp W ((A x ++ (G s ++ recs l D rc)).flatMap Asrt.foot) M2 w' → Hp W ((A x ++ (G s ++ recs l D rc)).flatMap Asrt.foot) (G s' ++ recs l D rc') w') L1 (N1 ++ recs l D rc')) ((p, E x) :: L) (A x ++ (G s ++ recs l D rc)))
    (hQ : ∀ D s w', Done s → Hp w0 R (G s ++ .blk D (.deferred (some [])) :: Z) w' → Q .normal { a with defers := [{ target := .collected D, args := #[] }] } w') :
    (Code.rangeFunc g #[p] assign body).wp P Q a w := by
  refine (wpIn_wide (n := 1)).1 (wpIn_rangeFunc fun fn hfn => ?_)
  have hd := hk.defers
  let rc := fun st => recOf fn a.tmps #[p] assign body w.heap.size st
  let W1 := (w.alloc (.deferred (some []))).alloc (.loop (rc .ready))
  have hp1 : Hp w0 R (recs (w.heap.size + 1) w.heap.size (rc .ready) ++ (G s0 ++ Z)) W1 := by
    have h1 := (hp.alloc (.deferred (some []))).alloc (.loop (rc .ready))
    rw [World.size_alloc] at h1
    exact h1
  have hp2 : Hp w0 R ((G s0 ++ recs (w.heap.size + 1) w.heap.size (rc .ready)) ++ Z) W1 := hp1.perm (by
    rw [← List.append_assoc]
    exact List.Perm.append_right _ List.perm_append_comm)
  refine ⟨w.heap.size + 1, [{ target := .collected w.heap.size, args := #[] }], W1, { target := .fn (.func gf) lb, args := #[.func (.yield (w.heap.size + 1)) #[] #[]] }, W1, gf,
    #[.func (.yield (w.heap.size + 1)) #[] #[]] ++ lb, W1, ?_, ?_, ?_, ?_, fun h => (by cases h), ?_⟩
  · exact run_enterLoop_outer _ _ _ _ _
  · simp only [resolve, hk.ev hg]
    simp [go_sem]
  · intro f' _; trivial
  · have he := hen (#[.func (.yield (w.heap.size + 1)) #[] #[]] ++ lb) W1
    simpa [invoke, go_sem] using he
  · let G' : σ → List Asrt := fun s => G s ++ recs (w.heap.size + 1) w.heap.size (rc .ready)
    have hY : Yields P NN (w.heap.size + 1) A E pr G' := by
      intro s x W hlen hW
      have hl0 : W.heap[w.heap.size + 1]? = some (.loop (rc .ready)) := hW.own (.blk _ _) (by simp [G', recs])
      have hy := run_yield (P := P) (args := #[E x]) hl0 rfl
      refine ⟨fn, _, assign, body, hy, roundIn_of_wpIn hfn ?_⟩
      have hk0 : Kn n ((p, E x) :: L) { tmps := a.tmps.setIfInBounds p (E x), defers := [] } := by
        have h0 : Kn n L { a with defers := [] } := ⟨hk.size, rfl, hk.get⟩
        exact h0.put (E x) hpn
      have hz : ((rc .ready).params.zip #[E x]).foldl (fun tmps (t, v) => tmps.setIfInBounds t v) (rc .ready).tmps = a.tmps.setIfInBounds p (E x) := by
        simp [rc, recOf]
      rw [hz]
      refine wpIn_mono ((hround (w.heap.size + 1) w.heap.size W s x (rc .ready) (rc .busy) hlen).run _ W hk0 hW) ?_
      rintro e a1 w1 ⟨L1, M1, hk1, hpp, rfl, N1, rfl, hb⟩
      have hl1 : w1.heap[w.heap.size + 1]? = some (.loop (rc .ready)) := hpp.own (.blk _ _) (by simp [recs])
      refine ⟨_, run_beginRound hl1 rfl, ?_⟩
      have hq1 := hpp.put (i := N1.length) (.loop (rc .busy)) (getElem?_at rfl)
      have he1 : (N1 ++ recs (w.heap.size + 1) w.heap.size (rc .ready)).set N1.length (.blk (w.heap.size + 1) (.loop (rc .busy))) = N1 ++ recs (w.heap.size + 1) w.heap.size (rc .busy) := set_at rfl
      rw [he1] at hq1
      refine wpIn_mono (hb.run a1 _ hk1 hq1) ?_
      rintro e2 a2 w2 ⟨L2, M2, hk2, hp3, rfl, s', hs', hs⟩
      have hp4 := hs _ hp3
      have hl2 : w2.heap[w.heap.size + 1]? = some (.loop (rc .busy)) := hp4.own (.blk _ _) (by simp [recs])
      have hr2 := run_endRound (P := P) none hl2
      refine ⟨_, _, hr2, rfl, s', hs', ?_⟩
      have hq2 := hp4.put (i := (G s').length) (.loop (rc .ready)) (getElem?_at rfl)
      have he2 : (G s' ++ recs (w.heap.size + 1) w.heap.size (rc .busy)).set (G s').length (.blk (w.heap.size + 1) (.loop (rc .ready))) = G s' ++ recs (w.heap.size + 1) w.heap.size (rc .ready) := set_at rfl
      rw [he2] at hq2
      exact hq2
    have hs := hiter (w.heap.size + 1) G' W1 ⟨_, fun _ => rfl⟩ hY hp2
    have hc := hs.run
    have hargs : (Value.func (.yield (w.heap.size + 1)) #[] #[] :: lb.toList).toArray = #[.func (.yield (w.heap.size + 1)) #[] #[]] ++ lb := by
      apply Array.ext'; simp
    rw [hargs] at hc
    refine CallsIn.mono (callsIn_wide.2 hc) ?_
    rintro e w3 ⟨v, N, rfl, ⟨s, hys, rfl⟩, hN⟩
    have hp5 : Hp w0 R (G' s ++ Z) w3 := hp2.moreS hN
    have hl3 : w3.heap[w.heap.size + 1]? = some (.loop (rc .ready)) := hp5.own (.blk _ _) (by simp [G', recs])
    refine ⟨none, _, run_endLoop hl3 (by simp [rc, recOf]), ?_⟩
    have hp6 : Hp w0 R (G s ++ .blk (w.heap.size + 1) (.loop (rc .ready)) :: (.blk w.heap.size (.deferred (some [])) :: Z)) w3 := by
      have := hp5
      simp only [G', recs, List.append_assoc, List.cons_append, List.nil_append] at this
      exact this
    have hq3 := hp6.put (i := (G s).length) (.loop { rc .ready with state := .exhausted }) (getElem?_at rfl)
    have he3 : (G s ++ .blk (w.heap.size + 1) (.loop (rc .ready)) :: (.blk w.heap.size (.deferred (some [])) :: Z)).set (G s).length (.blk (w.heap.size + 1) (.loop { rc .ready with state := .exhausted })) = G s ++ .blk (w.heap.size + 1) (.loop { rc .ready with state := .exhausted }) :: (.blk w.heap.size (.deferred (some [])) :: Z) := set_at rfl
    rw [he3] at hq3
    have := hQ w.heap.size s _ hys (hq3.weaken (by
      refine List.Sublist.append (List.Sublist.refl _) ?_
      exact List.Sublist.cons _ (List.Sublist.refl _)))
    rw [hd]
    exact this
end

/-! ### Functions that hold the statement -/

theorem Sp.enterM {P : Program} {n : Nat} {R : List Nat} {f : FuncId} {fn : Func} {c : Code} {args : List Value} {w : World} {Res : Value → List Asrt → Prop} {M0 : List Asrt} (hf : P.funcs[f]? = some fn) (hb : fn.body = some c) (hn : fn.ntmps = n) (hsz : Nat.ble args.length n = true) (hM : Hp w R M0 w)
    (h : ∀ a, Kn n (argL 0 args) a → c.wp P (bodyPostM Fence.wide 0 P fn (fun e w' => ∃ v N, e = .returned v ∧ Res v N ∧ Hp w R N w')) a w) : Sp P f args w R Res := by
  have hle : args.length ≤ n := Nat.le_of_ble_eq_true hsz
  refine .mk (callsIn_wide.1 (callsIn_of_wp_marks hf hb trivial ((wpIn_wide (n := 0)).2 (h _ ⟨?_, rfl, fun i v hv => ?_⟩)) rfl))
  · simp; omega
  · obtain ⟨_, h2⟩ := argL_get args 0 i v hv
    have hi := (List.getElem?_eq_some_iff.1 h2).1
    simp only [Nat.sub_zero] at h2 hi
    simp only [Array.getD_eq_getD_getElem?]
    rw [Array.getElem?_append_left (by simpa using hi)]
    simp [h2]

/-- A piece of code, from what is known to a post of one's own. -/
structure TW (P : Program) (n : Nat) (w0 : World) (R : List Nat) (c : Code) (Q : Exit → Act → World → Prop) (L : List (Nat × Value)) (M : List Asrt) : Prop where
  run : ∀ a w, Kn n L a → Hp w0 R M w → c.wp P Q a w

def mixQ (n : Nat) (w0 : World) (R : List Nat) (Q : Exit → Act → World → Prop) (Z : List (Nat × Value) → List Asrt → Prop) : Exit → List (Nat × Value) → List Asrt → Prop
  | .normal, L, M => Z L M
  | e, L, M => ∀ a w, Kn n L a → Hp w0 R M w → Q e a w

section
variable {P : Program} {n : Nat} {w0 : World} {R : List Nat} {L : List (Nat × Value)} {M : List Asrt} {Q : Exit → Act → World → Prop}
theorem TW.seq {x y : Code} (h : T P n w0 R x (mixQ n w0 R Q (TW P n w0 R y Q)) L M) : TW P n w0 R (.seq x y) Q L M :=
  .mk fun a w hk hp => wp_seq (wp_mono (h.run a w hk hp) fun e a' w' ⟨L', M', hk', hp', hq⟩ => by
    cases e <;> first | exact hq.run a' w' hk' hp' | exact hq a' w' hk' hp')
theorem TW.seqW {x y : Code} (h : TW P n w0 R x (Exit.then (fun a w => y.wp P Q a w) Q) L M) : TW P n w0 R (.seq x y) Q L M :=
  .mk fun a w hk hp => wp_seq (h.run a w hk hp)
theorem TW.block {x : Code} {id : Nat} (h : TW P n w0 R x (Exit.inBlock id Q) L M) : TW P n w0 R (.block id x) Q L M :=
  .mk fun a w hk hp => wp_block (h.run a w hk hp)
/-- The memory, shown another way. -/
theorem TW.mem {c : Code} {M' : List Asrt} (hM : ∀ w, Hp w0 R M w → Hp w0 R M' w) (h : TW P n w0 R c Q L M') : TW P n w0 R c Q L M :=
  .mk fun a w hk hp => h.run a w hk (hM w hp)
theorem retM {fn : Func} {Res : Value → List Asrt → Prop} {v : Value} (N : List Asrt) (hr : ∀ a w, Kn n L a → Hp w0 R M w → (results fn a.tmps).run P w = .ok v w) (hN : N.Sublist M) (h : Res v N) :
    ∀ a w, Kn n L a → Hp w0 R M w → bodyPostM Fence.wide 0 P fn (fun e w' => ∃ v N, e = .returned v ∧ Res v N ∧ Hp w0 R N w') .ret a w := fun a w hk hp => by
  show LeavesInM _ _ _ _ _ _ a.defers _ _
  rw [hk.defers]
  exact ⟨v, hr a w hk hp, v, N, rfl, h, hp.weaken hN⟩
end

theorem mixQ_n {n : Nat} {w0 : World} {R : List Nat} {Q : Exit → Act → World → Prop} {Z : List (Nat × Value) → List Asrt → Prop} {L : List (Nat × Value)} {M : List Asrt} (h : Z L M) : mixQ n w0 R Q Z .normal L M := h
theorem Kn.bare {n : Nat} {L : List (Nat × Value)} {a : Act} (h : Kn n L a) (D : Nat) : Kn n L { a with defers := [] } := ⟨h.size, rfl, h.get⟩
theorem Hp.notIn {w0 w : World} {M M' : List Asrt} {k : Nat} (h : Hp w0 [] (M ++ M') w) (hk : k < w0.heap.size) : k ∉ M.flatMap Asrt.foot := fun hm => by
  have := h.lo k (by rw [List.flatMap_append]; exact List.mem_append_left _ hm)
  rcases this with h1 | h1
  · exact List.not_mem_nil h1
  · omega
theorem Hp.notInR {w0 w : World} {R : List Nat} {M M' : List Asrt} {k : Nat} (h : Hp w0 R (M ++ M') w) (hR : k ∉ R) (hk : k < w0.heap.size) : k ∉ M.flatMap Asrt.foot := fun hm => by
  have := h.lo k (by rw [List.flatMap_append]; exact List.mem_append_left _ hm)
  rcases this with h1 | h1
  · exact hR h1
  · omega
theorem Hp.notInZ {w0 w : World} {R : List Nat} {M M' : List Asrt} {k : Nat} {A : Asrt} (h : Hp w0 R (M ++ M') w) (hA : A ∈ M') (hk : k ∈ A.foot) : k ∉ M.flatMap Asrt.foot := fun hm => by
  have := h.nodup
  rw [List.flatMap_append, List.nodup_append] at this
  exact this.2.2 k hm k (List.mem_flatMap.2 ⟨A, hA, hk⟩) rfl

/-! ### Where yield is called -/

/-- A row of operations, walked within the wide fence. -/
structure TLI (P : Program) (n : Nat) (w0 : World) (R : List Nat) (ops : Array Oper) (K : List (Nat × Value) → List Asrt → Prop) (l : List Oper) (L : List (Nat × Value)) (M : List Asrt) : Prop where
  run : ∀ a w, Kn n L a → Hp w0 R M w → wpListIn Fence.wide 0 P ops (regQ n w0 R K) l a w

section
variable {P : Program} {n : Nat} {w0 : World} {R : List Nat} {L : List (Nat × Value)} {M : List Asrt} {ops : Array Oper} {K : List (Nat × Value) → List Asrt → Prop} {op : Op} {ty : TypeId} {p : String} {af : Array Edge} {rest : List Oper}
theorem T.regionI {id : Nat} {l : List Oper} {Q : Exit → List (Nat × Value) → List Asrt → Prop} (h : TLI P n w0 R l.toArray (Q .normal) l L M) : T P n w0 R (.region id l.toArray false) Q L M :=
  .mk fun a w hk hp => (wpIn_wide (n := 0)).1 (wpIn_mono (wpIn_region_lit (h.run a w hk hp)) regQ_post)
theorem TLI_nil (h : K L M) : TLI P n w0 R ops K [] L M := .mk fun _ _ hk hp => wpListIn_nil ⟨L, M, hk, hp, h⟩
theorem TLI_y {d : Nat} (hd : Nat.blt d n = true) (h : ∃ v, Yl P n w0 R op ty L M v ∧ TLI P n w0 R ops K rest ((d, v) :: L) M) : TLI P n w0 R ops K (⟨some d, op, ty, p, af, none⟩ :: rest) L M := by
  obtain ⟨v, hy, h⟩ := h
  refine .mk fun a w hk hp => ?_
  refine wpListIn_plain rfl fun K' hK => ?_
  refine ⟨fun _ _ => trivial, ?_⟩
  rw [show Fence.wide.round = none from rfl, Oper.semAt_none]
  rw [ex_eq, hy.run a w hk hp]
  exact hK _ _ (h.run _ _ (hk.put v hd) hp)
theorem TLI_yield {β σ : Type} {A : β → List Asrt} {E : β → Value} {pr : σ → List β} {G : σ → List Asrt} {ly s d : Nat} {x : Operand} {ats : Array TypeId} (st : σ) (z : β) (M' : List Asrt) (hd : Nat.blt d n = true)
    (hf : Env.get L s = some (.func (.yield ly) #[] #[])) (hx : evl L x = some (E z)) {N : Nat} (hY : Yields P N ly A E pr G) (hlen : (pr st).length < N) (hM : ∀ w, Hp w0 R M w → Hp w0 R ((A z ++ G st) ++ M') w)
    (h : ∀ st', pr st' = pr st ++ [z] → TLI P n w0 R ops K rest ((d, .bool true) :: L) (G st' ++ M')) :
    TLI P n w0 R ops K (⟨some d, .call { callee := .value (.tmp s), args := #[x], argTypes := ats }, ty, p, af, none⟩ :: rest) L M := by
  refine .mk fun a w hk hp => ?_
  refine wpListIn_plain rfl fun K' hK => ?_
  refine ⟨fun _ _ => trivial, ?_⟩
  have hp1 := hM w hp
  obtain ⟨fn, tmps, assign, body, hy, hR⟩ := hY st z w hlen (hp1.weaken (List.sublist_append_left _ _)).self
  have h2 : a.eval (.tmp s) = .func (.yield ly) #[] #[] := hk.ev (x := .tmp s) hf
  have hrun : (execOp a.eval ⟨some d, .call { callee := .value (.tmp s), args := #[x], argTypes := ats }, ty, p, af, none⟩).run P w = .ok (.round ly fn tmps assign body) w := by
    simp [execOp, resolve, h2, hk.ev hx, Deferred.ofValue, invoke, hy]
  rw [show Fence.wide.round = none from rfl, Oper.semAt_none]
  rw [hrun]
  refine ⟨fun h => (by cases h), RoundIn.mono hR ?_⟩
  rintro e w' ⟨rfl, st', hst, hN⟩
  exact hK _ _ ((h st' hst).run _ _ (hk.put (.bool true) hd) (hp1.moreS hN))
end

/-! ### Behind the statement: what is known but for the mark -/

/-- What is known of a frame whose one deferred thing is the mark D. -/
def KnD (n : Nat) (L : List (Nat × Value)) (D : Nat) (a : Act) : Prop := Kn n L { a with defers := [] } ∧ a.defers = [{ target := .collected D, args := #[] }]

section
variable {P : Program} {n : Nat} {w0 : World} {R : List Nat} {L : List (Nat × Value)} {M : List Asrt} {D : Nat}

/-- A row of operations that only yield, behind the statement. -/
structure TD (P : Program) (n : Nat) (w0 : World) (R : List Nat) (D : Nat) (ops : Array Oper) (Q : Exit → Act → World → Prop) (l : List Oper) (L : List (Nat × Value)) (M : List Asrt) : Prop where
  run : ∀ a w, KnD n L D a → Hp w0 R M w → wpList P ops Q l a w

theorem TD_nil {ops : Array Oper} {Q : Exit → Act → World → Prop} (h : ∀ a w, KnD n L D a → Hp w0 R M w → Q .normal a w) : TD P n w0 R D ops Q [] L M := .mk fun a w hk hp => h a w hk hp

theorem TD_y {ops : Array Oper} {Q : Exit → Act → World → Prop} {d : Nat} {op : Op} {ty : TypeId} {p : String} {af : Array Edge} {rest : List Oper} (hd : Nat.blt d n = true) (h : ∃ v, Yl P n w0 R op ty L M v ∧ TD P n w0 R D ops Q rest ((d, v) :: L) M) :
    TD P n w0 R D ops Q (⟨some d, op, ty, p, af, none⟩ :: rest) L M := by
  obtain ⟨v, hy, h⟩ := h
  refine .mk fun a w hk hp => ?_
  refine wpList_plain rfl fun K' hK => ?_
  unfold Oper.wp
  have he : a.eval = ({ a with defers := [] } : Act).eval := rfl
  rw [ex_eq, he, hy.run _ w hk.1 hp]
  have hk' : KnD n ((d, v) :: L) D (a.put (some d) v) := ⟨hk.1.put v hd, hk.2⟩
  exact hK _ _ (h.run _ _ hk' hp)

/-- The return. -/
theorem retD {fn : Func} {Res : Value → List Asrt → Prop} {v : Value} {a : Act} {w : World} {e : Exit} (he : e = .normal ∨ e = .ret) (N : List Asrt) (hk : KnD n L D a) (hp : Hp w0 R (N ++ [.blk D (.deferred (some []))]) w)
    (hr : ∀ a w, Kn n L a → Hp w0 R N w → (results fn a.tmps).run P w = .ok v w) (h : Res v N) :
    bodyPostM Fence.wide 0 P fn (fun e w' => ∃ v N, e = .returned v ∧ Res v N ∧ Hp w0 R N w') e a w := by
  have hD : w.heap[D]? = some (.deferred (some [])) := hp.own (.blk D _) (by simp)
  have hp1 := hp.put (i := N.length) (.deferred none) (getElem?_at rfl)
  have he1 : (N ++ [Asrt.blk D (.deferred (some []))]).set N.length (.blk D (.deferred none)) = N ++ [Asrt.blk D (.deferred none)] := set_at rfl
  rw [he1] at hp1
  have hp2 : Hp w0 R N (w.putObj D (.deferred none)) := hp1.weaken (List.sublist_append_left _ _)
  have hrr := hr { a with defers := [] } _ hk.1 hp2
  have hl : LeavesInM Fence.wide 0 P fn a.tmps (fun e w' => ∃ v N, e = .returned v ∧ Res v N ∧ Hp w0 R N w') a.defers .returning w := by
    rw [hk.2]
    refine ⟨by simp, .inl ⟨_, _, rfl, run_takeDeferred hD, ?_⟩⟩
    exact ⟨v, hrr, v, N, rfl, h, hp2⟩
  rcases he with rfl | rfl <;> exact hl
end
end Go.Proofs.Ytegaejbfhpigjaa
