/- The engine's laws for what turns memory, for calls, for a function's beginning and end. -/
import Derived.Test.YtdbpnolpgkcjiaaOps
namespace Go.Proofs.Ytdbpnolpgkcjiaa
open Go.RowKit

section
variable {P : Program} {n : Nat} {w0 : World} {R : List Nat} {L : List (Nat × Value)} {M : List Asrt} {ty t : TypeId} {x y c : Operand} {v u : Value} {K : List (Nat × Value) → List Asrt → Prop}

/-- An operation that yields a value and turns the world. -/
theorem Ef_of {d : Nat} {op : Op} (hd : Nat.blt d n = true)
    (h : ∀ a w, Kn n L a → Hp w0 R M w → ∃ v w' M', (execOp a.eval ⟨none, op, ty, "", #[], none⟩).run P w = .ok (.value v) w' ∧ Hp w0 R M' w' ∧ K ((d, v) :: L) M') : Ef P n w0 R (some d) op ty L M K := by
  refine .mk fun a w next Q hk hp hn => ?_
  obtain ⟨v, w', M', hr, hp', hK⟩ := h a w hk hp
  unfold Oper.wp
  rw [ex_eq, hr]
  exact hn _ _ _ _ (hk.put v hd) hp' hK
theorem Ef_of0 {op : Op}
    (h : ∀ a w, Kn n L a → Hp w0 R M w → ∃ w' M', (execOp a.eval ⟨none, op, ty, "", #[], none⟩).run P w = .ok .skip w' ∧ Hp w0 R M' w' ∧ K L M') : Ef P n w0 R none op ty L M K := by
  refine .mk fun a w next Q hk hp hn => ?_
  obtain ⟨w', M', hr, hp', hK⟩ := h a w hk hp
  unfold Oper.wp
  rw [hr]
  exact hn _ _ _ _ hk hp' hK

def zerT (P : Program) (t : TypeId) : Option (Array Value) := ((P.info? t).bind (·.zero)).map Value.cells

theorem run_newVar {z : Value} {w : World} : (newVar t z).run P w = .ok ⟨w.heap.size, 0, none⟩ (w.alloc (.cells z.cells t)) := by
  simp [newVar, newRow, newObj, Sem.run]

theorem Ef_alloc {d : Nat} {Z : Array Value} (hd : Nat.blt d n = true) (hz : zerT P t = some Z) (h : ∀ b, K ((d, .pointer (some ⟨b, 0, none⟩)) :: L) (.blk b (.cells Z t (0, 0)) :: M)) : Ef P n w0 R (some d) (.alloc t) ty L M K :=
  Ef_of hd fun a w hk hp => by
    obtain ⟨z, hz1, rfl⟩ := Option.map_eq_some_iff.1 hz
    obtain ⟨inf, hi, hz2⟩ := Option.bind_eq_some_iff.1 hz1
    refine ⟨_, _, _, ?_, hp.alloc (.cells z.cells t), h _⟩
    simp [execOp, Instr.alloc, zeroValue, typeInfo, hi, hz2, run_newVar]

theorem Ef_box {d : Nat} {C : Array Value} (hd : Nat.blt d n = true) (hx : evl L x = some v) (hC : v.cells = C) (h : ∀ b, K ((d, .pointer (some ⟨b, 0, none⟩)) :: L) (.blk b (.cells C t (0, 0)) :: M)) : Ef P n w0 R (some d) (.box t x) ty L M K :=
  Ef_of hd fun a w hk hp => by
    subst hC
    refine ⟨_, _, _, ?_, hp.alloc (.cells v.cells t), h _⟩
    simp [execOp, hk.ev hx, Instr.box, run_newVar]

theorem Ef_boxA {d : Nat} {C : Array Value} (hd : Nat.blt d n = true) (hx : evl L x = some (.agg C)) (h : ∀ b, K ((d, .pointer (some ⟨b, 0, none⟩)) :: L) (.blk b (.cells C t (0, 0)) :: M)) : Ef P n w0 R (some d) (.box t x) ty L M K := Ef_box hd hx rfl h
theorem Ef_box1 {d : Nat} (hd : Nat.blt d n = true) (hx : evl L x = some v) (h1 : v.oneCell' = true) (h : ∀ b, K ((d, .pointer (some ⟨b, 0, none⟩)) :: L) (.blk b (.cells #[v] t (0, 0)) :: M)) : Ef P n w0 R (some d) (.box t x) ty L M K :=
  Ef_box hd hx (by cases v <;> first | rfl | cases h1) h

theorem grownBy_setRow (w : World) (b : Nat) (C : Array Value) : w.grownBy (w.setRow b C) (some b) :=
  ⟨rfl, rfl, rfl, by simp, fun k _ hne => setRow_other w b k C (fun e => hne (by rw [e]))⟩
theorem grownBy_setCell (w : World) (b o : Nat) (u : Value) : w.grownBy (w.setCell ⟨b, o, none⟩ u) (some b) :=
  ⟨rfl, rfl, rfl, by simp, fun k _ hne => heap_setCell_other w _ k u (fun e => hne (by rw [e]))⟩

/-- A store of one cell into a block that is owned. -/
theorem Ef_store {b o i : Nat} {C : Array Value} {e : TypeId} (hx : evl L x = some (.pointer (some ⟨b, o, none⟩))) (hy : evl L y = some v) (h1 : v.oneCell' = true) (hs : sizT P t = some 1) (hM : M[i]? = some (.blk b (.cells C e (0, 0)))) (ho : o < C.size)
    (h : K L (M.set i (.blk b (.cells (C.setIfInBounds o v) e (0, 0))))) : Ef P n w0 R none (.store t x y) ty L M K :=
  Ef_of0 fun a w hk hp => by
    have hb : w.heap[b]? = some (.cells C e (0, 0)) := hp.own _ (List.mem_of_getElem? hM)
    obtain ⟨inf, hi, hsz⟩ := Option.map_eq_some_iff.1 hs
    have hc1 : v.cells = #[v] := by cases v <;> first | rfl | cases h1
    refine ⟨w.setCell ⟨b, o, none⟩ v, _, ?_, hp.step hM (grownBy_setCell w b o v) (fun k hk => by cases hk; simp [Asrt.foot]) (A' := .blk b (.cells (C.setIfInBounds o v) e (0, 0))) (heap_setCell_same w b o C e v hb) (fun k hk => .inl hk) (by simp [Asrt.foot]), h⟩
    have hcell : w.cell? ⟨b, o, none⟩ = some C[o] := by rw [cell_of_row w b o C e _ hb]; exact Array.getElem?_eq_getElem ho
    simp [execOp, hk.ev hx, hk.ev hy, Instr.storeAt, Instr.sureAddr, storeVar, sizeOf, typeInfo, hi, hsz, hc1, storeCells, run_store P w _ v _ h1, Addr.add, hcell, frozen_of_row w b o C e hb]

theorem Ef_storeC {b o i : Nat} {C C' : Array Value} {e : TypeId} (hx : evl L x = some (.pointer (some ⟨b, o, none⟩))) (hy : evl L y = some v) (h1 : v.oneCell' = true) (hs : sizT P t = some 1) (hM : M[i]? = some (.blk b (.cells C e (0, 0)))) (ho : o < C.size)
    (hC : C.setIfInBounds o v = C') (h : K L (M.set i (.blk b (.cells C' e (0, 0))))) : Ef P n w0 R none (.store t x y) ty L M K := Ef_store hx hy h1 hs hM ho (hC ▸ h)

theorem Ef_storeI {b o i : Nat} {C C' : Array Value} {e : TypeId} {kd : IntKind} {m : Int} (hx : evl L x = some (.pointer (some ⟨b, o, none⟩))) (hy : evl L y = some (.int kd m)) (hs : sizT P t = some 1) (hM : M[i]? = some (.blk b (.cells C e (0, 0)))) (ho : o < C.size)
    (hC : C.setIfInBounds o (.int kd m) = C') (h : K L (M.set i (.blk b (.cells C' e (0, 0))))) : Ef P n w0 R none (.store t x y) ty L M K := Ef_storeC hx hy rfl hs hM ho hC h
theorem Ef_storeB {b o i : Nat} {C C' : Array Value} {e : TypeId} {m : Bool} (hx : evl L x = some (.pointer (some ⟨b, o, none⟩))) (hy : evl L y = some (.bool m)) (hs : sizT P t = some 1) (hM : M[i]? = some (.blk b (.cells C e (0, 0)))) (ho : o < C.size)
    (hC : C.setIfInBounds o (.bool m) = C') (h : K L (M.set i (.blk b (.cells C' e (0, 0))))) : Ef P n w0 R none (.store t x y) ty L M K := Ef_storeC hx hy rfl hs hM ho hC h

/-- A store of a whole aggregate. -/
theorem Ef_storeA {b i : Nat} {C V : Array Value} {e : TypeId} (hx : evl L x = some (.pointer (some ⟨b, 0, none⟩))) (hy : evl L y = some (.agg V)) (hs : sizT P t = some V.size) (h1 : V.all (·.oneCell') = true) (hM : M[i]? = some (.blk b (.cells C e (0, 0)))) (ho : C.size = V.size)
    (h : K L (M.set i (.blk b (.cells V e (0, 0))))) : Ef P n w0 R none (.store t x y) ty L M K :=
  Ef_of0 fun a w hk hp => by
    have hb : w.heap[b]? = some (.cells C e (0, 0)) := hp.own _ (List.mem_of_getElem? hM)
    refine ⟨w.setRow b V, _, ?_, hp.step hM (grownBy_setRow w b V) (fun k hk => by cases hk; simp [Asrt.foot]) (A' := .blk b (.cells V e (0, 0))) (setRow_heap w b C V e _ hb) (fun k hk => .inl hk) (by simp [Asrt.foot]), h⟩
    simp [execOp, hk.ev hx, hk.ev hy, Instr.storeAt, Instr.sureAddr, run_storeVar_row w b e t C V hb hs ho h1]

/-- A store of an aggregate into a part of a block. -/
theorem Ef_storeM {b o i : Nat} {C V C' : Array Value} {e : TypeId} (hx : evl L x = some (.pointer (some ⟨b, o, none⟩))) (hy : evl L y = some (.agg V)) (hs : sizT P t = some V.size) (h1 : V.all (·.oneCell') = true) (hM : M[i]? = some (.blk b (.cells C e (0, 0)))) (ho : o + V.size ≤ C.size)
    (hC : (C.toList.take o ++ V.toList ++ C.toList.drop (o + V.size)).toArray = C')
    (h : K L (M.set i (.blk b (.cells C' e (0, 0))))) : Ef P n w0 R none (.store t x y) ty L M K :=
  Ef_of0 fun a w hk hp => by
    have hb : w.heap[b]? = some (.cells C e (0, 0)) := hp.own _ (List.mem_of_getElem? hM)
    refine ⟨w.setRow b C', _, ?_, hp.step hM (grownBy_setRow w b C') (fun k hk => by cases hk; simp [Asrt.foot]) (A' := .blk b (.cells C' e (0, 0))) (setRow_heap w b C C' e _ hb) (fun k hk => .inl hk) (by simp [Asrt.foot]), h⟩
    have := run_storeCells_at P b o e V.toList 0 C w hb (by simpa using ho) (fun u hu => by simpa using Array.all_eq_true_iff_forall_mem.1 h1 u (by simpa using hu))
    obtain ⟨inf, hi, hsz⟩ := Option.map_eq_some_iff.1 hs
    simp only [Nat.add_zero, Array.length_toList, hC] at this
    simp [execOp, hk.ev hx, hk.ev hy, Instr.storeAt, Instr.sureAddr, storeVar, sizeOf, typeInfo, hi, hsz, Value.cells, this]

/-- A store of one cell into a row that is owned. -/
theorem Ef_store_row {A : Option Addr} {e k m cap j i : Nat} {xs : List Value} (hx : evl L x = some (.pointer (some ((adr A).add j)))) (hy : evl L y = some v) (h1 : v.oneCell' = true) (hs : sizT P t = some 1) (hM : M[i]? = some (.row e k (.slice A m cap) m xs)) (hj : j < m * k)
    (h : K L (M.set i (.row e k (.slice A m cap) m (xs.set j v)))) : Ef P n w0 R none (.store t x y) ty L M K :=
  Ef_of0 fun a w hk hp => by
    have ho : w.ownsRow 0 e k (.slice A m cap) m xs := hp.own _ (List.mem_of_getElem? hM)
    obtain ⟨inf, hi, hsz⟩ := Option.map_eq_some_iff.1 hs
    have hc1 : v.cells = #[v] := by cases v <;> first | rfl | cases h1
    have hA : ∃ g, A = some ⟨g, 0, none⟩ := by
      rcases ho.2 with ⟨hv, h0⟩ | ⟨g, cap', cur, hv, _⟩
      · subst h0; simp at hj
      · injection hv with h2; exact ⟨g, h2⟩
    obtain ⟨g, rfl⟩ := hA
    have ha : (adr (some ⟨g, 0, none⟩)).add j = ⟨g, j, none⟩ := by rw [adr, Option.getD_some, blk_add, Nat.zero_add]
    rw [ha] at hx
    have hst := ho.stored j v
    refine ⟨w.setCell ⟨g, j, none⟩ v, _, ?_, hp.step hM hst.2 (fun k hk => by cases hk; simp [Asrt.foot, Value.ownBlock]) (A' := .row e k (.slice (some ⟨g, 0, none⟩) m cap) m (xs.set j v)) hst.1 (fun k hk => .inl hk) (by simp [Asrt.foot, Value.ownBlock]), h⟩
    have hl : j < xs.length := by rw [ho.1]; exact hj
    have hcell : w.cell? ⟨g, j, none⟩ = some xs[j] := by rw [ho.cellAt j hj]; exact List.getElem?_eq_getElem hl
    simp [execOp, hk.ev hx, hk.ev hy, Instr.storeAt, Instr.sureAddr, storeVar, sizeOf, typeInfo, hi, hsz, hc1, storeCells, run_store P w _ v _ h1, Addr.add, hcell, ho.frozenAt j]

/-! ### Calls -/

def evls (L : List (Nat × Value)) : List Operand → Option (List Value)
  | [] => some []
  | x :: r => match evl L x, evls L r with
    | some v, some vs => some (v :: vs)
    | _, _ => none

theorem Kn.evs {a : Act} (hk : Kn n L a) : ∀ {l : List Operand} {vs : List Value}, evls L l = some vs → l.map a.eval = vs
  | [], vs, h => by simp [evls] at h; simp [h]
  | x :: r, vs, h => by
    simp only [evls] at h
    split at h
    · rename_i v vs' h1 h2
      simp only [Option.some.injEq] at h
      subst h
      simp [hk.ev h1, Kn.evs hk h2]
    · cases h

/-- What a call of a function comes to: a value, and new memory; of what was there, only the blocks R may have turned. -/
structure Sp (P : Program) (f : FuncId) (args : List Value) (w : World) (R : List Nat) (Res : Value → List Asrt → Prop) : Prop where
  run : Calls P f args.toArray w fun e w' => ∃ v N, e = .returned v ∧ Res v N ∧ Hp w R N w'

theorem Sp.mono {f : FuncId} {args : List Value} {w : World} {Res Res' : Value → List Asrt → Prop} (h : Sp P f args w R Res) (hr : ∀ v N, Res v N → Res' v N) : Sp P f args w R Res' :=
  .mk (Calls.mono h.run fun _ _ ⟨v, N, he, hR, hp⟩ => ⟨v, N, he, hr v N hR, hp⟩)

theorem upon_calls {f : FuncId} {vals : List Value} {d : Nat} {op : Op} {a : Act} {w : World} {next : Act → World → Prop} {Q : Exit → Act → World → Prop}
    (hr : (execOp a.eval ⟨none, op, ty, "", #[], none⟩).run P w = .ok (.enter f vals.toArray) w) (hc : Calls P f vals.toArray w fun e w' => ∃ v, e = .returned v ∧ next (a.put (some d) v) w') :
    (⟨some d, op, ty, "", #[], none⟩ : Oper).wp P a w next Q := by
  unfold Oper.wp
  rw [ex_eq, hr]
  exact Calls.mono hc fun e w' ⟨v, he, hn⟩ => by subst he; exact hn

theorem run_call {f : FuncId} {args : Array Operand} {ats : Array TypeId} {vals : List Value} {a : Act} {w : World} (hk : Kn n L a) (ha : evls L args.toList = some vals) (hen : Enters P f) :
    (execOp a.eval ⟨none, .call { callee := .value (.func f), args := args, argTypes := ats }, ty, "", #[], none⟩).run P w = .ok (.enter f vals.toArray) w := by
  have h1 : args.map a.eval = vals.toArray := by
    apply Array.ext'; simpa using hk.evs ha
  simp [execOp, resolve, h1, Act.eval, Deferred.ofValue, invoke, hen _ w]

theorem Ef_call {f : FuncId} {args : Array Operand} {ats : Array TypeId} {vals : List Value} {d : Nat} {Res : Value → List Asrt → Prop} (hd : Nat.blt d n = true) (ha : evls L args.toList = some vals) (hen : Enters P f)
    (hc : ∀ w, Hp w0 R M w → Sp P f vals w [] Res) (h : ∀ v N, Res v N → K ((d, v) :: L) (N ++ M)) : Ef P n w0 R (some d) (.call { callee := .value (.func f), args := args, argTypes := ats }) ty L M K := by
  refine .mk fun a w next Q hk hp hn => ?_
  exact upon_calls (run_call hk ha hen) (Calls.mono (hc w hp).run fun e w' ⟨v, N, he, hR, hp'⟩ => ⟨v, he, hn _ _ _ _ (hk.put v hd) (hp.more hp') (h v N hR)⟩)

/-- A callee that may turn one thing that is owned. -/
theorem Ef_callR {f : FuncId} {args : Array Operand} {ats : Array TypeId} {vals : List Value} {d i : Nat} {A : Asrt} {Res : Value → List Asrt → Prop} (hd : Nat.blt d n = true) (ha : evls L args.toList = some vals) (hen : Enters P f)
    (hM : M[i]? = some A) (hc : ∀ w, Hp w0 R M w → Sp P f vals w A.foot Res) (h : ∀ v N, Res v N → K ((d, v) :: L) (N ++ M.eraseIdx i)) : Ef P n w0 R (some d) (.call { callee := .value (.func f), args := args, argTypes := ats }) ty L M K := by
  refine .mk fun a w next Q hk hp hn => ?_
  exact upon_calls (run_call hk ha hen) (Calls.mono (hc w hp).run fun e w' ⟨v, N, he, hR, hp'⟩ => ⟨v, he, hn _ _ _ _ (hk.put v hd) (hp.moreR hM hp') (h v N hR)⟩)

/-- A call of a function value. -/
theorem Ef_callV {f : FuncId} {s : Nat} {lb : Array Value} {args : Array Operand} {ats : Array TypeId} {vals : List Value} {d : Nat} {Res : Value → List Asrt → Prop} (hd : Nat.blt d n = true) (hf : Env.get L s = some (.func (.func f) #[] lb)) (ha : evls L args.toList = some vals) (hen : Enters P f)
    (hc : ∀ w, Hp w0 R M w → Sp P f (vals ++ lb.toList) w [] Res) (h : ∀ v N, Res v N → K ((d, v) :: L) (N ++ M)) : Ef P n w0 R (some d) (.call { callee := .value (.tmp s), args := args, argTypes := ats }) ty L M K := by
  refine .mk fun a w next Q hk hp hn => ?_
  refine upon_calls (vals := vals ++ lb.toList) ?_ (Calls.mono (hc w hp).run fun e w' ⟨v, N, he, hR, hp'⟩ => ⟨v, he, hn _ _ _ _ (hk.put v hd) (hp.more hp') (h v N hR)⟩)
  have h1 : args.map a.eval = vals.toArray := by apply Array.ext'; simpa using hk.evs ha
  have h2 : a.eval (.tmp s) = .func (.func f) #[] lb := hk.ev (x := .tmp s) hf
  simp [execOp, resolve, h1, h2, Deferred.ofValue, invoke, hen _ w]

/-! ### A function's beginning and end -/

def argL : Nat → List Value → List (Nat × Value)
  | _, [] => []
  | i, v :: vs => (i, v) :: argL (i + 1) vs

theorem argL_get : ∀ (vs : List Value) (i j : Nat) (v : Value), Env.get (argL i vs) j = some v → i ≤ j ∧ vs[j - i]? = some v
  | [], i, j, v, h => by cases h
  | u :: vs, i, j, v, h => by
    by_cases e : i = j
    · subst e
      have : u = v := by simpa [argL, Env.get] using h
      subst this; simp
    · have h' : Env.get (argL (i + 1) vs) j = some v := by simpa [argL, Env.get, nbeq e] using h
      obtain ⟨h1, h2⟩ := argL_get vs (i + 1) j v h'
      refine ⟨by omega, ?_⟩
      rw [show j - i = (j - (i + 1)) + 1 by omega]
      simpa using h2

def retQ (P : Program) (n : Nat) (w0 : World) (R : List Nat) (fn : Func) (Res : Value → List Asrt → Prop) : Exit → List (Nat × Value) → List Asrt → Prop
  | .normal, L, M | .ret, L, M => ∃ v N, (∀ a w, Kn n L a → Hp w0 R M w → (results fn a.tmps).run P w = .ok v w) ∧ N.Sublist M ∧ Res v N
  | _, _, _ => False

theorem Sp.enter {f : FuncId} {fn : Func} {c : Code} {args : List Value} {w : World} {Res : Value → List Asrt → Prop} {M0 : List Asrt} (hf : P.funcs[f]? = some fn) (hb : fn.body = some c) (hn : fn.ntmps = n) (hsz : Nat.ble args.length n = true) (hM : Hp w R M0 w)
    (h : T P n w R c (retQ P n w R fn Res) (argL 0 args) M0) : Sp P f args w R Res := by
  have hle : args.length ≤ n := Nat.le_of_ble_eq_true hsz
  refine .mk (calls_of_wp hf hb (wp_mono (h.run _ w ⟨?_, rfl, fun i v hv => ?_⟩ hM) ?_))
  · simp; omega
  · obtain ⟨_, h2⟩ := argL_get args 0 i v hv
    have hi := (List.getElem?_eq_some_iff.1 h2).1
    simp only [Nat.sub_zero] at h2 hi
    simp only [Array.getD_eq_getD_getElem?]
    rw [Array.getElem?_append_left (by simpa using hi)]
    simp [h2]
  · rintro e a w' ⟨L', M', hk, hp, hq⟩
    cases e <;> first
      | exact hq.elim
      | (obtain ⟨v, N, hr, hN, hR⟩ := hq
         exact ⟨hk.defers, v, hr a w' hk hp, v, N, rfl, hR, hp.weaken hN⟩)

theorem ret_n {fn : Func} {Res : Value → List Asrt → Prop} (N : List Asrt) (hr : ∀ a w, Kn n L a → Hp w0 R M w → (results fn a.tmps).run P w = .ok v w) (hN : N.Sublist M) (h : Res v N) : retQ P n w0 R fn Res .ret L M := ⟨v, N, hr, hN, h⟩
theorem ret_e {fn : Func} {Res : Value → List Asrt → Prop} (N : List Asrt) (hr : ∀ a w, Kn n L a → Hp w0 R M w → (results fn a.tmps).run P w = .ok v w) (hN : N.Sublist M) (h : Res v N) : retQ P n w0 R fn Res .normal L M := ⟨v, N, hr, hN, h⟩

theorem res0 {fn : Func} (h : fn.results = #[]) : ∀ a w, Kn n L a → Hp w0 R M w → (results fn a.tmps).run P w = .ok (.tuple #[]) w := fun a w _ _ => by simp [results, h]
theorem res1 {fn : Func} {s : Nat} (h : fn.results = #[.tmp s]) (hs : Env.get L s = some v) : ∀ a w, Kn n L a → Hp w0 R M w → (results fn a.tmps).run P w = .ok v w := fun a w hk _ => by
  have := hk.get _ _ hs
  rw [results_tmp h, this]
theorem res2 {fn : Func} {s s' : Nat} {v' : Value} (h : fn.results = #[.tmp s, .tmp s']) (hs : Env.get L s = some v) (hs' : Env.get L s' = some v') : ∀ a w, Kn n L a → Hp w0 R M w → (results fn a.tmps).run P w = .ok (.tuple #[v, v']) w := fun a w hk _ => by
  have h1 := hk.get _ _ hs
  have h2 := hk.get _ _ hs'
  rw [results_tmp2 h, h1, h2]
theorem res3 {fn : Func} {s s' s'' : Nat} {v' v'' : Value} (h : fn.results = #[.tmp s, .tmp s', .tmp s'']) (hs : Env.get L s = some v) (hs' : Env.get L s' = some v') (hs'' : Env.get L s'' = some v'') :
    ∀ a w, Kn n L a → Hp w0 R M w → (results fn a.tmps).run P w = .ok (.tuple #[v, v', v'']) w := fun a w hk _ => by
  have h1 := hk.get _ _ hs
  have h2 := hk.get _ _ hs'
  have h3 := hk.get _ _ hs''
  simp only [Array.getD_eq_getD_getElem?] at h1 h2 h3
  simp [results, h, h1, h2, h3]
theorem resC {fn : Func} {s b : Nat} {C : Array Value} {e rt : TypeId} {fr : Nat × Nat} (h : fn.results = #[.cell s rt]) (hs : Env.get L s = some (.pointer (some ⟨b, 0, none⟩))) (hm : Asrt.blk b (.cells C e fr) ∈ M) (ha : aggT P rt = some C.size) :
    ∀ a w, Kn n L a → Hp w0 R M w → (results fn a.tmps).run P w = .ok (.agg C) w := fun a w hk hp => by
  have h1 := hk.get _ _ hs
  simp only [Array.getD_eq_getD_getElem?] at h1
  have h2 := run_loadAt_agg (P := P) (t := rt) (ad := ⟨b, 0, none⟩) (w := w) C.toList ha (by simp) fun j u hu => by
    rw [blk_add, Nat.zero_add, cell_of_row w b j C e fr (hp.own _ hm)]; simpa using hu
  simp [Instr.loadAt, Instr.sureAddr] at h2
  simp [results, h, h1, asAddr, h2]
theorem resC1 {fn : Func} {s s' b : Nat} {C : Array Value} {e rt : TypeId} {fr : Nat × Nat} (h : fn.results = #[.cell s rt, .tmp s']) (hs : Env.get L s = some (.pointer (some ⟨b, 0, none⟩))) (hs' : Env.get L s' = some v) (hm : Asrt.blk b (.cells C e fr) ∈ M) (ha : aggT P rt = some C.size) :
    ∀ a w, Kn n L a → Hp w0 R M w → (results fn a.tmps).run P w = .ok (.tuple #[.agg C, v]) w := fun a w hk hp => by
  have h1 := hk.get _ _ hs
  have h3 := hk.get _ _ hs'
  simp only [Array.getD_eq_getD_getElem?] at h1 h3
  have h2 := run_loadAt_agg (P := P) (t := rt) (ad := ⟨b, 0, none⟩) (w := w) C.toList ha (by simp) fun j u hu => by
    rw [blk_add, Nat.zero_add, cell_of_row w b j C e fr (hp.own _ hm)]; simpa using hu
  simp [Instr.loadAt, Instr.sureAddr] at h2
  simp [results, h, h1, h3, asAddr, h2]
theorem ie_alloc {d : Option Nat} {t : TypeId} (h : Ef P n w0 R d (.alloc t) ty L M K) : Ef P n w0 R d (.alloc t) ty L M K := h
theorem ie_box {d : Option Nat} {t : TypeId} {x : Operand} (h : Ef P n w0 R d (.box t x) ty L M K) : Ef P n w0 R d (.box t x) ty L M K := h
theorem ie_store {d : Option Nat} {t : TypeId} {x y : Operand} (h : Ef P n w0 R d (.store t x y) ty L M K) : Ef P n w0 R d (.store t x y) ty L M K := h
theorem ie_bsl {d : Option Nat} {t : TypeId} {m : Nat} {ps : Array (Nat × Operand)} (h : Ef P n w0 R d (.buildSlice t m ps) ty L M K) : Ef P n w0 R d (.buildSlice t m ps) ty L M K := h
theorem ie_callf {d : Option Nat} {f : FuncId} {a : Array Operand} {ts : Array TypeId} (h : Ef P n w0 R d (.call { callee := .value (.func f), args := a, argTypes := ts }) ty L M K) : Ef P n w0 R d (.call { callee := .value (.func f), args := a, argTypes := ts }) ty L M K := h
theorem ie_callv {d : Option Nat} {s : Nat} {a : Array Operand} {ts : Array TypeId} (h : Ef P n w0 R d (.call { callee := .value (.tmp s), args := a, argTypes := ts }) ty L M K) : Ef P n w0 R d (.call { callee := .value (.tmp s), args := a, argTypes := ts }) ty L M K := h
theorem ie_app {d : Option Nat} {a : Array Operand} {ts : Array TypeId} (h : Ef P n w0 R d (.call { callee := .builtin .append, args := a, argTypes := ts }) ty L M K) : Ef P n w0 R d (.call { callee := .builtin .append, args := a, argTypes := ts }) ty L M K := h
end
end Go.Proofs.Ytdbpnolpgkcjiaa
