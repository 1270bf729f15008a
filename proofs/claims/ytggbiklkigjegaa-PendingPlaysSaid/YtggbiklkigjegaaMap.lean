/- The engine's laws for maps from numbers to texts: what one holds is a list, in the order in which keys came. -/
import Derived.Test.YtggbiklkigjegaaCopy
namespace Go.Proofs.Ytggbiklkigjegaa
open Go.RowKit

/-- A key and its value. -/
abbrev KV := Int × ByteArray
def kvV (x : KV) : Value × Value := (.int .i64 x.1, .string x.2)

namespace Mp
def getK (k : Int) : List KV → Option ByteArray
  | [] => none
  | x :: l => if x.1 = k then some x.2 else getK k l
def look (k : Int) : List KV → Nat → Option (Nat × ByteArray)
  | [], _ => none
  | x :: l, i => if x.1 = k then some (i, x.2) else look k l (i + 1)
def upd (k : Int) (v : ByteArray) : List KV → List KV
  | [] => [(k, v)]
  | x :: l => if x.1 = k then (k, v) :: l else x :: upd k v l
def dele (k : Int) : List KV → List KV
  | [] => []
  | x :: l => if x.1 = k then l else x :: dele k l
theorem look_get (k : Int) : ∀ (l : List KV) (i : Nat), (look k l i).map (·.2) = getK k l
  | [], _ => rfl
  | x :: l, i => by
    unfold look getK
    split
    · rfl
    · exact look_get k l (i + 1)
end Mp

def MapAt (w : World) (b : Nat) (l : List KV) : Prop := ∃ es clk, w.heap[b]? = some (.map es clk) ∧ es.toList.map (fun e => (e.key, e.val)) = l.map kvV
/-- A map that is owned. -/
def mA (b : Nat) (l : List KV) : Asrt := .gen [b] (fun w => MapAt w b l) (fun w w' h ⟨es, clk, h1, h2⟩ => ⟨es, clk, by rw [h b (by simp)]; exact h1, h2⟩)

theorem findNow_kv (k : Int) : ∀ (es : List MapEntry) (l : List KV) (i : Nat), es.map (fun e => (e.key, e.val)) = l.map kvV → Instr.findNow (.int .i64) (.int .i64 k) es i = some ((Mp.look k l i).map fun p => (p.1, Value.string p.2))
  | [], [], i, _ => rfl
  | [], _ :: _, i, h => by simp at h
  | _ :: _, [], i, h => by simp at h
  | e :: es, x :: l, i, h => by
    simp only [List.map_cons, List.cons.injEq] at h
    have h1 : e.key = .int .i64 x.1 := congrArg Prod.fst h.1
    have h2 : e.val = .string x.2 := congrArg Prod.snd h.1
    unfold Instr.findNow Mp.look
    rw [h1]
    by_cases hk : x.1 = k
    · simp [Instr.sameNow, hk, h2]
    · have hk' : ¬ k = x.1 := fun e => hk e.symm
      have hb : (k == x.1) = false := by simpa using hk'
      simp only [Instr.sameNow, if_true, hb, if_neg hk]
      exact findNow_kv k es l (i + 1) h.2

theorem run_findKey_kv {P : Program} {w : World} {kt : TypeId} (hk : P.underlying kt = some (.int .i64)) {k : Int} {es : List MapEntry} {l : List KV} (h : es.map (fun e => (e.key, e.val)) = l.map kvV) :
    (Instr.findKey kt (.int .i64 k) es).run P w = .ok ((Mp.look k l 0).map fun p => (p.1, Value.string p.2)) w := by
  unfold Instr.findKey
  simp only [Sem.run_bind, run_underlying hk, Result.andThen_ok, findNow_kv k es l 0 h]
  rfl
theorem run_checkKey_int {P : Program} {w : World} {kt : TypeId} (hk : P.underlying kt = some (.int .i64)) {k : Int} (e : Bool) (n : Nat) : (Instr.checkKey e (n + 1) kt (.int .i64 k)).run P w = .ok () w := by
  unfold Instr.checkKey
  simp only [Sem.run_bind, run_underlying hk, Result.andThen_ok]
  rfl

theorem getMap {P : Program} {w : World} {r : Nat} {es : Array MapEntry} {clock : Nat} (hb : w.heap[r]? = some (.map es clock)) : (getObj r).run P w = .ok (.map es clock) w := by
  simp [getObj, Sem.run, hb]
theorem setMap {P : Program} {w : World} {r : Nat} {es : Array MapEntry} {clock : Nat} {o : Obj} (hb : w.heap[r]? = some (.map es clock)) : (setObj r o).run P w = .ok () { w with heap := w.heap.setIfInBounds r o } := by
  simp [setObj, Sem.run, hb]

theorem upd_list (k : Int) (v : ByteArray) : ∀ (es : List MapEntry) (l : List KV) (i j : Nat) (p : ByteArray), es.map (fun e => (e.key, e.val)) = l.map kvV → Mp.look k l i = some (i + j, p) → (es.modify j fun e => { e with key := .int .i64 k, val := .string v }).map (fun e => (e.key, e.val)) = (Mp.upd k v l).map kvV ∧ (es[j]?).map (·.key) = some (.int .i64 k)
  | [], [], i, j, p, _, h => by simp [Mp.look] at h
  | [], _ :: _, i, j, p, h, _ => by simp at h
  | _ :: _, [], i, j, p, h, _ => by simp at h
  | e :: es, x :: l, i, j, p, h, hl => by
    simp only [List.map_cons, List.cons.injEq] at h
    unfold Mp.look at hl
    unfold Mp.upd
    by_cases hk : x.1 = k
    · rw [if_pos hk] at hl ⊢
      simp only [Option.some.injEq, Prod.mk.injEq] at hl
      obtain rfl : j = 0 := by omega
      simp only [List.modify_zero_cons, List.map_cons, List.getElem?_cons_zero, Option.map_some]
      refine ⟨by rw [h.2]; rfl, ?_⟩
      rw [show e.key = .int .i64 x.1 from congrArg Prod.fst h.1, hk]
    · rw [if_neg hk] at hl ⊢
      cases j with
      | zero =>
        exfalso
        have : ∀ (l : List KV) (m : Nat) q, Mp.look k l m = some q → m ≤ q.1 := by
          intro l
          induction l with
          | nil => intro m q h; simp [Mp.look] at h
          | cons y l ih =>
            intro m q h
            unfold Mp.look at h
            split at h
            · simp at h; rw [← h]; exact Nat.le_refl _
            · have := ih (m + 1) q h; omega
        have := this l (i + 1) _ hl
        dsimp only at this
        omega
      | succ j =>
        rw [List.modify_succ_cons, List.map_cons, List.map_cons, List.getElem?_cons_succ]
        have ih := upd_list k v es l (i + 1) j p h.2 (by rw [hl]; congr 2; omega)
        exact ⟨by rw [ih.1, show (e.key, e.val) = kvV x from h.1], ih.2⟩
theorem dele_list (k : Int) : ∀ (es : List MapEntry) (l : List KV) (i j : Nat) (p : ByteArray), es.map (fun e => (e.key, e.val)) = l.map kvV → Mp.look k l i = some (i + j, p) → (es.eraseIdx j).map (fun e => (e.key, e.val)) = (Mp.dele k l).map kvV
  | [], [], i, j, p, _, h => by simp [Mp.look] at h
  | [], _ :: _, i, j, p, h, _ => by simp at h
  | _ :: _, [], i, j, p, h, _ => by simp at h
  | e :: es, x :: l, i, j, p, h, hl => by
    simp only [List.map_cons, List.cons.injEq] at h
    unfold Mp.look at hl
    unfold Mp.dele
    by_cases hk : x.1 = k
    · rw [if_pos hk] at hl ⊢
      simp only [Option.some.injEq, Prod.mk.injEq] at hl
      obtain rfl : j = 0 := by omega
      exact h.2
    · rw [if_neg hk] at hl ⊢
      cases j with
      | zero =>
        exfalso
        have : ∀ (l : List KV) (m : Nat) q, Mp.look k l m = some q → m ≤ q.1 := by
          intro l
          induction l with
          | nil => intro m q h; simp [Mp.look] at h
          | cons y l ih =>
            intro m q h
            unfold Mp.look at h
            split at h
            · simp at h; rw [← h]; exact Nat.le_refl _
            · have := ih (m + 1) q h; omega
        have := this l (i + 1) _ hl
        dsimp only at this
        omega
      | succ j =>
        rw [List.eraseIdx_cons_succ, List.map_cons, List.map_cons, show (e.key, e.val) = kvV x from h.1, dele_list k es l (i + 1) j p h.2 (by rw [hl]; congr 2; omega)]
theorem look_none (k : Int) : ∀ (l : List KV) (i : Nat), Mp.look k l i = none → (∀ v, Mp.upd k v l = l ++ [(k, v)]) ∧ Mp.dele k l = l
  | [], _, _ => ⟨fun _ => rfl, rfl⟩
  | x :: l, i, h => by
    unfold Mp.look at h
    split at h
    · cases h
    · rename_i hk
      have ih := look_none k l (i + 1) h
      exact ⟨fun v => by unfold Mp.upd; rw [if_neg hk, ih.1 v]; rfl, by unfold Mp.dele; rw [if_neg hk, ih.2]⟩

section
variable {P : Program} {n : Nat} {w0 : World} {R : List Nat} {L : List (Nat × Value)} {M : List Asrt} {ty t t' yt : TypeId} {x y z : Operand} {v u : Value} {K : List (Nat × Value) → List Asrt → Prop}

theorem Hp.mapOf {w : World} (hp : Hp w0 R M w) {b : Nat} {l : List KV} (hm : mA b l ∈ M) : MapAt w b l := (hp.own _ hm : MapAt w b l ∧ _).1
theorem Hp.map_old {w : World} (hp : Hp w0 R M w) {b : Nat} {l : List KV} (h : MapAt w0 b l) (hb : b ∉ R) : MapAt w b l := by
  obtain ⟨es, clk, h1, h2⟩ := h
  exact ⟨es, clk, by rw [hp.old b (heap_lt h1) hb]; exact h1, h2⟩

theorem Ef_lookup {d b : Nat} {k : Int} {l : List KV} {kt vt : TypeId} (hd : Nat.blt d n = true) (hx : evl L x = some (.map (some b))) (hy : evl L y = some (.int .i64 k)) (ht : P.underlying t = some (.map kt vt)) (hk : P.underlying kt = some (.int .i64)) (hz : ∀ w, (zeroValue vt).run P w = .ok (.string ByteArray.empty) w)
    (hm : ∀ w, Hp w0 R M w → MapAt w b l) (h : K ((d, .tuple #[.string ((Mp.getK k l).getD ByteArray.empty), .bool (Mp.getK k l).isSome]) :: L) M) : Ef P n w0 R (some d) (.lookup t x y true) ty L M K :=
  Ef_y' hd ⟨_, .mk fun a w hkn hp => by
    obtain ⟨es, clk, h1, h2⟩ := hm w hp
    have hf := run_findKey_kv (P := P) (w := w) hk (k := k) h2
    have hc : (Instr.checkKey es.isEmpty 10000 kt (.int .i64 k)).run P w = .ok () w := run_checkKey_int hk es.isEmpty 9999
    have hl := Mp.look_get k l 0
    cases hlk : Mp.look k l 0 with
    | none =>
      rw [hlk] at hf hl
      rw [← hl]
      simp [execOp, hkn.ev hx, hkn.ev hy, Instr.lookup, run_underlying ht, getMap h1, hc, hf, hz]
    | some p =>
      rw [hlk] at hf hl
      rw [← hl]
      simp [execOp, hkn.ev hx, hkn.ev hy, Instr.lookup, run_underlying ht, getMap h1, hc, hf], h⟩

theorem map_step {w : World} {b i : Nat} {l l' : List KV} {es es' : Array MapEntry} {clk clk' : Nat} (hp : Hp w0 R M w) (hM : M[i]? = some (mA b l)) (h1 : w.heap[b]? = some (.map es clk)) (h2 : es'.toList.map (fun e => (e.key, e.val)) = l'.map kvV) :
    Hp w0 R (M.set i (mA b l')) { w with heap := w.heap.setIfInBounds b (.map es' clk') } := by
  have hb := heap_lt h1
  refine hp.step hM (A' := mA b l') (row := some b) ⟨rfl, rfl, rfl, by simp, fun k hk hne => ?_⟩ (fun k hk => by cases hk; simp [mA, Asrt.foot]) ⟨⟨es', clk', ?_, h2⟩, fun k hk => ?_⟩ (fun k hk => .inl hk) (by simp [mA, Asrt.foot])
  · have hne' : b ≠ k := fun e => hne (by rw [e])
    simp [hne']
  · simp [hb]
  · simp at hk; subst hk; simpa using hb

theorem Ef_mapUpdate {b i : Nat} {k : Int} {s : ByteArray} {l : List KV} {kt vt : TypeId} (hx : evl L x = some (.map (some b))) (hy : evl L y = some (.int .i64 k)) (hz : evl L z = some (.string s)) (ht : P.underlying t = some (.map kt vt)) (hk : P.underlying kt = some (.int .i64))
    (hM : M[i]? = some (mA b l)) (h : K L (M.set i (mA b (Mp.upd k s l)))) : Ef P n w0 R none (.mapUpdate t x y z) ty L M K :=
  Ef_of0 fun a w hkn hp => by
    obtain ⟨es, clk, h1, h2⟩ := hp.mapOf (List.mem_of_getElem? hM)
    have hf := run_findKey_kv (P := P) (w := w) hk (k := k) h2
    have hc : (Instr.checkKey false 10000 kt (.int .i64 k)).run P w = .ok () w := run_checkKey_int hk false 9999
    cases hlk : Mp.look k l 0 with
    | none =>
      rw [hlk] at hf
      refine ⟨_, _, ?_, map_step hp hM h1 (es' := es.push { key := .int .i64 k, val := .string s, born := clk }) (clk' := clk + 1) ?_, h⟩
      · simp [execOp, hkn.ev hx, hkn.ev hy, hkn.ev hz, Instr.mapUpdate, run_underlying ht, getMap h1, hc, hf, setMap h1]
      · rw [(look_none k l 0 hlk).1 s]
        simp [h2, kvV]
    | some p =>
      rw [hlk] at hf
      obtain ⟨j, q⟩ := p
      have hu := upd_list k s es.toList l 0 j q h2 (by rw [hlk, Nat.zero_add])
      have hkey : ((es[j]?).map (·.key)).getD (.int .i64 k) = .int .i64 k := by
        have := hu.2
        rw [Array.getElem?_toList] at this
        rw [this]; rfl
      have hst : ∀ w, (Instr.keyThatStays (.int .i64 k) (.int .i64 k)).run P w = .ok (.int .i64 k) w := fun w => by
        have : Instr.sameBits 10000 (.int .i64 k) (.int .i64 k) = true := by simp [Instr.sameBits]
        simp [Instr.keyThatStays, this]
      refine ⟨_, _, ?_, map_step hp hM h1 (es' := es.modify j fun e => { e with key := .int .i64 k, val := .string s }) (clk' := clk) ?_, h⟩
      · simp [execOp, hkn.ev hx, hkn.ev hy, hkn.ev hz, Instr.mapUpdate, run_underlying ht, getMap h1, hc, hf, hkey, hst, setMap h1]
      · rw [Array.toList_modify]
        exact hu.1

theorem Ef_delete {b i : Nat} {k : Int} {l : List KV} {kt vt : TypeId} (hx : evl L x = some (.map (some b))) (hy : evl L y = some (.int .i64 k)) (ht : P.underlying t = some (.map kt vt)) (hk : P.underlying kt = some (.int .i64))
    (hM : M[i]? = some (mA b l)) (h : K L (M.set i (mA b (Mp.dele k l)))) : Ef P n w0 R none (.call { callee := .builtin .delete, args := #[x, y], argTypes := #[t, t'] }) ty L M K := by
  refine .mk fun a w next Q hkn hp hn => ?_
  obtain ⟨es, clk, h1, h2⟩ := hp.mapOf (List.mem_of_getElem? hM)
  have hf := run_findKey_kv (P := P) (w := w) hk (k := k) h2
  have hc : (Instr.checkKey es.isEmpty 10000 kt (.int .i64 k)).run P w = .ok () w := run_checkKey_int hk es.isEmpty 9999
  have key : ∃ w', (execOp a.eval ⟨none, .call { callee := .builtin .delete, args := #[x, y], argTypes := #[t, t'] }, ty, "", #[], none⟩).run P w = .ok (.value (.tuple #[])) w' ∧ Hp w0 R (M.set i (mA b (Mp.dele k l))) w' := by
    cases hlk : Mp.look k l 0 with
    | none =>
      rw [hlk] at hf
      refine ⟨_, ?_, map_step hp hM h1 (es' := es) (clk' := clk) (by rw [(look_none k l 0 hlk).2]; exact h2)⟩
      simp [execOp, hkn.ev hx, hkn.ev hy, resolve, invoke, builtin, Builtin.delete_, run_underlying ht, getMap h1, hc, hf, setMap h1]
    | some p =>
      rw [hlk] at hf
      obtain ⟨j, q⟩ := p
      have hu := dele_list k es.toList l 0 j q h2 (by rw [hlk, Nat.zero_add])
      refine ⟨_, ?_, map_step hp hM h1 (es' := es.eraseIdxIfInBounds j) (clk' := clk) (by rw [Array.toList_eraseIdxIfInBounds]; exact hu)⟩
      simp [execOp, hkn.ev hx, hkn.ev hy, resolve, invoke, builtin, Builtin.delete_, run_underlying ht, getMap h1, hc, hf, setMap h1]
  obtain ⟨w', hr, hp'⟩ := key
  unfold Oper.wp
  rw [hr]
  exact hn _ _ _ _ hkn hp' h

theorem Ef_mkmap {d : Nat} (hd : Nat.blt d n = true) (h : ∀ b, K ((d, .map (some b)) :: L) (mA b [] :: M)) : Ef P n w0 R (some d) (.makeMap t none) ty L M K :=
  Ef_of hd fun a w hk hp => by
    have hp' := hp.alloc (.map #[] 0)
    have hb : (w.alloc (.map #[] 0)).heap[w.heap.size]? = some (.map #[] 0) := heap_alloc_new w _
    refine ⟨.map (some w.heap.size), w.alloc (.map #[] 0), mA w.heap.size [] :: M, ?_, ?_, h w.heap.size⟩
    · simp [execOp, Instr.makeMap, newObj, Sem.run]
    · exact hp'.step (i := 0) rfl (grownBy_refl _ none) (fun k hk => by cases hk) (A' := mA w.heap.size []) ⟨⟨#[], 0, hb, rfl⟩, fun k hk => by simp at hk; subst hk; exact heap_lt hb⟩ (fun k hk => .inl hk) (by simp [mA, Asrt.foot])
end
end Go.Proofs.Ytggbiklkigjegaa
