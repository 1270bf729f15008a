/- More of the engine's laws: blocks of a caller, equality of aggregates, slice literals, append, callees that turn several things. -/
import Derived.Test.YtdbpnolpgkcjiaaEff
import Derived.ChangeKeysEq
import Derived.Laws.Pointers
import Derived.Great.BuildSlice
namespace Go.Proofs.Ytdbpnolpgkcjiaa
open Go.RowKit

section
variable {P : Program} {n : Nat} {w0 : World} {R : List Nat} {L : List (Nat × Value)} {M : List Asrt} {ty t yt : TypeId} {x y c : Operand} {v u : Value} {K : List (Nat × Value) → List Asrt → Prop}

theorem Hp.blk_old {w : World} (hp : Hp w0 R M w) {b : Nat} {o : Obj} (hb : w0.heap[b]? = some o) (hR : b ∉ R) : w.heap[b]? = some o := (hp.old b (heap_lt hb) hR).trans hb

theorem Yl_load_old {b o : Nat} {C : Array Value} {e : TypeId} {fr : Nat × Nat} (hx : evl L x = some (.pointer (some ⟨b, o, none⟩))) (h : oneT P t = true) (hb : w0.heap[b]? = some (.cells C e fr)) (hR : b ∉ R) (hc : C[o]? = some v) : Yl P n w0 R (.load t x) ty L M v :=
  Yl_load hx h fun _ hp => by rw [cell_of_row _ b o C e fr (hp.blk_old hb hR)]; exact hc
theorem Yl_loadA_old {b : Nat} {C : Array Value} {e : TypeId} {fr : Nat × Nat} (hx : evl L x = some (.pointer (some ⟨b, 0, none⟩))) (hb : w0.heap[b]? = some (.cells C e fr)) (hR : b ∉ R) (h : aggT P t = some C.size) : Yl P n w0 R (.load t x) ty L M (.agg C) := by
  have := Yl_loadA (P := P) (n := n) (w0 := w0) (R := R) (L := L) (M := M) (ty := ty) (t := t) C.toList hx h (by simp) fun w hp j u hu => by
    rw [blk_add, Nat.zero_add, cell_of_row w b j C e fr (hp.blk_old hb hR)]; simpa using hu
  simpa using this

theorem Hp.blkOf {w : World} (hp : Hp w0 R M w) {b : Nat} {o : Obj} (hm : Asrt.blk b o ∈ M) : w.heap[b]? = some o := hp.own _ hm

/-! ### Equality -/

theorem Yl_eql_ptr {p : Option Addr} (hx : evl L x = some (.pointer p)) (hy : evl L y = some (.pointer none)) (ht : P.underlying t = some (.pointer (P.pointee t))) : Yl P n w0 R (.binOp .eql t x y yt) ty L M (.bool p.isNone) := .mk fun a w hk _ => by
  simp [execOp, hk.ev hx, hk.ev hy, eqGuard, run_eql_pointer_nil w t p ht]
theorem Yl_neq_ptr {p : Option Addr} (hx : evl L x = some (.pointer p)) (hy : evl L y = some (.pointer none)) (ht : P.underlying t = some (.pointer (P.pointee t))) : Yl P n w0 R (.binOp .neq t x y yt) ty L M (.bool (!p.isNone)) := .mk fun a w hk _ => by
  simp [execOp, hk.ev hx, hk.ev hy, eqGuard, run_neq_pointer_nil w t p ht]

theorem Yl_eqlA {A B : Array Value} {b : Bool} (hx : evl L x = some (.agg A)) (hy : evl L y = some (.agg B)) (hg : P.eqGuardType P.depth t = false) (he : ∀ w, (Op.equalIn 10000 t (.agg A) (.agg B)).run P w = .ok b w) :
    Yl P n w0 R (.binOp .eql t x y yt) ty L M (.bool b) := .mk fun a w hk _ => by
  simp [execOp, hk.ev hx, hk.ev hy, run_eqGuard_agg w _ _ _ _ _ _ hg, run_eql_struct, he w]
theorem Yl_neqA {A B : Array Value} {b : Bool} (hx : evl L x = some (.agg A)) (hy : evl L y = some (.agg B)) (hg : P.eqGuardType P.depth t = false) (he : ∀ w, (Op.equalIn 10000 t (.agg A) (.agg B)).run P w = .ok b w) :
    Yl P n w0 R (.binOp .neq t x y yt) ty L M (.bool (!b)) := .mk fun a w hk _ => by
  simp [execOp, hk.ev hx, hk.ev hy, run_eqGuard_agg w _ _ _ _ _ _ hg, run_neq_struct, he w]

theorem run_equalIn_bools (d : Nat) {t e : TypeId} {m : Nat} (ht : P.underlying t = some (.array m e)) (he : P.underlying e = some .bool) (hsz : sizT P e = some 1) (xs ys : List Bool) (hx : xs.length = m) (hy : ys.length = m) (w : World) :
    (Op.equalIn (d + 2) t (.agg (xs.map Value.bool).toArray) (.agg (ys.map Value.bool).toArray)).run P w = .ok (xs == ys) w := by
  have hs : ∀ w, (sizeOf e).run P w = .ok 1 w := by
    intro w
    obtain ⟨inf, hi, hz⟩ := Option.map_eq_some_iff.1 hsz
    simp [sizeOf, typeInfo, hi, hz]
  have key : ∀ (xs ys : List Bool), xs.length = ys.length → ((List.range xs.length).all fun i => xs.getD i false == ys.getD i false) = (xs == ys) := by
    intro xs
    induction xs with
    | nil => intro ys h; cases ys with
      | nil => rfl
      | cons _ _ => simp at h
    | cons x xs ih => intro ys h; cases ys with
      | nil => simp at h
      | cons y ys =>
        have ih := ih ys (by simpa using h)
        rw [List.length_cons, List.range_succ_eq_map, List.all_cons, List.all_map]
        simp only [List.getD_cons_zero, Function.comp_def, List.getD_cons_succ, ih]
        simp [List.cons_beq_cons]
  rw [← key xs ys (hx.trans hy.symm), hx, List.range_eq_range', Op.equalIn]
  simp only [Sem.run_bind, run_underlying ht, Result.andThen_ok, hs, Std.Legacy.Range.forIn_eq_forIn_range', Std.Legacy.Range.size, Nat.sub_zero, Nat.add_sub_cancel, Nat.div_one]
  have hl : ∀ i ∈ List.range' 0 m 1, i < m := fun i hi => by simpa using (List.mem_range'_1.1 hi).2
  generalize List.range' 0 m 1 = l at hl ⊢
  induction l with
  | nil => simp
  | cons i l ih =>
    have hi : i < m := hl i (by simp)
    have px : (part e (xs.map Value.bool).toArray (i * 1)).run P w = .ok (.bool (xs.getD i false)) w := by
      simp [part, isAgg, run_underlying he, List.getD, List.getElem?_eq_getElem (show i < xs.length by omega)]
    have py : (part e (ys.map Value.bool).toArray (i * 1)).run P w = .ok (.bool (ys.getD i false)) w := by
      simp [part, isAgg, run_underlying he, List.getD, List.getElem?_eq_getElem (show i < ys.length by omega)]
    have pe : (Op.equalIn (d + 1) e (.bool (xs.getD i false)) (.bool (ys.getD i false))).run P w = .ok (xs.getD i false == ys.getD i false) w := run_equalIn_bool' w d e _ _ he
    simp only [List.forIn_cons, Sem.run_bind, px, py, pe, Result.andThen_ok, List.all_cons]
    cases hb : (xs.getD i false == ys.getD i false)
    · simp
    · simp only [Bool.not_true, Bool.false_eq_true, if_false, Sem.run_pure, Result.andThen_ok, Bool.true_and]
      exact ih fun j hj => hl j (by simp [hj])

/-! ### Parts of an aggregate, equality field by field -/

theorem part_one {xs : Array Value} {off : Nat} (h : oneT P t = true) (hc : xs[off]? = some v) (w : World) : (part t xs off).run P w = .ok v w := by
  simp [part, run_isAgg_one h, hc]
theorem part_agg {xs : Array Value} {off k : Nat} (h : aggT P t = some k) (w : World) : (part t xs off).run P w = .ok (.agg (xs.extract off (off + k))) w := by
  unfold aggT at h
  have hag : (isAgg t).run P w = .ok true w := by
    unfold isAgg
    cases hu : P.underlying t with
    | none => simp [hu] at h
    | some d => rw [Sem.run_bind, run_underlying hu w]; rw [hu] at h; cases d <;> simp_all
  have hsz : ∃ inf, P.info? t = some inf ∧ inf.size = k := by
    cases hu : P.underlying t with
    | none => simp [hu] at h
    | some d => rw [hu] at h; cases d <;> simp_all
  obtain ⟨inf, hi, hs⟩ := hsz
  simp [part, hag, sizeOf, typeInfo, hi, hs]

theorem Yl_field {xs : Array Value} {i off : Nat} (hx : evl L x = some (.agg xs)) (hf : fld P t i = some off) (hr : ∀ (e : TypeId), (∃ fs f, P.underlying t = some (.struct fs) ∧ fs[i]? = some f ∧ f.type = e) → ∀ w, (part e xs off).run P w = .ok v w) :
    Yl P n w0 R (.field t x i) ty L M v := .mk fun a w hk _ => by
  unfold fld at hf
  split at hf
  · rename_i fs hu
    split at hf
    · rename_i f hfi
      split at hf
      · rename_i inf hi
        split at hf
        · cases hf
        · simp only [Option.some.injEq] at hf
          subst hf
          have := hr f.type ⟨fs, f, hu, hfi, rfl⟩ w
          simp [execOp, hk.ev hx, Instr.field, run_underlying hu, hfi, asAgg, this]
      · cases hf
    · cases hf
  · cases hf

structure EqR (P : Program) (d : Nat) (t : TypeId) (a b : Value) (r : Bool) : Prop where
  run : ∀ w, (Op.equalIn d t a b).run P w = .ok r w

inductive EqF (P : Program) (d : Nat) (xs ys : Array Value) : List (Bool × TypeId × Nat) → Bool → Prop
  | nil : EqF P d xs ys [] true
  | cons {t : TypeId} {off : Nat} {fs : List (Bool × TypeId × Nat)} {a b : Value} {r r' : Bool} (ha : ∀ w, (part t xs off).run P w = .ok a w) (hb : ∀ w, (part t ys off).run P w = .ok b w) (hr : EqR P d t a b r) (hf : EqF P d xs ys fs r') :
      EqF P d xs ys ((true, t, off) :: fs) (r && r')

theorem EqF.run {d : Nat} {xs ys : Array Value} {l : List (Bool × TypeId × Nat)} {r : Bool} (h : EqF P d xs ys l r) : ∀ (fs : List Field), fs.map (fun f => (f.name != "_", f.type, f.offset)) = l → ∀ w, (Op.eqFields d xs ys fs).run P w = .ok r w := by
  induction h with
  | nil => intro fs hf w; cases fs with
    | nil => simp [Op.eqFields]
    | cons _ _ => cases hf
  | @cons t off fs' a b r r' ha hb hr _ ih =>
    intro fs hf w
    cases fs with
    | nil => cases hf
    | cons f fs =>
      simp only [List.map_cons, List.cons.injEq, Prod.mk.injEq] at hf
      obtain ⟨⟨h1, h2, h3⟩, h4⟩ := hf
      have h1' : f.name ≠ "_" := by simpa using h1
      simp only [Op.eqFields, ne_eq, h1', not_false_eq_true, if_true, Sem.run_bind, h2, h3, ha, hb, hr.run, Result.andThen_ok]
      cases r
      · simp
      · simp only [Bool.not_true, Bool.false_eq_true, if_false, Bool.true_and]
        exact ih fs h4 w

theorem EqR_struct {d : Nat} {xs ys : Array Value} {l : List (Bool × TypeId × Nat)} {r : Bool} (ht : P.underlying t = some (.struct (P.fieldsOf t))) (hp : P.stoodInHeld t = false) (hl : (P.fieldsOf t).toList.map (fun f => (f.name != "_", f.type, f.offset)) = l)
    (h : EqF P d xs ys l r) : EqR P (d + 1) t (.agg xs) (.agg ys) r := .mk fun w => by
  rw [run_equalIn_struct w d t xs ys ht hp]; exact h.run _ hl w
theorem EqR_int {d : Nat} {k k' : IntKind} {a b : Int} (h : P.underlying t = some (.int k')) : EqR P (d + 1) t (.int k a) (.int k b) (decide (a = b)) := .mk fun w => by
  rw [run_equalIn_int w d t k k' a b h]; congr 1
theorem EqR_bool {d : Nat} {a b : Bool} (h : P.underlying t = some .bool) : EqR P (d + 1) t (.bool a) (.bool b) (decide (a = b)) := .mk fun w => by
  rw [run_equalIn_bool' w d t a b h]; congr 1
theorem EqR_str {d : Nat} {a b : ByteArray} (h : P.underlying t = some .string) : EqR P (d + 1) t (.string a) (.string b) (decide (a = b)) := .mk fun w => by
  rw [run_equalIn_string w d t a b h, str_beq]
theorem EqR_bools {d m : Nat} {e : TypeId} (ht : P.underlying t = some (.array m e)) (he : P.underlying e = some .bool) (hsz : sizT P e = some 1) {xs ys : List Bool} (hx : xs.length = m) (hy : ys.length = m) :
    EqR P (d + 2) t (.agg (xs.map Value.bool).toArray) (.agg (ys.map Value.bool).toArray) (decide (xs = ys)) := .mk fun w => by
  rw [run_equalIn_bools d ht he hsz xs ys hx hy w]; congr 1; rw [Bool.eq_iff_iff]; simp

/-! ### Slice literals -/

/-- A slice type's element, its cells, its bytes. -/
def appT (P : Program) (t : TypeId) : Option (Nat × Nat × Nat) :=
  match P.underlying t with
  | some (.slice e) => match P.info? e with
    | some i => match i.zero with
      | some z => if z.cells.size = i.size ∧ 0 < i.size then some (e, i.size, i.bytes) else none
      | none => none
    | none => none
  | _ => none

theorem appT_spec {e k by_ : Nat} (h : appT P t = some (e, k, by_)) : P.underlying t = some (.slice e) ∧ ∃ i z, P.info? e = some i ∧ i.zero = some z ∧ i.size = k ∧ i.bytes = by_ ∧ z.cells.size = k ∧ 0 < k := by
  unfold appT at h
  split at h
  · rename_i e' hu
    split at h
    · rename_i i hi
      split at h
      · rename_i z hz
        split at h
        · rename_i hc
          simp only [Option.some.injEq, Prod.mk.injEq] at h
          obtain ⟨rfl, rfl, rfl⟩ := h
          exact ⟨hu, i, z, hi, hz, rfl, rfl, hc.1, hc.2⟩
        · cases h
      · cases h
    · cases h
  · cases h

theorem Hp.row_new {w : World} (h : Hp w0 R M w) (C : Array Value) (e k m : Nat) (hm : m ≤ maxLen) (hs : C.size = m * k) :
    Hp w0 R (.row e k (.slice (some ⟨w.heap.size, 0, none⟩) m m) m C.toList :: M) (w.alloc (.cells C e)) :=
  h.more (N := [_]) ⟨rfl, rfl, rfl, by simp, fun k hk _ => Below.heap_alloc w _ k hk, fun A hA => by simp at hA; subst hA; exact World.ownsRow_lit w C m (Nat.zero_le _) hm hs,
    by simp [Asrt.foot, Value.ownBlock], fun k hk => by simp [Asrt.foot, Value.ownBlock] at hk; exact .inr (by omega)⟩

theorem flat_len {k : Nat} : ∀ (vs : List Value), (∀ v ∈ vs, v.cells.size = k) → (vs.flatMap fun v => v.cells.toList).length = vs.length * k
  | [], _ => by simp
  | v :: vs, h => by
    have h2 := flat_len vs fun u hu => h u (List.mem_cons_of_mem _ hu)
    have h3 := h v (by simp)
    simp only [List.flatMap_cons, List.length_append, Array.length_toList, List.length_cons, Nat.add_mul, Nat.one_mul]
    omega

theorem Ef_bsl {d len e k by_ : Nat} {parts : Array (Nat × Operand)} {xs : List Value} (vs : List Value) (hd : Nat.blt d n = true) (ht : appT P t = some (e, k, by_)) (hv : evps L parts.toList = some ((vs.zipIdx 0).map fun x => (x.2, x.1)))
    (hlen : vs.length = len) (hsz : ∀ v ∈ vs, v.cells.size = k) (hsm : len * k ≤ 16777216) (hpos : 0 < len) (hxs : (vs.flatMap fun v => v.cells.toList) = xs)
    (h : ∀ b, K ((d, .slice (some ⟨b, 0, none⟩) len len) :: L) (.row e k (.slice (some ⟨b, 0, none⟩) len len) len xs :: M)) : Ef P n w0 R (some d) (.buildSlice t len parts) ty L M K :=
  Ef_of hd fun a w hk hp => by
    obtain ⟨hu, i, z, hi, hz, rfl, _, hzc, hk0⟩ := appT_spec ht
    subst hxs hlen
    have h1 : (parts.map fun (i, x) => (i, a.eval x)) = ((vs.zipIdx 0).map fun x => (x.2, x.1)).toArray := by
      apply Array.ext'; simpa using hk.evps hv
    have hpos' : 0 < vs.length * i.size := Nat.mul_pos hpos hk0
    have hle : vs.length ≤ vs.length * i.size := Nat.le_mul_of_pos_right _ hk0
    have hl2 := flat_len vs hsz
    have hr := run_buildSlice w t e vs.length ((vs.zipIdx 0).map fun x => (x.2, x.1)).toArray _ i z hu hi hz (by omega) (by omega)
      (Great.fill_whole hk0 vs _ hsz (by simp))
    have hp' := hp.row_new (vs.flatMap fun v => v.cells.toList).toArray e i.size vs.length (by unfold maxLen; omega) (by simpa using hl2)
    refine ⟨_, _, _, ?_, hp', h _⟩
    simp [execOp, h1, hr]

theorem Ef_bsl1 {d e by_ : Nat} {v : Value} (hd : Nat.blt d n = true) (hx : evl L x = some v) (h1 : v.oneCell' = true) (ht : appT P t = some (e, 1, by_))
    (h : ∀ b, K ((d, .slice (some ⟨b, 0, none⟩) 1 1) :: L) (.row e 1 (.slice (some ⟨b, 0, none⟩) 1 1) 1 [v] :: M)) : Ef P n w0 R (some d) (.buildSlice t 1 #[(0, x)]) ty L M K := by
  have hc : v.cells = #[v] := by cases v <;> first | rfl | cases h1
  exact Ef_bsl (vs := [v]) hd ht (by simp [evps, hx]) rfl (by simp [hc]) (by decide) (by decide) (by simp [hc]) h
theorem Ef_bslA {d e k by_ : Nat} {C : Array Value} (hd : Nat.blt d n = true) (hx : evl L x = some (.agg C)) (ht : appT P t = some (e, k, by_)) (hk : C.size = k) (hsm : k ≤ 16777216)
    (h : ∀ b, K ((d, .slice (some ⟨b, 0, none⟩) 1 1) :: L) (.row e k (.slice (some ⟨b, 0, none⟩) 1 1) 1 C.toList :: M)) : Ef P n w0 R (some d) (.buildSlice t 1 #[(0, x)]) ty L M K :=
  Ef_bsl (vs := [.agg C]) hd ht (by simp [evps, hx]) rfl (by simpa [Value.cells] using hk) (by omega) (by decide) (by simp [Value.cells]) h

/-! ### append -/

theorem Hp.row0 {w : World} (h : Hp w0 R M w) (e k : Nat) : Hp w0 R (.row e k (.slice none 0 0) 0 [] :: M) w :=
  h.more (N := [_]) ⟨rfl, rfl, rfl, Nat.le_refl _, fun _ _ _ => rfl, fun A hA => by simp at hA; subst hA; exact World.ownsRow_nil w 0 e k, by simp [Asrt.foot, Value.ownBlock], fun k hk => by simp [Asrt.foot, Value.ownBlock] at hk⟩
theorem T.row0 {c : Code} {Q : Exit → List (Nat × Value) → List Asrt → Prop} (e k : Nat) (h : T P n w0 R c Q L (.row e k (.slice none 0 0) 0 [] :: M)) : T P n w0 R c Q L M := .mk fun a w hk hp => h.run a w hk (hp.row0 e k)

theorem own_form {w : World} {base e k m : Nat} {v : Value} {xs : List Value} (h : w.ownsRow base e k v m xs) : ∃ A c, v = .slice A m c := by
  rcases h.2 with ⟨rfl, rfl⟩ | ⟨g, cap, cur, rfl, _⟩
  · exact ⟨none, 0, rfl⟩
  · exact ⟨_, _, rfl⟩

theorem Ef_append {d e k by_ m m2 c2 i : Nat} {s : Operand} {vv : Value} {a2 : Addr} {xs news : List Value} (hd : Nat.blt d n = true) (hs : evl L s = some vv) (hx : evl L x = some (.slice (some a2) m2 c2)) (ht : appT P t = some (e, k, by_))
    (hM : M[i]? = some (.row e k vv m xs)) (hl : news.length = m2 * k) (hnews : ∀ w, Hp w0 R M w → ∀ j u, news[j]? = some u → w.cell? (a2.add j) = some u) (h1 : ∀ u ∈ news, u.oneCell' = true) (hb : (m + m2) * by_ ≤ 140737488355328) (h63 : m + m2 ≤ 9223372036854775807)
    (h : ∀ A c, K ((d, .slice A (m + m2) c) :: L) (M.set i (.row e k (.slice A (m + m2) c) (m + m2) (xs ++ news)))) :
    Ef P n w0 R (some d) (.call { callee := .builtin .append, args := #[s, x], argTypes := #[t, t] }) ty L M K :=
  Ef_of hd fun a w hk hp => by
    obtain ⟨hu, inf, z, hi, hz, hsz, hby, hzc, hk0⟩ := appT_spec ht
    obtain ⟨v', w', hr, h2, h3, h4, h5⟩ := run_append_own_at (P := P) w 0 t ty e inf z k by_ hu hi hz hsz hby hzc hk0 vv m xs (hp.own _ (List.mem_of_getElem? hM)) a2 m2 c2 news hl (hnews w hp) h1 (by unfold maxLen; omega) hb (Nat.zero_le _)
    obtain ⟨A, c, rfl⟩ := own_form h2
    refine ⟨_, w', _, ?_, hp.step hM (A' := .row e k (.slice A (m + m2) c) (m + m2) (xs ++ news)) h3 (fun k hk => by simp [Asrt.foot, hk]) h2 (fun k hk => ?_) (by cases A <;> simp [Asrt.foot, Value.ownBlock]), h A c⟩
    · simp [execOp, hk.ev hs, hk.ev hx, resolve, invoke, builtin, hr]
    · simp only [Asrt.foot, Option.mem_toList] at hk ⊢
      rcases h5 with h5 | h5
      · exact .inl (h5 ▸ hk)
      · rw [h5] at hk; simp at hk; exact .inr (by omega)

/-- What is appended lies in a row that is owned. -/
theorem Ef_append_row {d e k by_ m m2 c2 i : Nat} {s : Operand} {vv : Value} {a2 : Addr} {xs news : List Value} (hd : Nat.blt d n = true) (hs : evl L s = some vv) (hx : evl L x = some (.slice (some a2) m2 c2)) (ht : appT P t = some (e, k, by_))
    (hM : M[i]? = some (.row e k vv m xs)) (hm : Asrt.row e k (.slice (some a2) m2 c2) m2 news ∈ M) (h1 : ∀ u ∈ news, u.oneCell' = true) (hb : (m + m2) * by_ ≤ 140737488355328) (h63 : m + m2 ≤ 9223372036854775807)
    (h : ∀ A c, K ((d, .slice A (m + m2) c) :: L) (M.set i (.row e k (.slice A (m + m2) c) (m + m2) (xs ++ news)))) :
    Ef P n w0 R (some d) (.call { callee := .builtin .append, args := #[s, x], argTypes := #[t, t] }) ty L M K := by
  refine .mk fun a w next Q hk hp hn => ?_
  have hl : news.length = m2 * k := (hp.own _ hm).1
  exact (Ef_append hd hs hx ht hM hl (fun w hp j u hu => (Rd.of_row (A := some a2) (hp.own _ hm)).cell j u hu) h1 hb h63 h).run a w next Q hk hp hn

/-! ### A callee that may turn several things -/

def sel : List Bool → List Asrt → List Asrt
  | true :: bs, A :: M => A :: sel bs M
  | false :: bs, _ :: M => sel bs M
  | _, _ => []
def oth : List Bool → List Asrt → List Asrt
  | true :: bs, _ :: M => oth bs M
  | false :: bs, A :: M => A :: oth bs M
  | [], M => M
  | _, [] => []
theorem sel_oth : ∀ (bs : List Bool) (M : List Asrt), M.Perm (sel bs M ++ oth bs M)
  | [], M => by cases M <;> simp [sel, oth]
  | true :: bs, [] => by simp [sel, oth]
  | false :: bs, [] => by simp [sel, oth]
  | true :: bs, A :: M => by simp only [sel, oth, List.cons_append]; exact (sel_oth bs M).cons A
  | false :: bs, A :: M => by simp only [sel, oth]; exact ((sel_oth bs M).cons A).trans List.perm_middle.symm

theorem Hp.perm {w : World} {M' : List Asrt} (h : Hp w0 R M w) (hp : M.Perm M') : Hp w0 R M' w :=
  ⟨h.os, h.tape, h.output, h.size, h.old, fun A hA => h.own A (hp.mem_iff.2 hA), (hp.flatMap_right _).nodup_iff.1 h.nodup, fun k hk => h.lo k ((hp.flatMap_right _).mem_iff.2 hk)⟩

theorem Hp.moreS {w w' : World} {S M' N : List Asrt} (h : Hp w0 R (S ++ M') w) (hn : Hp w (S.flatMap Asrt.foot) N w') : Hp w0 R (N ++ M') w' := by
  have hnd := h.nodup
  rw [List.flatMap_append, List.nodup_append] at hnd
  obtain ⟨d1, d2, d3⟩ := hnd
  have hSlo : ∀ k ∈ S.flatMap Asrt.foot, k ∈ R ∨ w0.heap.size ≤ k := fun k hk => h.lo k (by rw [List.flatMap_append]; exact List.mem_append_left _ hk)
  refine ⟨hn.os.trans h.os, hn.tape.trans h.tape, hn.output.trans h.output, Nat.le_trans h.size hn.size, fun k hk hR => ?_, fun B hB => ?_, ?_, fun k hk => ?_⟩
  · rw [hn.old k (Nat.lt_of_lt_of_le hk h.size) (fun e => ?_)]
    · exact h.old k hk hR
    · rcases hSlo k e with h' | h'
      · exact hR h'
      · omega
  · rcases List.mem_append.1 hB with hB | hB
    · exact hn.own B hB
    · have hB0 := h.own B (List.mem_append_right _ hB)
      refine Asrt.keep hB0 fun k hk => hn.old k (Asrt.foot_lt hB0 k hk) fun e => ?_
      exact d3 k e k (List.mem_flatMap.2 ⟨B, hB, hk⟩) rfl
  · rw [List.flatMap_append, List.nodup_append]
    refine ⟨hn.nodup, d2, fun a ha b hb hab => ?_⟩
    subst hab
    rcases hn.lo a ha with h' | h'
    · exact d3 a h' a hb rfl
    · obtain ⟨B, hB, hkB⟩ := List.mem_flatMap.1 hb
      have := Asrt.foot_lt (h.own B (List.mem_append_right _ hB)) a hkB
      omega
  · rw [List.flatMap_append, List.mem_append] at hk
    rcases hk with hk | hk
    · rcases hn.lo k hk with h' | h'
      · exact hSlo k h'
      · exact .inr (Nat.le_trans h.size h')
    · exact h.lo k (by rw [List.flatMap_append]; exact List.mem_append_right _ hk)

theorem Ef_callS {f : FuncId} {args : Array Operand} {ats : Array TypeId} {vals : List Value} {d : Nat} {S M' : List Asrt} {Rs : List Nat} {Res : Value → List Asrt → Prop} (mk : List Bool) (hd : Nat.blt d n = true) (ha : evls L args.toList = some vals) (hen : Enters P f)
    (hS : sel mk M = S) (hM' : oth mk M = M') (hRs : S.flatMap Asrt.foot = Rs) (hc : ∀ w, Hp w0 R M w → Sp P f vals w Rs Res) (h : ∀ v N, Res v N → K ((d, v) :: L) (N ++ M')) : Ef P n w0 R (some d) (.call { callee := .value (.func f), args := args, argTypes := ats }) ty L M K := by
  refine .mk fun a w next Q hk hp hn => ?_
  subst hS hM' hRs
  exact upon_calls (run_call hk ha hen) (Calls.mono (hc w hp).run fun e w' ⟨v, N, he, hR, hp'⟩ => ⟨v, he, hn _ _ _ _ (hk.put v hd) ((hp.perm (sel_oth mk M)).moreS hp') (h v N hR)⟩)

theorem Hp.refl_blks {w : World} (l : List (Nat × Obj)) (h : ∀ p ∈ l, w.heap[p.1]? = some p.2) (hn : (l.map (·.1)).Nodup) : Hp w (l.map (·.1)) (l.map fun p => .blk p.1 p.2) w :=
  have e : (l.map fun p => Asrt.blk p.1 p.2).flatMap Asrt.foot = l.map (·.1) := by induction l <;> simp_all [Asrt.foot]
  ⟨rfl, rfl, rfl, Nat.le_refl _, fun _ _ _ => rfl, fun A hA => by obtain ⟨p, hp, rfl⟩ := List.mem_map.1 hA; exact h p hp, by rw [e]; exact hn, fun k hk => by rw [e] at hk; exact .inl hk⟩

/-- What a caller owns, handed to a callee that may turn it. -/
theorem Hp.hand {w : World} {S : List Asrt} (h : Hp w0 R M w) (mk : List Bool) (hS : sel mk M = S) : Hp w (S.flatMap Asrt.foot) S w := by
  subst hS
  have h' := h.perm (sel_oth mk M)
  have hnd := h'.nodup
  rw [List.flatMap_append, List.nodup_append] at hnd
  exact ⟨rfl, rfl, rfl, Nat.le_refl _, fun _ _ _ => rfl, fun A hA => h'.own A (List.mem_append_left _ hA), hnd.1, fun k hk => .inl hk⟩

/-- A callee that answers X and leaves nothing. -/
theorem Ef_callP {f : FuncId} {args : Array Operand} {ats : Array TypeId} {vals : List Value} {d : Nat} {X : Value} (hd : Nat.blt d n = true) (ha : evls L args.toList = some vals) (hen : Enters P f)
    (hc : ∀ w, Hp w0 R M w → Sp P f vals w [] (fun v N => v = X ∧ N = [])) (h : K ((d, X) :: L) M) : Ef P n w0 R (some d) (.call { callee := .value (.func f), args := args, argTypes := ats }) ty L M K :=
  Ef_call hd ha hen hc fun v N ⟨h1, h2⟩ => by subst h1 h2; exact h
theorem Ef_callX {f : FuncId} {args : Array Operand} {ats : Array TypeId} {vals : List Value} {d : Nat} {S M' : List Asrt} {Rs : List Nat} {β : Type} {V : β → Value} {N0 : β → List Asrt} {φ : β → Prop} (mk : List Bool) (hd : Nat.blt d n = true) (ha : evls L args.toList = some vals) (hen : Enters P f)
    (hS : sel mk M = S) (hM' : oth mk M = M') (hRs : S.flatMap Asrt.foot = Rs) (hc : ∀ w, Hp w Rs S w → Sp P f vals w Rs (fun v N => ∃ z : β, φ z ∧ v = V z ∧ N = N0 z)) (h : ∀ z, φ z → K ((d, V z) :: L) (N0 z ++ M')) : Ef P n w0 R (some d) (.call { callee := .value (.func f), args := args, argTypes := ats }) ty L M K :=
  Ef_callS mk hd ha hen hS hM' hRs (fun w hp => hc w (by subst hRs; exact hp.hand mk hS)) fun v N ⟨z, h0, h1, h2⟩ => by subst h1 h2; exact h z h0
/-- A callee that answers X and leaves N0 of what it was handed. -/
theorem Ef_callT {f : FuncId} {args : Array Operand} {ats : Array TypeId} {vals : List Value} {d : Nat} {S M' N0 : List Asrt} {Rs : List Nat} {X : Value} (mk : List Bool) (hd : Nat.blt d n = true) (ha : evls L args.toList = some vals) (hen : Enters P f)
    (hS : sel mk M = S) (hM' : oth mk M = M') (hRs : S.flatMap Asrt.foot = Rs) (hc : ∀ w, Hp w Rs S w → Sp P f vals w Rs (fun v N => v = X ∧ N = N0)) (h : K ((d, X) :: L) (N0 ++ M')) : Ef P n w0 R (some d) (.call { callee := .value (.func f), args := args, argTypes := ats }) ty L M K :=
  Ef_callS mk hd ha hen hS hM' hRs (fun w hp => hc w (by subst hRs; exact hp.hand mk hS)) fun v N ⟨h1, h2⟩ => by subst h1 h2; exact h
/-- A callee that leaves new things: one for each z. -/
theorem Ef_callN {f : FuncId} {args : Array Operand} {ats : Array TypeId} {vals : List Value} {d : Nat} {β : Type} {V : β → Value} {N0 : β → List Asrt} (hd : Nat.blt d n = true) (ha : evls L args.toList = some vals) (hen : Enters P f)
    (hc : ∀ w, Hp w0 R M w → Sp P f vals w [] (fun v N => ∃ z : β, v = V z ∧ N = N0 z)) (h : ∀ z, K ((d, V z) :: L) (N0 z ++ M)) : Ef P n w0 R (some d) (.call { callee := .value (.func f), args := args, argTypes := ats }) ty L M K :=
  Ef_call hd ha hen hc fun v N ⟨z, h1, h2⟩ => by subst h1 h2; exact h z

theorem TSand {ops : Array Oper} {Mc : List Asrt} {K : List (Nat × Value) → List Asrt → Prop} {r : List (Nat × Bool)} (h1 : Mc.Sublist M) (h2 : TS P n w0 R ops Mc K r L M) : Mc.Sublist M ∧ TS P n w0 R ops Mc K r L M := ⟨h1, h2⟩
theorem T.drawM {id : Nat} {ops : Array Oper} {Q : Exit → List (Nat × Value) → List Asrt → Prop} (sched : List (Nat × Bool)) (hm : P.follows .mixedOrders = true) (hB : drawOK ops sched = true)
    (h : TS P n w0 R ops M (Q .normal) sched L M) : T P n w0 R (.region id ops true) Q L M := T.draw sched M hm hB (List.Sublist.refl _) h
theorem T.draw0 {id : Nat} {ops : Array Oper} {Q : Exit → List (Nat × Value) → List Asrt → Prop} (sched : List (Nat × Bool)) (hm : P.follows .mixedOrders = true) (hB : drawOK ops sched = true)
    (h : TS P n w0 R ops [] (Q .normal) sched L M) : T P n w0 R (.region id ops true) Q L M := T.draw sched [] hm hB (List.nil_sublist _) h

def isY : Op → Bool
  | .move _ | .assign _ | .pick .. | .nilCheck _ | .binOp .. | .unOp .. | .fieldAddr .. | .field .. | .indexAddr .. | .index .. | .extract .. | .load .. | .build .. | .slice .. | .makeFunc .. => true
  | .call c => match c.callee with
    | .builtin .len => true
    | _ => false
  | _ => false
theorem TL_y' {ops : Array Oper} {op : Op} {p : String} {af : Array Edge} {rest : List Oper} {d : Nat} (_hy : isY op = true) (hd : Nat.blt d n = true) (h : ∃ v, Yl P n w0 R op ty L M v ∧ TL P n w0 R ops K rest ((d, v) :: L) M) : TL P n w0 R ops K (⟨some d, op, ty, p, af, none⟩ :: rest) L M := TL_y hd h
theorem TL_gy' {ops : Array Oper} {op : Op} {p : String} {af : Array Edge} {rest : List Oper} {d j t : Nat} {b : Bool} (_hy : isY op = true) (hs : gslot ops j = some t) (hv : Env.get L t = some (.bool b)) (hd : Nat.blt d n = true) (h : ∃ v, Yl P n w0 R op ty L M v ∧ TL P n w0 R ops K rest ((d, v) :: L) M) :
    TL P n w0 R ops K (⟨some d, op, ty, p, af, some (j, b)⟩ :: rest) L M := TL_gy hs hv hd h
theorem Ef_y {d : Nat} {op : Op} (_hy : isY op = true) (hd : Nat.blt d n = true) (h : ∃ v, Yl P n w0 R op ty L M v ∧ K ((d, v) :: L) M) : Ef P n w0 R (some d) op ty L M K := by
  obtain ⟨v, hy, h⟩ := h
  exact Ef_of hd fun a w hk hp => ⟨v, w, M, hy.run a w hk hp, hp, h⟩
theorem Ef_y' {d : Nat} {op : Op} (hd : Nat.blt d n = true) (h : ∃ v, Yl P n w0 R op ty L M v ∧ K ((d, v) :: L) M) : Ef P n w0 R (some d) op ty L M K := by
  obtain ⟨v, hy, h⟩ := h
  exact Ef_of hd fun a w hk hp => ⟨v, w, M, hy.run a w hk hp, hp, h⟩
theorem g_call (f : FuncId) {d : Option Nat} {a : Array Operand} {ts : Array TypeId} (h : Ef P n w0 R d (.call { callee := .value (.func f), args := a, argTypes := ts }) ty L M K) : Ef P n w0 R d (.call { callee := .value (.func f), args := a, argTypes := ts }) ty L M K := h
theorem g_TS {ops : Array Oper} {Mc : List Asrt} {r : List (Nat × Bool)} (h : TS P n w0 R ops Mc K r L M) : TS P n w0 R ops Mc K r L M := h
theorem g_TL {ops : Array Oper} {r : List Oper} (h : TL P n w0 R ops K r L M) : TL P n w0 R ops K r L M := h
theorem g_cond {c : Operand} {x y : Code} {Q : Exit → List (Nat × Value) → List Asrt → Prop} (h : T P n w0 R (.cond c x y) Q L M) : T P n w0 R (.cond c x y) Q L M := h
theorem g_draw {id : Nat} {ops : Array Oper} {Q : Exit → List (Nat × Value) → List Asrt → Prop} (h : T P n w0 R (.region id ops true) Q L M) : T P n w0 R (.region id ops true) Q L M := h
theorem g_blkx {id id' : Nat} {Q : Exit → List (Nat × Value) → List Asrt → Prop} (h : blockQ id Q (.exit id') L M) : blockQ id Q (.exit id') L M := h
theorem ints_get (zs : List Int) (k : IntKind) (i : Nat) (h : i < zs.length) : (zs.map (Value.int k))[i * 1]? = some (.int k (zs.getD i 0)) := by
  simp [List.getD, h]
theorem ie_app1 {d : Option Nat} {a : Array Operand} {ts : Array TypeId} (h : Ef P n w0 R d (.call { callee := .builtin .append, args := a, argTypes := ts }) ty L M K) : Ef P n w0 R d (.call { callee := .builtin .append, args := a, argTypes := ts }) ty L M K := h

theorem T.row0e {c : Code} {Q : Exit → List (Nat × Value) → List Asrt → Prop} (e k : Nat) (h : T P n w0 R c Q L (M ++ [.row e k (.slice none 0 0) 0 []])) : T P n w0 R c Q L M :=
  .mk fun a w hk hp => h.run a w hk ((hp.row0 e k).perm (List.perm_append_comm (l₁ := [Asrt.row e k (.slice none 0 0) 0 []])))

theorem T.perm {c : Code} {Q : Exit → List (Nat × Value) → List Asrt → Prop} {M' : List Asrt} (hp : M.Perm M') (h : T P n w0 R c Q L M') : T P n w0 R c Q L M := .mk fun a w hk h' => h.run a w hk (h'.perm hp)
theorem T.swap {c : Code} {Q : Exit → List (Nat × Value) → List Asrt → Prop} {A B : Asrt} (h : T P n w0 R c Q L (B :: A :: M)) : T P n w0 R c Q L (A :: B :: M) := h.perm (List.Perm.swap B A M)

theorem at0 {α : Type} {A : α} {l : List α} : (A :: l)[0]? = some A := rfl
theorem at1 {α : Type} {A B : α} {l : List α} : (B :: A :: l)[1]? = some A := rfl
theorem at2 {α : Type} {A B C : α} {l : List α} : (B :: C :: A :: l)[2]? = some A := rfl
theorem at3 {α : Type} {A B C D : α} {l : List α} : (B :: C :: D :: A :: l)[3]? = some A := rfl
theorem at4 {α : Type} {A B C D E : α} {l : List α} : (B :: C :: D :: E :: A :: l)[4]? = some A := rfl
theorem at5 {α : Type} {A B C D E F : α} {l : List α} : (B :: C :: D :: E :: F :: A :: l)[5]? = some A := rfl
theorem at6 {α : Type} {A B C D E F G : α} {l : List α} : (B :: C :: D :: E :: F :: G :: A :: l)[6]? = some A := rfl

theorem Hp.rowOf {w : World} (hp : Hp w0 R M w) {e k m cap : Nat} {A : Option Addr} {xs : List Value} (hm : Asrt.row e k (.slice A m cap) m xs ∈ M) : Rd w A m k xs := Rd.of_row (hp.own _ hm)

/-- An index into a row that is owned. -/
theorem Yl_index_row {A : Option Addr} {m cap k j e' k' : Nat} {e : TypeId} {kd : IntKind} {xs : List Value} (hx : evl L x = some (.slice A m cap)) (hy : evl L y = some (.int kd (j : Int))) (ht : P.underlying t = some (.slice e)) (hs : sizT P e = some k)
    (hj : j < m) (hm : Asrt.row e' k' (.slice A m cap) m xs ∈ M) : Yl P n w0 R (.indexAddr t x y) ty L M (.pointer (some ((adr A).add (j * k)))) := .mk fun a w hk hp => by
  have hA : A = some (adr A) := (Rd.of_row (hp.own _ hm)).some_ (by omega)
  simp [execOp, hk.ev hx, hk.ev hy, run_indexAt ht hs hA hj]

/-- What is appended lies in the caller's memory. -/
theorem Ef_append_rd {d e k by_ m m2 c2 i : Nat} {s : Operand} {vv : Value} {A2 : Option Addr} {xs news : List Value} (hd : Nat.blt d n = true) (hs : evl L s = some vv) (hx : evl L x = some (.slice A2 m2 c2)) (ht : appT P t = some (e, k, by_))
    (hM : M[i]? = some (.row e k vv m xs)) (hr : Rd w0 A2 m2 k news) (hR : (adr A2).block ∉ R) (hpos : 0 < m2) (h1 : ∀ u ∈ news, u.oneCell' = true) (hb : (m + m2) * by_ ≤ 140737488355328) (h63 : m + m2 ≤ 9223372036854775807)
    (h : ∀ A c, K ((d, .slice A (m + m2) c) :: L) (M.set i (.row e k (.slice A (m + m2) c) (m + m2) (xs ++ news)))) :
    Ef P n w0 R (some d) (.call { callee := .builtin .append, args := #[s, x], argTypes := #[t, t] }) ty L M K := by
  have hA : A2 = some (adr A2) := hr.some_ hpos
  exact Ef_append hd hs (hx.trans (by rw [← hA])) ht hM hr.len (fun w hp j u hu => (hp.rd hr fun _ => hR).cell j u hu) h1 hb h63 h

theorem one_flat {α : Type} {enc : α → List Value} (h : ∀ x, ∀ u ∈ enc x, u.oneCell' = true) (l : List α) : ∀ u ∈ l.flatMap enc, u.oneCell' = true := fun u hu => by
  obtain ⟨x, _, hx⟩ := List.mem_flatMap.1 hu
  exact h x u hx
end

/-! ### Tables of closed facts -/

def tg {α : Type} : List (Nat × α) → Nat → Option α
  | [], _ => none
  | (j, v) :: r, i => cond (Nat.beq j i) (some v) (tg r i)
theorem tg_ok {α : Type} {f : Nat → Option α} : ∀ {l : List (Nat × α)}, l.map (fun p => f p.1) = l.map (fun p => some p.2) → ∀ {i : Nat} {v : α}, tg l i = some v → f i = some v
  | [], _, _, _, h => by cases h
  | (j, u) :: r, ha, i, v, h => by
    simp only [List.map_cons, List.cons.injEq] at ha
    by_cases e : j = i
    · subst e
      have : u = v := by simpa [tg] using h
      rw [ha.1, this]
    · exact tg_ok ha.2 (by simpa [tg, nbeq e] using h)
end Go.Proofs.Ytdbpnolpgkcjiaa
