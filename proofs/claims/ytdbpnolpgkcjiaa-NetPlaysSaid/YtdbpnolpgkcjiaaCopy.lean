/- The engine's laws for rows that are cut or grow within their capacity, copies, clears, appends of zeros, overlaps. -/
import Derived.Test.YtdbpnolpgkcjiaaRead
import Derived.Test.YtdbpnolpgkcjiaaFunc
import Derived.Lib.Overlaps
import Derived.Lib.SliceRun
namespace Go.Proofs.Ytdbpnolpgkcjiaa
open Go.RowKit

/-! ### Rows, cut and longer -/

theorem ownsRow_ext {w : World} {e k m m' c : Nat} {A : Option Addr} {xs : List Value} (h : w.ownsRow 0 e k (.slice A m c) m xs) (h1 : m ≤ m') (h2 : m' ≤ c) :
    ∃ ys : List Value, ys.length = (m' - m) * k ∧ w.ownsRow 0 e k (.slice A m' c) m' (xs ++ ys) := by
  rcases h.2 with ⟨hv, h0⟩ | ⟨g, cap', cur, hv, hb, hg, hmc, hcm, hcs, htake⟩
  · injection hv with e1 _ e3
    subst e3; subst h0
    obtain rfl : m' = 0 := by omega
    exact ⟨[], by simp, by simpa using h⟩
  · injection hv with e1 _ e3
    subst e1 e3
    have hle : m * k ≤ m' * k := Nat.mul_le_mul_right _ h1
    have hle2 : m' * k ≤ c * k := Nat.mul_le_mul_right _ h2
    refine ⟨(cur.toList.drop (m * k)).take ((m' - m) * k), ?_, ?_, .inr ⟨g, c, cur, rfl, hb, hg, h2, hcm, hcs, ?_⟩⟩
    · rw [List.length_take, List.length_drop, Array.length_toList, hcs, Nat.sub_mul]; omega
    · rw [List.length_append, h.1, List.length_take, List.length_drop, Array.length_toList, hcs, Nat.sub_mul]; omega
    · rw [← htake, show m' * k = m * k + (m' - m) * k by rw [Nat.sub_mul]; omega, List.take_add]
theorem ownsRow_cut {w : World} {e k m m' c : Nat} {A : Option Addr} {xs : List Value} (h : w.ownsRow 0 e k (.slice A m c) m xs) (h1 : m' ≤ m) :
    w.ownsRow 0 e k (.slice A m' c) m' (xs.take (m' * k)) := by
  have hle : m' * k ≤ m * k := Nat.mul_le_mul_right _ h1
  refine ⟨by rw [List.length_take, h.1]; omega, ?_⟩
  rcases h.2 with ⟨hv, h0⟩ | ⟨g, cap', cur, hv, hb, hg, hmc, hcm, hcs, htake⟩
  · injection hv with e1 e2 e3
    subst h0
    obtain rfl : m' = 0 := by omega
    subst e1 e3
    exact .inl ⟨rfl, rfl⟩
  · injection hv with e1 _ e3
    subst e1 e3
    refine .inr ⟨g, c, cur, rfl, hb, hg, by omega, hcm, hcs, ?_⟩
    rw [← htake, List.take_take, Nat.min_eq_left hle]

theorem grownBy_refl (w : World) (r : Option Nat) : w.grownBy w r := ⟨rfl, rfl, rfl, Nat.le_refl _, fun _ _ _ => rfl⟩

theorem setAll_eq (vs : List Value) (xs : List Value) (j : Nat) (h : j + vs.length ≤ xs.length) : setAll xs j vs = xs.take j ++ vs ++ xs.drop (j + vs.length) := by
  apply List.ext_getElem?
  intro i
  rw [setAll_get _ _ _ _ h]
  by_cases h1 : i < j
  · rw [if_neg (by omega), List.append_assoc, List.getElem?_append_left (by rw [List.length_take]; omega), List.getElem?_take, if_pos h1]
  · by_cases h2 : i < j + vs.length
    · rw [if_pos ⟨by omega, h2⟩, List.append_assoc, List.getElem?_append_right (by rw [List.length_take]; omega), List.length_take, Nat.min_eq_left (by omega), List.getElem?_append_left (by omega)]
    · rw [if_neg (by omega), List.getElem?_append_right (by rw [List.length_append, List.length_take]; omega), List.getElem?_drop, List.length_append, List.length_take, Nat.min_eq_left (by omega)]
      congr 1; omega

theorem flat_length {α : Type} {enc : α → List Value} {k : Nat} (hk : ∀ x, (enc x).length = k) (zs : List α) : (zs.flatMap enc).length = zs.length * k := by
  induction zs with
  | nil => simp
  | cons z zs ih => rw [List.flatMap_cons, List.length_append, hk, ih, List.length_cons, Nat.add_mul]; omega
theorem flat_take {α : Type} {enc : α → List Value} {k : Nat} (hk : ∀ x, (enc x).length = k) (zs : List α) (i : Nat) : (zs.flatMap enc).take (i * k) = (zs.take i).flatMap enc := by
  have := flat_part hk zs 0 i
  simpa using this
theorem flat_drop {α : Type} {enc : α → List Value} {k : Nat} (hk : ∀ x, (enc x).length = k) (zs : List α) (i : Nat) : (zs.flatMap enc).drop (i * k) = (zs.drop i).flatMap enc := by
  have h1 := flat_part hk zs i zs.length
  have e1 : ((zs.flatMap enc).drop (i * k)).take (zs.length * k) = (zs.flatMap enc).drop (i * k) := List.take_of_length_le (by rw [List.length_drop, flat_length hk]; omega)
  have e2 : (zs.drop i).take zs.length = zs.drop i := List.take_of_length_le (by rw [List.length_drop]; omega)
  rw [e1, e2] at h1
  exact h1
/-- Data that is written over data, and over what is behind it. -/
theorem setAll_data {α : Type} {enc : α → List Value} {k : Nat} (hk : ∀ x, (enc x).length = k) (zs ns : List α) (ys : List Value) (d y : Nat) (hy : ys.length = y * k) (h : d ≤ zs.length) (h2 : d + ns.length = zs.length + y) :
    setAll (zs.flatMap enc ++ ys) (d * k) (ns.flatMap enc) = (zs.take d ++ ns).flatMap enc := by
  have hl : d * k + ns.length * k = zs.length * k + y * k := by rw [← Nat.add_mul, h2, Nat.add_mul]
  have hd : d * k ≤ zs.length * k := Nat.mul_le_mul_right _ h
  rw [setAll_eq _ _ _ (by rw [List.length_append, flat_length hk, flat_length hk, hy]; omega), List.take_append_of_le_length (by rw [flat_length hk]; exact hd), flat_take hk, List.drop_of_length_le (by rw [List.length_append, flat_length hk, flat_length hk, hy]; omega)]
  simp
/-- Data that is written behind data, over what is there. -/
theorem setAll_end {α : Type} {enc : α → List Value} {k : Nat} (hk : ∀ x, (enc x).length = k) (zs ns : List α) (ys : List Value) (y : Nat) (hy : ys.length = y * k) (h : ns.length ≤ y) :
    setAll (zs.flatMap enc ++ ys) (zs.length * k) (ns.flatMap enc) = (zs ++ ns).flatMap enc ++ ys.drop (ns.length * k) := by
  have hl : ns.length * k ≤ y * k := Nat.mul_le_mul_right _ h
  rw [setAll_eq _ _ _ (by rw [List.length_append, flat_length hk, flat_length hk, hy]; omega), List.take_append_of_le_length (by rw [flat_length hk]; omega), List.take_of_length_le (by rw [flat_length hk]; omega), flat_length hk, List.drop_append, List.drop_of_length_le (by rw [flat_length hk]; omega), flat_length hk,
    show zs.length * k + ns.length * k - zs.length * k = ns.length * k by omega]
  simp
theorem setAll_in {α : Type} {enc : α → List Value} {k : Nat} (hk : ∀ x, (enc x).length = k) (zs ns : List α) (d : Nat) (h : d + ns.length ≤ zs.length) :
    setAll (zs.flatMap enc) (d * k) (ns.flatMap enc) = (zs.take d ++ ns ++ zs.drop (d + ns.length)).flatMap enc := by
  have hl : d * k + ns.length * k ≤ zs.length * k := by rw [← Nat.add_mul]; exact Nat.mul_le_mul_right _ h
  rw [setAll_eq _ _ _ (by rw [flat_length hk, flat_length hk]; omega), flat_take hk, flat_length hk, ← Nat.add_mul, flat_drop hk]
  simp

section
variable {P : Program} {n : Nat} {w0 : World} {R : List Nat} {L : List (Nat × Value)} {M : List Asrt} {ty t t' yt : TypeId} {x y : Operand} {v u : Value} {K : List (Nat × Value) → List Asrt → Prop}

theorem T.rowExt {cd : Code} {Q : Exit → List (Nat × Value) → List Asrt → Prop} {e k m m' c : Nat} {A : Option Addr} {xs : List Value} (i : Nat) (hM : M[i]? = some (.row e k (.slice A m c) m xs)) (h1 : m ≤ m') (h2 : m' ≤ c)
    (h : ∀ ys : List Value, ys.length = (m' - m) * k → T P n w0 R cd Q L (M.set i (.row e k (.slice A m' c) m' (xs ++ ys)))) : T P n w0 R cd Q L M :=
  .mk fun a w hk hp => by
    have ho : w.ownsRow 0 e k (.slice A m c) m xs := hp.own _ (List.mem_of_getElem? hM)
    obtain ⟨ys, hy, ho'⟩ := ownsRow_ext ho h1 h2
    exact (h ys hy).run a w hk (hp.step hM (grownBy_refl w none) (fun k hk => by cases hk) (A' := .row e k (.slice A m' c) m' (xs ++ ys)) ho' (fun k hk => .inl (by cases A <;> first | exact hk | exact absurd hk (by simp [Asrt.foot, Value.ownBlock]))) (by cases A <;> simp [Asrt.foot, Value.ownBlock]))
theorem T.rowCut {cd : Code} {Q : Exit → List (Nat × Value) → List Asrt → Prop} {e k m m' c : Nat} {A : Option Addr} {xs : List Value} (i : Nat) (hM : M[i]? = some (.row e k (.slice A m c) m xs)) (h1 : m' ≤ m)
    (h : T P n w0 R cd Q L (M.set i (.row e k (.slice A m' c) m' (xs.take (m' * k))))) : T P n w0 R cd Q L M :=
  .mk fun a w hk hp => by
    have ho : w.ownsRow 0 e k (.slice A m c) m xs := hp.own _ (List.mem_of_getElem? hM)
    exact h.run a w hk (hp.step hM (grownBy_refl w none) (fun k hk => by cases hk) (A' := .row e k (.slice A m' c) m' (xs.take (m' * k))) (ownsRow_cut ho h1) (fun k hk => .inl (by cases A <;> first | exact hk | exact absurd hk (by simp [Asrt.foot, Value.ownBlock]))) (by cases A <;> simp [Asrt.foot, Value.ownBlock]))

/-- A row's length is within its capacity. -/
theorem T.useCap {cd : Code} {Q : Exit → List (Nat × Value) → List Asrt → Prop} {e k m c : Nat} {A : Option Addr} {xs : List Value} (hm : Asrt.row e k (.slice A m c) m xs ∈ M) (h : m ≤ c → T P n w0 R cd Q L M) : T P n w0 R cd Q L M :=
  .mk fun a w hk hp => (h (hp.capOf hm)).run a w hk hp

/-- Writes into a row, from a place on. -/
theorem stores_row {e k m c d0 g i v' : Nat} {xs vs : List Value} {w : World} (hp : Hp w0 R M w) (hM : M[i]? = some (.row e k (.slice (some ⟨g, 0, none⟩) m c) m xs)) (hv : vs.length = v' * k) (hd : d0 + v' ≤ m) (h1 : ∀ u ∈ vs, u.oneCell' = true) :
    ∃ w', (storeCells ⟨g, d0 * k, none⟩ vs 0).run P w = .ok () w' ∧ Hp w0 R (M.set i (.row e k (.slice (some ⟨g, 0, none⟩) m c) m (setAll xs (d0 * k) vs))) w' := by
  have ho : w.ownsRow 0 e k (.slice (some ⟨g, 0, none⟩) m c) m xs := hp.own _ (List.mem_of_getElem? hM)
  have hle : d0 * k + v' * k ≤ m * k := by rw [← Nat.add_mul]; exact Nat.mul_le_mul_right _ hd
  obtain ⟨w', hr, ho', hg⟩ := run_storeCells_row P vs 0 xs w (d0 * k) ho (by omega) h1
  exact ⟨w', hr, hp.step hM hg (fun k hk => by cases hk; simp [Asrt.foot, Value.ownBlock]) (A' := .row e k (.slice (some ⟨g, 0, none⟩) m c) m (setAll xs (d0 * k) vs)) ho' (fun k hk => .inl hk) (by simp [Asrt.foot, Value.ownBlock])⟩

theorem set_self {A : Asrt} {i : Nat} (h : M[i]? = some A) : M.set i A = M := by
  obtain ⟨l1, l2, rfl, hl⟩ := split_at h
  rw [set_at hl]

theorem row_addr {e k m c : Nat} {A : Option Addr} {xs : List Value} {w : World} (ho : w.ownsRow 0 e k (.slice A m c) m xs) : (A = none ∧ m = 0 ∧ c = 0) ∨ ∃ g, A = some ⟨g, 0, none⟩ := by
  rcases ho.2 with ⟨hv, h0⟩ | ⟨g, cap', cur, hv, _⟩
  · injection hv with e1 e2 e3
    exact .inl ⟨e1, h0, e3⟩
  · injection hv with h2
    exact .inr ⟨g, h2⟩

theorem run_storeCells_nil' (a : Addr) (w : World) : (storeCells a [] 0).run P w = .ok () w := by simp [storeCells]

/-- A copy into a row that is owned, from wherever. -/
theorem Ef_copy {d e e' k m c d0 m1 c1 m2 c2 q i : Nat} {A A2 : Option Addr} {xs xs' news : List Value} (hd : Nat.blt d n = true) (hx : evl L x = some (.slice (subA A c d0 k) m1 c1)) (hy : evl L y = some (.slice A2 m2 c2)) (ht : P.underlying t = some (.slice e)) (hs : sizT P e = some k)
    (hM : M[i]? = some (.row e' k (.slice A m c) m xs)) (hr : ∀ w, Hp w0 R M w → Rd w A2 m2 k news) (h1 : ∀ u ∈ news.take (q * k), u.oneCell' = true) (hq' : min m2 m1 = q) (hdq : d0 + q ≤ m) (hxs : setAll xs (d0 * k) (news.take (q * k)) = xs')
    (h : K ((d, .int .i64 (q : Int)) :: L) (M.set i (.row e' k (.slice A m c) m xs'))) : Ef P n w0 R (some d) (.call { callee := .builtin .copy, args := #[x, y], argTypes := #[t, t'] }) ty L M K :=
  Ef_of hd fun a w hk hp => by
    subst hxs
    have hq : Nat.min m2 m1 = q := hq'
    have ho : w.ownsRow 0 e' k (.slice A m c) m xs := hp.own _ (List.mem_of_getElem? hM)
    have hrw := hr w hp
    obtain ⟨inf, hi, hz⟩ := Option.map_eq_some_iff.1 hs
    have hqm : q ≤ m2 := by rw [← hq]; exact Nat.min_le_left _ _
    have hql : q * k ≤ m2 * k := Nat.mul_le_mul_right _ hqm
    have hnl : (news.take (q * k)).length = q * k := by rw [List.length_take, hrw.len]; omega
    have hcap : m ≤ c := hp.capOf (List.mem_of_getElem? hM)
    have hgo : goInt q = .int .i64 (q : Int) := rfl
    have hfc : (Builtin.firstCells k q (.slice A2 m2 c2)).run P w = .ok (news.take (q * k)).toArray w := by
      cases hA2 : A2 with
      | none =>
        have : m2 = 0 := by
          rcases Nat.eq_zero_or_pos m2 with h0 | h0
          · exact h0
          · have := hrw.some_ h0; rw [hA2] at this; cases this
        have hq0 : q = 0 := by omega
        subst hq0
        simp [Builtin.firstCells]
      | some a2 =>
        have hl := run_loadCells_list (P := P) w a2 (news.take (q * k)) (fun j u hu => by
          have := hrw.cell j u (by rw [List.getElem?_take] at hu; split at hu; exact hu; cases hu)
          rwa [hA2] at this)
        rw [hnl] at hl
        simp [Builtin.firstCells, hl]
    by_cases hq0 : q = 0
    · subst hq0
      have e1 : setAll xs (d0 * k) (news.take (0 * k)) = xs := by simp [setAll]
      rw [e1, set_self hM] at h
      have hg0 : goInt 0 = .int .i64 0 := rfl
      have hfc' : (Builtin.firstCells k 0 (.slice A2 m2 c2)).run P w = .ok #[] w := by rw [hfc]; simp
      refine ⟨_, w, M, ?_, hp, h⟩
      cases hsA : subA A c d0 k with
      | none => rw [hsA] at hx; simp [execOp, hk.ev hx, hk.ev hy, resolve, invoke, builtin, Builtin.copy_, run_underlying ht, sizeOf, typeInfo, hi, hz, Builtin.lenOf, hq, hfc', hg0]
      | some b => rw [hsA] at hx; simp [execOp, hk.ev hx, hk.ev hy, resolve, invoke, builtin, Builtin.copy_, run_underlying ht, sizeOf, typeInfo, hi, hz, Builtin.lenOf, hq, hfc', hg0, run_storeCells_nil']
    · rcases row_addr ho with ⟨_, h0, _⟩ | ⟨g, rfl⟩
      · omega
      · have hsA : subA (some ⟨g, 0, none⟩) c d0 k = some ⟨g, d0 * k, none⟩ := by
          unfold subA
          rw [if_neg (by omega), Option.map_some, blk_add, Nat.zero_add]
        rw [hsA] at hx
        obtain ⟨w', hst, hp'⟩ := stores_row (P := P) hp hM (d0 := d0) (v' := q) hnl hdq h1
        refine ⟨_, w', _, ?_, hp', h⟩
        simp [execOp, hk.ev hx, hk.ev hy, resolve, invoke, builtin, Builtin.copy_, run_underlying ht, sizeOf, typeInfo, hi, hz, Builtin.lenOf, hq, hfc, hgo, hst]

/-- A clear of what stands in a row from a place on: some other cells stand there then. -/
theorem Ef_clear {e e' k m c d0 m1 c1 i : Nat} {A : Option Addr} {xs : List Value} {z : Array Value} (hx : evl L x = some (.slice (subA A c d0 k) m1 c1)) (ht : P.underlying t = some (.slice e)) (hz : zerT P e = some z) (hzl : z.size = k) (h1 : ∀ u ∈ z.toList, u.oneCell' = true)
    (hM : M[i]? = some (.row e' k (.slice A m c) m xs)) (hdm : d0 + m1 ≤ m) (h : ∀ ys : List Value, ys.length = m1 * k → K L (M.set i (.row e' k (.slice A m c) m (setAll xs (d0 * k) ys)))) : Ef P n w0 R none (.call { callee := .builtin .clear, args := #[x], argTypes := #[t] }) ty L M K := by
  refine .mk fun a w next Q hk hp hn => ?_
  have ho : w.ownsRow 0 e' k (.slice A m c) m xs := hp.own _ (List.mem_of_getElem? hM)
  have hcap : m ≤ c := hp.capOf (List.mem_of_getElem? hM)
  have key : ∃ w' M', (execOp a.eval ⟨none, .call { callee := .builtin .clear, args := #[x], argTypes := #[t] }, ty, "", #[], none⟩).run P w = .ok (.value (.tuple #[])) w' ∧ Hp w0 R M' w' ∧ K L M' := by
    by_cases hm : m1 = 0
    · subst hm
      have := h [] (by simp)
      have e1 : setAll xs (d0 * k) [] = xs := by simp [setAll]
      rw [e1, set_self hM] at this
      refine ⟨w, M, ?_, hp, this⟩
      cases hsA : subA A c d0 k with
      | none => rw [hsA] at hx; simp [execOp, hk.ev hx, resolve, invoke, builtin, Builtin.clear_, run_underlying ht]
      | some b => rw [hsA] at hx; simp [execOp, hk.ev hx, resolve, invoke, builtin, Builtin.clear_, run_underlying ht]
    · rcases row_addr ho with ⟨_, h0, _⟩ | ⟨g, rfl⟩
      · omega
      · have hsA : subA (some ⟨g, 0, none⟩) c d0 k = some ⟨g, d0 * k, none⟩ := by
          unfold subA
          rw [if_neg (by omega), Option.map_some, blk_add, Nat.zero_add]
        rw [hsA] at hx
        obtain ⟨zv, hzv, rfl⟩ := Option.map_eq_some_iff.1 hz
        obtain ⟨inf, hi, hzz⟩ := Option.bind_eq_some_iff.1 hzv
        have hzc : ∀ u ∈ (Builtin.zeroCells zv.cells m1).toList, u.oneCell' = true := fun u hu => by
          simp only [Builtin.zeroCells, Array.toList_map, List.mem_map] at hu
          obtain ⟨j, hj, rfl⟩ := hu
          simp at hj
          have hk0 : 0 < zv.cells.size := by
            rcases Nat.eq_zero_or_pos zv.cells.size with h0 | h0
            · rw [h0] at hj; simp at hj
            · exact h0
          have hlt := Nat.mod_lt j hk0
          rw [getElem!_pos zv.cells (j % zv.cells.size) hlt]
          exact h1 _ (by simp)
        have hl : (Builtin.zeroCells zv.cells m1).toList.length = m1 * k := by rw [Array.length_toList, size_zeroCells, hzl]
        obtain ⟨w', hst, hp'⟩ := stores_row (P := P) hp hM (d0 := d0) (v' := m1) hl hdm hzc
        refine ⟨w', _, ?_, hp', h _ hl⟩
        obtain ⟨m1', rfl⟩ : ∃ q, m1 = q + 1 := ⟨m1 - 1, by omega⟩
        simp [execOp, hk.ev hx, resolve, invoke, builtin, Builtin.clear_, run_underlying ht, zeroValue, hi, hzz, hst, typeInfo]
  obtain ⟨w', M', hr, hp', hK⟩ := key
  unfold Oper.wp
  rw [hr]
  exact hn _ _ _ _ hk hp' hK

/-- A clear of all behind a place: the row is cut there. -/
theorem Ef_clearTo {e e' k m c d0 m1 c1 i : Nat} {A : Option Addr} {xs xs' : List Value} {z : Array Value} (hx : evl L x = some (.slice (subA A c d0 k) m1 c1)) (ht : P.underlying t = some (.slice e)) (hz : zerT P e = some z) (hzl : z.size = k) (h1 : ∀ u ∈ z.toList, u.oneCell' = true)
    (hM : M[i]? = some (.row e' k (.slice A m c) m xs)) (hdm : d0 + m1 = m) (hxs : xs.take (d0 * k) = xs') (h : K L (M.set i (.row e' k (.slice A d0 c) d0 xs'))) : Ef P n w0 R none (.call { callee := .builtin .clear, args := #[x], argTypes := #[t] }) ty L M K := by
  refine .mk fun a w next Q hk hp hn => ?_
  have hxl : xs.length = m * k := (hp.own _ (List.mem_of_getElem? hM) : w.ownsRow 0 e' k (.slice A m c) m xs).1
  refine (Ef_clear (K := fun L1 M1 => L1 = L ∧ ∃ ys : List Value, ys.length = m1 * k ∧ M1 = M.set i (.row e' k (.slice A m c) m (setAll xs (d0 * k) ys))) hx ht hz hzl h1 hM (by omega) fun ys hy => ⟨rfl, ys, hy, rfl⟩).run a w next Q hk hp fun a1 w1 L1 M1 hk1 hp1 ⟨e1, ys, hy, e2⟩ => ?_
  subst e1 e2
  obtain ⟨l1, l2, hMe, hl⟩ := split_at hM
  have hM1 : (M.set i (.row e' k (.slice A m c) m (setAll xs (d0 * k) ys)))[i]? = some (.row e' k (.slice A m c) m (setAll xs (d0 * k) ys)) := by
    rw [hMe, set_at hl, List.getElem?_append_right (by omega), hl, Nat.sub_self]; rfl
  have ho : w1.ownsRow 0 e' k (.slice A m c) m (setAll xs (d0 * k) ys) := hp1.own _ (List.mem_of_getElem? hM1)
  have ho2 := ownsRow_cut (m' := d0) ho (by omega)
  have hle : d0 * k + m1 * k = m * k := by rw [← Nat.add_mul, hdm]
  rw [setAll_eq _ _ _ (by omega), List.append_assoc, List.take_append_of_le_length (by rw [List.length_take]; omega), List.take_take, Nat.min_self, hxs] at ho2
  have hp2 := hp1.step hM1 (grownBy_refl w1 none) (fun k hk => by cases hk) (A' := .row e' k (.slice A d0 c) d0 xs') ho2 (fun k hk => .inl (by cases A <;> first | exact hk | exact absurd hk (by simp [Asrt.foot, Value.ownBlock]))) (by cases A <;> simp [Asrt.foot, Value.ownBlock])
  rw [List.set_set] at hp2
  exact hn _ _ _ _ hk1 hp2 h

/-- An append of zeros where there is no room: a new row. -/
theorem Ef_appZ {d e k by_ m c q : Nat} {A : Option Addr} {xs : List Value} {tn : TypeId} {kn kq : IntKind} {vq : Int} (hd : Nat.blt d n = true) (hx : evl L x = some (.slice A m c)) (hy : evl L y = some (.int kq vq)) (hvq : vq = (q : Int)) (ht : appT P t = some (e, k, by_)) (htn : P.underlying tn = some (.int kn))
    (hr : ∀ w, Hp w0 R M w → Rd w A m k xs) (hnr : c < m + q) (h0 : 0 < q) (hmc : m ≤ c) (hb : (m + q) * by_ ≤ 140737488355328) (h63 : m + q ≤ 9223372036854775807)
    (h : ∀ b c' (zs : List Value), zs.length = q * k → m + q ≤ c' → K ((d, .slice (some ⟨b, 0, none⟩) (m + q) c') :: L) (.row e k (.slice (some ⟨b, 0, none⟩) (m + q) c') (m + q) (xs ++ zs) :: M)) :
    Ef P n w0 R (some d) (.call { callee := .builtin .append, args := #[x, y], argTypes := #[t, tn] }) ty L M K :=
  Ef_of hd fun a w hk hp => by
    subst hvq
    have hrw := hr w hp
    obtain ⟨hu, inf, z, hi, hz, rfl, rfl, hzc, hk0⟩ := appT_spec ht
    have hfc : (Builtin.firstCells inf.size m (.slice A m c)).run P w.drew = .ok xs.toArray w.drew := by
      cases hA : A with
      | none =>
        have : m = 0 := by
          rcases Nat.eq_zero_or_pos m with h0 | h0
          · exact h0
          · have := hrw.some_ h0; rw [hA] at this; cases this
        subst this
        have : xs = [] := List.eq_nil_of_length_eq_zero (by have := hrw.len; simpa using this)
        subst this
        simp [Builtin.firstCells]
      | some a2 =>
        have hl := run_loadCells_list (P := P) w.drew a2 xs (fun j u hu => by
          have := hrw.cell j u hu
          rw [hA] at this
          exact this)
        rw [hrw.len] at hl
        simp [Builtin.firstCells, hl]
    have hw : IntKind.i64.wrap (q : Int) = q := by rw [IntKind.wrap_i64]; omega
    have hbq : q * inf.bytes ≤ 140737488355328 := Nat.le_trans (Nat.mul_le_mul_right _ (by omega)) hb
    have h48i : ¬ (281474976710656 < (q : Int) * (inf.bytes : Int)) := by rw [← Int.natCast_mul]; omega
    have hneg : ¬ ((q : Int) < 0) := by omega
    have hqs : ¬ (q * inf.size = 0) := Nat.mul_ne_zero (by omega) (by omega)
    have hnroom : ¬ (m + q ≤ c) := by omega
    have hg := growslice_fits (need := m + q) (old := c) (bytes := inf.bytes) (by omega) hb
    have h48 : ¬ (281474976710656 < Builtin.nextslicecap (m + q) c * inf.bytes) := by omega
    have h63' : ¬ (9223372036854775807 < (m : Int) + (q : Int)) := by omega
    have hge := grownCap_ge w (m + q) c e
    have hcm : grownCap w (m + q) c e ≤ maxLen := grownCap_le_maxLen w (m + q) c e (by unfold maxLen; omega)
    have hxl : xs.length = m * inf.size := hrw.len
    have hZl : (Builtin.zeroCells z.cells q).toList.length = q * inf.size := by rw [Array.length_toList, size_zeroCells, hzc]
    have hp' : Hp w0 R (.blk w.heap.size (.cells (xs.toArray ++ Builtin.zeroCells z.cells q ++ Builtin.zeroCells z.cells (grownCap w (m + q) c e - (m + q))) e (0, 0)) :: M) (w.drew.alloc (.cells (xs.toArray ++ Builtin.zeroCells z.cells q ++ Builtin.zeroCells z.cells (grownCap w (m + q) c e - (m + q))) e)) := hp.drew.alloc _
    have hrow : Hp w0 R (.row e inf.size (.slice (some ⟨w.heap.size, 0, none⟩) (m + q) (grownCap w (m + q) c e)) (m + q) (xs ++ (Builtin.zeroCells z.cells q).toList) :: M) (w.drew.alloc (.cells (xs.toArray ++ Builtin.zeroCells z.cells q ++ Builtin.zeroCells z.cells (grownCap w (m + q) c e - (m + q))) e)) := by
      refine hp'.step (i := 0) rfl (grownBy_refl _ none) (fun k hk => by cases hk) (A' := .row e inf.size (.slice (some ⟨w.heap.size, 0, none⟩) (m + q) (grownCap w (m + q) c e)) (m + q) (xs ++ (Builtin.zeroCells z.cells q).toList)) ⟨?_, .inr ⟨w.heap.size, _, _, rfl, Nat.zero_le _, heap_alloc_new w.drew _, hge, hcm, ?_, ?_⟩⟩ (fun k hk => .inl hk) (by simp [Asrt.foot, Value.ownBlock])
      · rw [List.length_append, hxl, hZl, Nat.add_mul]
      · simp only [Array.size_append, List.size_toArray, size_zeroCells, hzc, hxl, ← Nat.add_mul]
        congr 1; omega
      · simp only [Array.toList_append]
        rw [show (m + q) * inf.size = (xs ++ (Builtin.zeroCells z.cells q).toList).length by rw [List.length_append, hxl, hZl, Nat.add_mul]]
        exact List.take_left
    refine ⟨_, _, _, ?_, hrow, h _ _ _ hZl hge⟩
    simp [execOp, hk.ev hx, hk.ev hy, resolve, invoke, builtin, Builtin.append_, run_underlying hu, run_underlying htn, sizeOf, typeInfo, zeroValue, hi, hz, asInt, asIntOf, hw, hneg, hqs, h48i, hnroom, h63', h48, Question.forced, hfc, newRow, grownCap]

theorem Ef_cap {d m c : Nat} {e : TypeId} {A : Option Addr} (hd : Nat.blt d n = true) (hx : evl L x = some (.slice A m c)) (ht : P.underlying t = some (.slice e)) (h : K ((d, .int .i64 (c : Int)) :: L) M) : Ef P n w0 R (some d) (.call { callee := .builtin .cap, args := #[x], argTypes := #[t] }) ty L M K :=
  Ef_y' hd ⟨_, .mk fun a w hk _ => by simp [execOp, hk.ev hx, resolve, invoke, builtin, Builtin.cap_, run_underlying ht, goInt], h⟩
/-- Is a slice the nil slice? -/
theorem Yl_eql_nil {A : Option Addr} {m c m' c' : Nat} {e : TypeId} (hx : evl L x = some (.slice A m c)) (hy : evl L y = some (.slice none m' c')) (ht : P.underlying t = some (.slice e)) : Yl P n w0 R (.binOp .eql t x y yt) ty L M (.bool A.isNone) := .mk fun a w hk _ => by
  simp [execOp, hk.ev hx, hk.ev hy, eqGuard, Lib.run_eql_slice_nil w t e A m c m' c' ht]

/-- .. of which only what stood there is kept: the row as long as it was. -/
theorem Ef_appZ0 {d e k by_ q : Nat} {tn : TypeId} {kn kq : IntKind} {vq : Int} (hd : Nat.blt d n = true) (hx : evl L x = some (.slice none 0 0)) (hy : evl L y = some (.int kq vq)) (hvq : vq = (q : Int)) (ht : appT P t = some (e, k, by_)) (htn : P.underlying tn = some (.int kn))
    (h0 : 0 < q) (hb : q * by_ ≤ 140737488355328) (h63 : q ≤ 9223372036854775807) (h : ∀ b c', q ≤ c' → K ((d, .slice (some ⟨b, 0, none⟩) q c') :: L) (.row e k (.slice (some ⟨b, 0, none⟩) 0 c') 0 [] :: M)) :
    Ef P n w0 R (some d) (.call { callee := .builtin .append, args := #[x, y], argTypes := #[t, tn] }) ty L M K := by
  refine .mk fun a w next Q hk hp hn => ?_
  refine (Ef_appZ (m := 0) (xs := []) (K := fun L1 M1 => ∃ b c' zs, zs.length = q * k ∧ q ≤ c' ∧ L1 = (d, .slice (some ⟨b, 0, none⟩) q c') :: L ∧ M1 = .row e k (.slice (some ⟨b, 0, none⟩) q c') q zs :: M) hd hx hy hvq ht htn (fun w _ => Rd.nil) (by omega) h0 (Nat.le_refl _) (by rw [Nat.zero_add]; exact hb) (by rw [Nat.zero_add]; exact h63)
    fun b c' zs hz hc => ⟨b, c', zs, hz, by omega, by rw [Nat.zero_add], by rw [Nat.zero_add, List.nil_append]⟩).run a w next Q hk hp fun a1 w1 L1 M1 hk1 hp1 ⟨b, c', zs, hz, hc, e1, e2⟩ => ?_
  subst e1 e2
  have ho : w1.ownsRow 0 e k (.slice (some ⟨b, 0, none⟩) q c') q zs := hp1.own _ (.head _)
  have ho2 := ownsRow_cut (m' := 0) ho (Nat.zero_le _)
  have hp2 := hp1.step (i := 0) rfl (grownBy_refl w1 none) (fun k hk => by cases hk) (A' := .row e k (.slice (some ⟨b, 0, none⟩) 0 c') 0 []) (show w1.ownsRow 0 e k (.slice (some ⟨b, 0, none⟩) 0 c') 0 [] by simpa using ho2) (fun k hk => .inl hk) (by simp [Asrt.foot, Value.ownBlock])
  exact hn _ _ _ _ hk1 hp2 (h b c' hc)

/-- An append where there is no room: a new row. -/
theorem Ef_appNR {d e k by_ m c m2 c2 : Nat} {A A2 : Option Addr} {xs news : List Value} (hd : Nat.blt d n = true) (hx : evl L x = some (.slice A m c)) (hy : evl L y = some (.slice A2 m2 c2)) (ht : appT P t = some (e, k, by_))
    (hr : ∀ w, Hp w0 R M w → Rd w A m k xs) (hr2 : ∀ w, Hp w0 R M w → Rd w A2 m2 k news) (h0 : 0 < m) (h2 : 0 < m2) (hnr : c < m + m2) (hb : (m + m2) * by_ ≤ 140737488355328) (h63 : m + m2 ≤ 9223372036854775807)
    (h : ∀ b c', m + m2 ≤ c' → K ((d, .slice (some ⟨b, 0, none⟩) (m + m2) c') :: L) (.row e k (.slice (some ⟨b, 0, none⟩) (m + m2) c') (m + m2) (xs ++ news) :: M)) :
    Ef P n w0 R (some d) (.call { callee := .builtin .append, args := #[x, y], argTypes := #[t, t] }) ty L M K :=
  Ef_of hd fun a w hk hp => by
    have hrw := hr w hp
    have hrw2 := hr2 w hp
    obtain ⟨hu, inf, z, hi, hz, rfl, rfl, hzc, hk0⟩ := appT_spec ht
    have hA := hrw.some_ h0
    have hA2 := hrw2.some_ h2
    rw [hA] at hx
    rw [hA2] at hy
    have hcm : grownCap w (m + m2) c e ≤ maxLen := grownCap_le_maxLen w (m + m2) c e (by unfold maxLen; omega)
    have hge := grownCap_ge w (m + m2) c e
    have hxl : xs.length = m * inf.size := hrw.len
    have hnl : news.length = m2 * inf.size := hrw2.len
    have hrun := run_append_grow (P := P) w t ty e inf z hu hi hz (adr A) m c xs hxl (fun j u hu => hrw.cell j u hu) (adr A2) m2 c2 news hnl (fun j u hu => hrw2.cell j u hu) (by omega) (by omega) (growslice_fits (by omega) hb)
    have hp' : Hp w0 R (.blk w.heap.size (.cells (xs.toArray ++ news.toArray ++ Builtin.zeroCells z.cells (grownCap w (m + m2) c e - (m + m2))) e (0, 0)) :: M) (w.drew.alloc (.cells (xs.toArray ++ news.toArray ++ Builtin.zeroCells z.cells (grownCap w (m + m2) c e - (m + m2))) e)) := hp.drew.alloc _
    have hrow : Hp w0 R (.row e inf.size (.slice (some ⟨w.heap.size, 0, none⟩) (m + m2) (grownCap w (m + m2) c e)) (m + m2) (xs ++ news) :: M) (w.drew.alloc (.cells (xs.toArray ++ news.toArray ++ Builtin.zeroCells z.cells (grownCap w (m + m2) c e - (m + m2))) e)) := by
      refine hp'.step (i := 0) rfl (grownBy_refl _ none) (fun k hk => by cases hk) (A' := .row e inf.size (.slice (some ⟨w.heap.size, 0, none⟩) (m + m2) (grownCap w (m + m2) c e)) (m + m2) (xs ++ news)) ⟨?_, .inr ⟨w.heap.size, _, _, rfl, Nat.zero_le _, heap_alloc_new w.drew _, hge, hcm, ?_, ?_⟩⟩ (fun k hk => .inl hk) (by simp [Asrt.foot, Value.ownBlock])
      · rw [List.length_append, hxl, hnl, Nat.add_mul]
      · simp only [Array.size_append, List.size_toArray, size_zeroCells, hzc, hxl, hnl, ← Nat.add_mul]
        congr 1; omega
      · simp only [Array.toList_append]
        rw [show (m + m2) * inf.size = (xs ++ news).length by rw [List.length_append, hxl, hnl, Nat.add_mul]]
        exact List.take_left
    refine ⟨_, _, _, ?_, hrow, h _ _ hge⟩
    simp [execOp, hk.ev hx, hk.ev hy, resolve, invoke, builtin, hrun]

/-- What a callee leaves, in another order. -/
theorem Sp.reorder {f : FuncId} {args : List Value} {w : World} {Res Res' : Value → List Asrt → Prop} (h : Sp P f args w R Res) (hr : ∀ v N, Res v N → ∃ N', N.Perm N' ∧ Res' v N') : Sp P f args w R Res' :=
  .mk (Calls.mono h.run fun _ _ ⟨v, N, he, hR, hp⟩ => by
    obtain ⟨N', hpm, hR'⟩ := hr v N hR
    exact ⟨v, N', he, hR', hp.perm hpm⟩)

/-- A callee that turns some things: one outcome for each z. -/
theorem Ef_callM {f : FuncId} {args : Array Operand} {ats : Array TypeId} {vals : List Value} {d : Nat} {S M' : List Asrt} {Rs : List Nat} {β : Type} {V : β → Value} {N0 : β → List Asrt} (mk : List Bool) (hd : Nat.blt d n = true) (ha : evls L args.toList = some vals) (hen : Enters P f)
    (hS : sel mk M = S) (hM' : oth mk M = M') (hRs : S.flatMap Asrt.foot = Rs) (hc : ∀ w, Hp w Rs S w → Sp P f vals w Rs (fun v N => ∃ z : β, v = V z ∧ N = N0 z)) (h : ∀ z, K ((d, V z) :: L) (N0 z ++ M')) : Ef P n w0 R (some d) (.call { callee := .value (.func f), args := args, argTypes := ats }) ty L M K :=
  Ef_callX (φ := fun _ => True) mk hd ha hen hS hM' hRs (fun w hp => (hc w hp).mono fun _ _ ⟨z, h1, h2⟩ => ⟨z, trivial, h1, h2⟩) fun z _ => h z

/-- An append onto nothing, of what reads as news wherever it lies. -/
theorem Ef_app0G {d e k by_ m2 c2 i : Nat} {s : Operand} {vv : Value} {A2 : Option Addr} {news : List Value} (hd : Nat.blt d n = true) (hs : evl L s = some vv) (hx : evl L x = some (.slice A2 m2 c2)) (ht : appT P t = some (e, k, by_))
    (hM : M[i]? = some (.row e k vv 0 [])) (hr : ∀ w, Hp w0 R M w → Rd w A2 m2 k news) (h1 : ∀ u ∈ news, u.oneCell' = true) (hb : m2 * by_ ≤ 140737488355328) (h63 : m2 ≤ 9223372036854775807)
    (h : ∀ A c, K ((d, .slice A m2 c) :: L) (M.set i (.row e k (.slice A m2 c) m2 news))) :
    Ef P n w0 R (some d) (.call { callee := .builtin .append, args := #[s, x], argTypes := #[t, t] }) ty L M K :=
  Ef_appendG hd hs hx ht hM hr h1 (by rw [Nat.zero_add]; exact hb) (by rw [Nat.zero_add]; exact h63) fun A c => by rw [Nat.zero_add, List.nil_append]; exact h A c

/-! ### Do two rows overlap? -/

theorem hp_apart {w : World} (hp : Hp w0 R M w) {i j : Nat} {A B : Asrt} (hA : M[i]? = some A) (hB : M[j]? = some B) (hij : i ≠ j) {b : Nat} (h1 : b ∈ A.foot) (h2 : b ∈ B.foot) : False := by
  have hn := hp.nodup
  unfold List.Nodup at hn
  rw [List.pairwise_flatMap] at hn
  obtain ⟨hi, e1⟩ := List.getElem?_eq_some_iff.1 hA
  obtain ⟨hj, e2⟩ := List.getElem?_eq_some_iff.1 hB
  rcases Nat.lt_or_gt_of_ne hij with h | h
  · exact List.pairwise_iff_getElem.1 hn.2 i j hi hj h b (by rw [e1]; exact h1) b (by rw [e2]; exact h2) rfl
  · exact List.pairwise_iff_getElem.1 hn.2 j i hj hi h b (by rw [e2]; exact h2) b (by rw [e1]; exact h1) rfl

/-- A call of a function of the model's own. -/
theorem Ef_extern {f : FuncId} {args : Array Operand} {ats : Array TypeId} {vals : List Value} {d : Nat} {X : Value} (hd : Nat.blt d n = true) (ha : evls L args.toList = some vals)
    (hc : ∀ w, Hp w0 R M w → (callFunc f vals.toArray).run P w = .ok (.value X) w)
    (h : K ((d, X) :: L) M) : Ef P n w0 R (some d) (.call { callee := .value (.func f), args := args, argTypes := ats }) ty L M K :=
  Ef_of hd fun a w hk hp => by
    refine ⟨X, w, M, ?_, hp, h⟩
    have h1 : args.map a.eval = vals.toArray := by apply Array.ext'; simpa using hk.evs ha
    have h2 := hc w hp
    simp [execOp, resolve, h1, Act.eval, Deferred.ofValue, invoke, h2]

theorem row_obj {w : World} {e k m c g : Nat} {xs : List Value} (ho : w.ownsRow 0 e k (.slice (some ⟨g, 0, none⟩) m c) m xs) : ∃ cur, w.heap[g]? = some (.cells cur e (0, 0)) ∧ cur.size = c * k ∧ m ≤ c := by
  rcases ho.2 with ⟨hv, h0⟩ | ⟨g', cap', cur, hv, hb, hg, hmc, hcm, hcs, _⟩
  · injection hv with e1; cases e1
  · injection hv with e1 _ e3
    injection e1 with e1
    injection e1 with e1
    subst e1 e3
    exact ⟨cur, hg, hcs, hmc⟩

/-- slices.overlaps of a row and of a part of another one. -/
theorem Ef_overlaps {f : FuncId} {fn : Func} {tS tR : TypeId} {el e1 k1 m1 c1 e2 k2 m2 c2 d2 l2 r2 i j sz : Nat} {A B : Option Addr} {xs ys : List Value} {args : Array Operand} {ats : Array TypeId} {d : Nat} (hd : Nat.blt d n = true)
    (ha : evls L args.toList = some [.slice A m1 c1, .slice (subA B c2 d2 k2) l2 r2]) (hf : P.funcs[f]? = some fn) (hnm : (fn.name == "runtime.NumGoroutine") = false) (hb : fn.body.isNone = true) (hn : Extern.findNext fn = none)
    (he : Extern.find fn = some (Extern.SlicesOverlaps.overlaps #[tS, tS] #[tR])) (ht : P.underlying tS = some (.slice el)) (hs : sizT P el = some sz) (hM1 : M[i]? = some (.row e1 k1 (.slice A m1 c1) m1 xs)) (hM2 : M[j]? = some (.row e2 k2 (.slice B m2 c2) m2 ys)) (hij : i ≠ j)
    (h1 : 0 < m1) (h2 : 0 < m2) (hk2 : 0 < k2) (h : K ((d, .bool false) :: L) M) : Ef P n w0 R (some d) (.call { callee := .value (.func f), args := args, argTypes := ats }) ty L M K :=
  Ef_extern hd ha (fun w hp => by
    have ho1 : w.ownsRow 0 e1 k1 (.slice A m1 c1) m1 xs := hp.own _ (List.mem_of_getElem? hM1)
    have ho2 : w.ownsRow 0 e2 k2 (.slice B m2 c2) m2 ys := hp.own _ (List.mem_of_getElem? hM2)
    rcases row_addr ho1 with ⟨_, h0, _⟩ | ⟨g1, rfl⟩
    · omega
    rcases row_addr ho2 with ⟨_, h0, _⟩ | ⟨g2, rfl⟩
    · omega
    have hne : g1 ≠ g2 := fun h => hp_apart hp hM1 hM2 hij (b := g1) (by simp [Asrt.foot, Value.ownBlock]) (by simp [Asrt.foot, Value.ownBlock, h])
    obtain ⟨cu1, hg1, hs1, _⟩ := row_obj ho1
    obtain ⟨cu2, hg2, hs2, hc2⟩ := row_obj ho2
    obtain ⟨o, hsA⟩ : ∃ o, subA (some ⟨g2, 0, none⟩) c2 d2 k2 = some ⟨g2, o, none⟩ := by
      unfold subA
      split
      · exact ⟨0, rfl⟩
      · exact ⟨d2 * k2, by rw [Option.map_some, blk_add, Nat.zero_add]⟩
    obtain ⟨inf, hi, hz⟩ := Option.map_eq_some_iff.1 hs
    have hrun := Lib.run_overlaps_apart (P := P) w tS tR el ht sz (fun w => by simp [sizeOf, typeInfo, hi, hz]) ⟨g1, 0, none⟩ ⟨g2, o, none⟩ m1 c1 l2 r2 hne e1 e2 cu1.size cu2.size (by simp [World.shape?, hg1]) (by simp [World.shape?, hg2])
      (by rw [hs2]; exact Nat.ne_of_gt (Nat.mul_pos (by omega) hk2)) (ho1.frozenAt 0) (ho1.frozenAt _)
    rw [hsA, run_callFunc_extern hf hnm hb hn he, hrun]
    rfl) h
end
end Go.Proofs.Ytdbpnolpgkcjiaa
