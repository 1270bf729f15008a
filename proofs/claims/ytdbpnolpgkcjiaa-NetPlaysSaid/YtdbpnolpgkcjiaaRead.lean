/- What an argument's reading gives to my walks, for every shape that is made of integers, bools, strings, slices, structs and arrays. -/
import Derived.Test.YtdbpnolpgkcjiaaMore
import Derived.OpenShut
import Derived.ChangeSlices
import Derived.ShutString
import Derived.ChangeOld
import Derived.ProofKit
import Derived.Deep.Slices
import Derived.Deep.Fields
namespace Go.Proofs.Ytdbpnolpgkcjiaa
open Go.ChangeShapes Go.WideShapes Go.ChangeAt Go.RowKit Go.Deep

/-- A shape of data; 'pair' and 'unit': the parts of a struct. -/
inductive Sh where
  | int (k : IntKind)
  | bool
  | str
  | sl (e : Sh)
  | arr (n : Nat) (e : Sh)
  | unit
  | pair (a b : Sh)

def Sh.n : Sh → Nat
  | .int _ | .bool | .str | .sl _ => 1
  | .arr n e => n * e.n
  | .unit => 0
  | .pair a b => a.n + b.n

/-- Cells that read as a shape says. -/
def Is (w : World) : Sh → List Value → Prop
  | .int k, cs => ∃ n, cs = [.int k n] ∧ (Lit.int k n).wf = true
  | .bool, cs => ∃ b, cs = [.bool b]
  | .str, cs => ∃ s, cs = [.string s] ∧ s.size ≤ 9223372036854775807
  | .sl e, cs => ∃ (A : Option Addr) (len cap : Nat) (xs : List Value), cs = [.slice A len cap] ∧ len ≤ cap ∧ cap ≤ maxLen ∧ Rd w A len e.n xs ∧ ∀ i, i < len → Is w e ((xs.drop (i * e.n)).take e.n)
  | .arr n e, cs => cs.length = n * e.n ∧ ∀ i, i < n → Is w e ((cs.drop (i * e.n)).take e.n)
  | .unit, cs => cs = []
  | .pair a b, cs => Is w a (cs.take a.n) ∧ Is w b (cs.drop a.n)

/-- Is a type of a shape? inr: the fields of a struct from one on, and their place. -/
def ckS (P : Program) : Sh → TypeId ⊕ (List Field × Nat) → Bool
  | .int k, .inl t => match P.underlying t with | some (.int k') => decide (k' = k) | _ => false
  | .bool, .inl t => match P.underlying t with | some .bool => true | _ => false
  | .str, .inl t => match P.underlying t with | some .string => true | _ => false
  | .sl e, .inl t => match P.underlying t with | some (.slice u) => decide (P.cellsOf u = e.n) && decide (0 < e.n) && ckS P e (.inl u) | _ => false
  | .arr n e, .inl t => match P.underlying t with | some (.array m u) => decide (m = n) && decide (P.cellsOf u = e.n) && decide (P.cellsOf t = n * e.n) && ckS P e (.inl u) | _ => false
  | .unit, .inr (fs, _) => fs.isEmpty
  | .pair a b, .inr (f :: fs, off) => decide (f.offset = off) && decide (P.cellsOf f.type = a.n) && ckS P a (.inl f.type) && ckS P b (.inr (fs, off + a.n))
  | .pair a b, .inl t => match P.underlying t with
    | some (.struct fs) => match fs.toList with
      | f :: fs => decide (P.cellsOf t = a.n + b.n) && decide (f.offset = 0) && decide (P.cellsOf f.type = a.n) && ckS P a (.inl f.type) && ckS P b (.inr (fs, a.n))
      | [] => false
    | _ => false
  | _, _ => false

section
variable {H : Type} {enc : TypeId × Value → H} {P : Program} {w : World} {held : Bool}

theorem mapM_forall {α β : Type} {f : α → Option β} : ∀ {l : List α} {xs : List β}, l.mapM f = some xs → ∀ x ∈ l, ∃ y, f x = some y
  | [], _, _, x, hx => by cases hx
  | a :: l, xs, h, x, hx => by
    rw [List.mapM_cons] at h
    obtain ⟨y, hy, h⟩ := Option.bind_eq_some_iff.1 h
    obtain ⟨ys, hys, _⟩ := Option.bind_eq_some_iff.1 h
    rcases List.mem_cons.1 hx with rfl | hx
    · exact ⟨y, hy⟩
    · exact mapM_forall hys x hx

theorem cells_lt {a : Addr} {n : Nat} {w : World} (h : ∃ v, w.cell? (a.add n) = some v) : a.block < w.heap.size := by
  obtain ⟨v, h⟩ := h
  simp only [World.cell?] at h
  by_cases hlt : a.block < w.heap.size
  · exact hlt
  · exfalso
    have : w.heap[(a.add n).block]? = none := by rw [block_add]; exact Array.getElem?_eq_none (by omega)
    simp [this] at h

/-- All the elements' cells, one behind the other. -/
theorem rows_list (w : World) (a : Addr) (k : Nat) : ∀ (m : Nat), (∀ i, i < m → ∃ cs' : List Value, cs'.length = k ∧ ∀ j, j < k → w.cell? (a.add (i * k + j)) = cs'[j]?) →
    ∃ xs : List Value, xs.length = m * k ∧ ∀ j, j < m * k → w.cell? (a.add j) = xs[j]?
  | 0, _ => ⟨[], by simp, fun j hj => by omega⟩
  | m + 1, h => by
    obtain ⟨xs, hl, hx⟩ := rows_list w a k m fun i hi => h i (by omega)
    obtain ⟨cs', hc, hcell⟩ := h m (by omega)
    refine ⟨xs ++ cs', by rw [List.length_append, hl, hc, Nat.add_mul, Nat.one_mul], fun j hj => ?_⟩
    rw [Nat.add_mul, Nat.one_mul] at hj
    by_cases hlt : j < m * k
    · rw [List.getElem?_append_left (by omega)]; exact hx j hlt
    · rw [List.getElem?_append_right (by omega), hl, ← hcell (j - m * k) (by omega)]
      congr 2; omega

theorem is_of : ∀ (sh : Sh) (fuel : Nat) (s : TypeId ⊕ (List Field × Nat)) (cs : List Value), ckS P sh s = true →
    (match s with
      | .inl t => ∃ x, DataW.trod enc P w 0 (fun _ => true) held fuel t cs = some x
      | .inr (fs, off) => ∃ all : List Value, cs = all.drop off ∧ all.length = off + sh.n ∧ ∀ f ∈ fs, ∃ x, DataW.trod enc P w 0 (fun _ => true) held fuel f.type ((all.drop f.offset).take (P.cellsOf f.type)) = some x) →
    Is w sh cs := by
  intro sh
  induction sh with
  | int k =>
    intro fuel s cs hc h
    cases s with
    | inr p => simp [ckS] at hc
    | inl t =>
      obtain ⟨x, hx⟩ := h
      cases fuel with
      | zero => simp [DataW.trod] at hx
      | succ fuel =>
      simp only [ckS] at hc
      split at hc
      · rename_i k' hu
        simp only [decide_eq_true_eq] at hc
        subst hc
        unfold DataW.trod at hx
        rw [hu] at hx
        split at hx <;> simp_all
        exact ⟨_, rfl, hx.1.2⟩
      · cases hc
  | bool =>
    intro fuel s cs hc h
    cases s with
    | inr p => simp [ckS] at hc
    | inl t =>
      obtain ⟨x, hx⟩ := h
      cases fuel with
      | zero => simp [DataW.trod] at hx
      | succ fuel =>
      simp only [ckS] at hc
      split at hc
      · rename_i hu
        unfold DataW.trod at hx
        rw [hu] at hx
        split at hx <;> simp_all [Is]
      · cases hc
  | str =>
    intro fuel s cs hc h
    cases s with
    | inr p => simp [ckS] at hc
    | inl t =>
      obtain ⟨x, hx⟩ := h
      cases fuel with
      | zero => simp [DataW.trod] at hx
      | succ fuel =>
      simp only [ckS] at hc
      split at hc
      · rename_i hu
        unfold DataW.trod at hx
        rw [hu] at hx
        split at hx <;> simp_all
        exact ⟨_, rfl, by have := hx.1; unfold maxLen at this; omega⟩
      · cases hc
  | sl e ih =>
    intro fuel s cs hc h
    cases s with
    | inr p => simp [ckS] at hc
    | inl t =>
      obtain ⟨x, hx⟩ := h
      simp only [ckS] at hc
      split at hc
      · rename_i u hu
        simp only [Bool.and_eq_true, decide_eq_true_eq] at hc
        rcases open_slice hu hx with ⟨rfl, _⟩ | ⟨a, len, cap, m, n, D, Pl, rfl, _, hl, hm, hmm, _, hi⟩
        · exact ⟨none, 0, 0, [], rfl, Nat.le_refl _, Nat.zero_le _, Rd.nil, fun i hi => by omega⟩
        · simp only [if_true] at hmm
          subst hmm
          have hrow : ∀ i, i < len → ∃ cs' : List Value, cs'.length = e.n ∧ (∀ j, j < e.n → w.cell? (a.add (i * e.n + j)) = cs'[j]?) ∧ ∃ x, DataW.trod enc P w 0 (fun _ => true) held n u cs' = some x := by
            intro i hil
            obtain ⟨cs', hcs, ht⟩ := hi i (by omega)
            rw [hc.1.1] at hcs
            obtain ⟨_, hcl, hat⟩ := World.cells?_some hcs
            refine ⟨cs', hcl, fun j hj => ?_, _, ht⟩
            rw [← add_add', hat j hj, List.getElem?_eq_getElem (by omega)]
          obtain ⟨xs, hxl, hxc⟩ := rows_list w a e.n len fun i hil => by obtain ⟨cs', h1, h2, _⟩ := hrow i hil; exact ⟨cs', h1, h2⟩
          refine ⟨some a, len, m, xs, rfl, hl, hm, ⟨hxl, fun _ => rfl, fun hpos => ?_, fun j v hj => ?_⟩, fun i hil => ?_⟩
          · have h0 := hxc 0 (Nat.mul_pos hpos hc.1.2)
            exact cells_lt ⟨_, h0.trans (List.getElem?_eq_getElem (by rw [hxl]; exact Nat.mul_pos hpos hc.1.2))⟩
          · have hjl := (List.getElem?_eq_some_iff.1 hj).1
            show w.cell? (a.add j) = some v
            rw [hxc j (by omega)]; exact hj
          · obtain ⟨cs', h1, h2, x', h3⟩ := hrow i hil
            have e1 : (xs.drop (i * e.n)).take e.n = cs' := by
              have hle : i * e.n + e.n ≤ len * e.n := by
                have : (i + 1) * e.n ≤ len * e.n := Nat.mul_le_mul_right _ hil
                rwa [Nat.add_mul, Nat.one_mul] at this
              apply List.ext_getElem?
              intro j
              by_cases hj : j < e.n
              · rw [List.getElem?_take_of_lt hj, List.getElem?_drop, ← hxc _ (by omega), ← h2 j hj]
              · rw [List.getElem?_eq_none (by rw [List.length_take]; omega), List.getElem?_eq_none (by omega)]
            rw [e1]
            exact ih n (.inl u) cs' hc.2 ⟨x', h3⟩
      · cases hc
  | arr n e ih =>
    intro fuel s cs hc h
    cases s with
    | inr p => simp [ckS] at hc
    | inl t =>
      obtain ⟨x, hx⟩ := h
      simp only [ckS] at hc
      split at hc
      · rename_i m u hu
        simp only [Bool.and_eq_true, decide_eq_true_eq] at hc
        obtain ⟨⟨⟨rfl, h1⟩, h2⟩, h3⟩ := hc
        obtain ⟨xs, f, _, _, hlen, hxl, hi⟩ := DataW.trod_array hu hx
        refine ⟨hlen.trans h2, fun i him => ?_⟩
        have := hi i him
        rw [h1, List.getElem?_eq_getElem (by omega)] at this
        exact ih f (.inl u) _ h3 ⟨_, this⟩
      · cases hc
  | unit =>
    intro fuel s cs hc h
    cases s with
    | inl t => simp [ckS] at hc
    | inr p =>
      obtain ⟨fs, off⟩ := p
      simp only [ckS, List.isEmpty_iff] at hc
      obtain ⟨all, rfl, h0, _⟩ := h
      exact List.drop_of_length_le (by rw [h0]; exact Nat.le_refl _)
  | pair a b iha ihb =>
    intro fuel s cs hc h
    cases s with
    | inl t =>
      obtain ⟨x, hx⟩ := h
      simp only [ckS] at hc
      split at hc
      · rename_i fs hu
        split at hc
        · rename_i f fr hfs
          simp only [Bool.and_eq_true, decide_eq_true_eq] at hc
          obtain ⟨⟨⟨⟨h1, h2⟩, h3⟩, h4⟩, h5⟩ := hc
          obtain ⟨ys, n', _, _, hlen, hyl, hf⟩ := DataW.trod_struct hu hx
          have hat : ∀ f' ∈ fs.toList, ∃ x, DataW.trod enc P w 0 (fun _ => true) held n' f'.type ((cs.drop f'.offset).take (P.cellsOf f'.type)) = some x := by
            intro f' hf'
            obtain ⟨j, hj, he⟩ := List.getElem_of_mem hf'
            have hj' : fs[j]? = some f' := by
              rw [← Array.getElem?_toList, List.getElem?_eq_getElem hj, he]
            have := hf j f' hj'
            exact ⟨_, this.trans (List.getElem?_eq_getElem (by rw [hyl]; simpa using hj))⟩
          rw [hfs] at hat
          refine ⟨?_, ?_⟩
          · have := hat f (by simp)
            rw [h2, h3, List.drop_zero] at this
            exact iha n' (.inl f.type) _ h4 this
          · refine ihb n' (.inr (fr, a.n)) _ h5 ⟨cs, rfl, hlen.trans h1, fun f' hf' => hat f' (by simp [hf'])⟩
        · cases hc
      · cases hc
    | inr p =>
      obtain ⟨fs, off⟩ := p
      obtain ⟨all, rfl, h0, hat⟩ := h
      cases fs with
      | nil => simp [ckS] at hc
      | cons f fr =>
        simp only [ckS, Bool.and_eq_true, decide_eq_true_eq] at hc
        obtain ⟨⟨⟨h2, h3⟩, h4⟩, h5⟩ := hc
        refine ⟨?_, ?_⟩
        · have := hat f (by simp)
          rw [h2, h3] at this
          exact iha fuel (.inl f.type) _ h4 this
        · rw [List.drop_drop]
          refine ihb fuel (.inr (fr, off + a.n)) _ h5 ⟨all, rfl, by rw [h0]; simp only [Sh.n]; omega, fun f' hf' => hat f' (by simp [hf'])⟩

theorem is_arg {t : TypeId} {v : Value} {d : DataW H} {ps : List MemPlace} {sh : Sh} (hc : ckS P sh (.inl t) = true) (h : DataW.Trod enc P w 0 (fun _ => true) held t v d ps) : Is w sh v.cells.toList := by
  obtain ⟨fuel, hf⟩ := h
  exact is_of sh fuel (.inl t) _ hc ⟨_, hf⟩
theorem arg_lt {t : TypeId} {v : Value} {d : DataW H} {ps : List MemPlace} {sp : Nat → Bool} (h : DataW.Trod enc P w 0 sp held t v d ps) : ∀ x ∈ ps, x.block < w.heap.size := by
  obtain ⟨m, hm⟩ := h; exact DataW.trod_lt m _ _ _ hm
end

theorem int_wf {n : Int} (h : (Lit.int .i64 n).wf = true) : -9223372036854775808 ≤ n ∧ n ≤ 9223372036854775807 := by
  simp only [Lit.wf, Bool.and_eq_true, decide_eq_true_eq] at h
  exact h
theorem u8_wf {n : Int} (h : (Lit.int .u8 n).wf = true) : 0 ≤ n ∧ n ≤ 255 := by
  simp only [Lit.wf, Bool.and_eq_true, decide_eq_true_eq] at h
  exact h

section
variable {P : Program} {w : World} {r : Reach} {base : Nat} {t : TypeId} {v : Value}
theorem ar_int {k : IntKind} (ht : P.underlying t = some (.int k)) (hv : Value.okWide P w r base t v) (h : Is w (.int k) v.cells.toList) : ∃ n, v = .int k n ∧ (Lit.int k n).wf = true := by
  simp only [Value.okWide, ht, Cell.okWide] at hv
  obtain ⟨n, h1, h2⟩ := h
  cases v <;> simp_all [Cell.ok, Value.cells]
theorem ar_bool (ht : P.underlying t = some .bool) (hv : Value.okWide P w r base t v) : ∃ b, v = .bool b := by
  simp only [Value.okWide, ht, Cell.okWide] at hv
  cases v <;> simp_all [Cell.ok]
theorem ar_str (ht : P.underlying t = some .string) (hv : Value.okWide P w r base t v) (h : Is w .str v.cells.toList) : ∃ s, v = .string s ∧ s.size ≤ 9223372036854775807 := by
  obtain ⟨s, rfl⟩ := okWide_string ht hv
  obtain ⟨s', h1, h2⟩ := h
  simp [Value.cells] at h1
  subst h1
  exact ⟨_, rfl, h2⟩
theorem ar_sl {u : TypeId} {e : Sh} (ht : P.underlying t = some (.slice u)) (hv : Value.okWide P w r base t v) (h : Is w (.sl e) v.cells.toList) :
    ∃ (A : Option Addr) (len cap : Nat) (xs : List Value), v = .slice A len cap ∧ len ≤ cap ∧ cap ≤ 9223372036854775807 ∧ Rd w A len e.n xs ∧ ∀ i, i < len → Is w e ((xs.drop (i * e.n)).take e.n) := by
  obtain ⟨a, len, cap, rfl⟩ := okWide_slice ht hv
  obtain ⟨A, len', cap', xs, h1, h2, h3, h4, h5⟩ := h
  simp [Value.cells] at h1
  obtain ⟨rfl, rfl, rfl⟩ := h1
  exact ⟨_, _, _, xs, rfl, h2, h3, h4, h5⟩
theorem ar_st {fs : Array Field} {sh : Sh} (ht : P.underlying t = some (.struct fs)) (hv : Value.okWide P w r base t v) (h : Is w sh v.cells.toList) : ∃ cs : List Value, v = .agg cs.toArray ∧ Is w sh cs := by
  obtain ⟨cs, rfl, _⟩ := okWide_struct ht hv
  exact ⟨cs.toList, rfl, h⟩
end

/-- A row of choices. -/
theorem choose_list {α : Type} {p : Nat → α → Prop} : ∀ (n : Nat), (∀ i, i < n → ∃ x, p i x) → ∃ l : List α, l.length = n ∧ ∀ i x, l[i]? = some x → p i x
  | 0, _ => ⟨[], rfl, fun i x h => by simp at h⟩
  | n + 1, h => by
    obtain ⟨l, hl, hp⟩ := choose_list n fun i hi => h i (by omega)
    obtain ⟨x, hx⟩ := h n (by omega)
    refine ⟨l ++ [x], by simp [hl], fun i y hy => ?_⟩
    by_cases hi : i < l.length
    · rw [List.getElem?_append_left hi] at hy; exact hp i y hy
    · rw [List.getElem?_append_right (by omega)] at hy
      have : i - l.length = 0 := by
        have := (List.getElem?_eq_some_iff.1 hy).1
        simp at this; omega
      rw [this] at hy
      have hil : i = n := by omega
      subst hil
      simp at hy; subst hy; exact hx

/-! ### Rows of data, as cells one behind the other -/

section
variable {α : Type} {enc : α → List Value} {k : Nat}

theorem flatMap_len (hk : ∀ x, (enc x).length = k) : ∀ (l : List α), (l.flatMap enc).length = l.length * k
  | [] => by simp
  | x :: l => by rw [List.flatMap_cons, List.length_append, hk, flatMap_len hk l, List.length_cons, Nat.add_mul, Nat.one_mul, Nat.add_comm]

theorem enc_at (hk : ∀ x, (enc x).length = k) {l : List α} {i j : Nat} {x : α} (hx : l[i]? = some x) (hj : j < k) : (l.flatMap enc)[i * k + j]? = (enc x)[j]? := by
  induction l generalizing i with
  | nil => simp at hx
  | cons y l ih =>
    rw [List.flatMap_cons]
    cases i with
    | zero =>
      simp at hx
      subst hx
      rw [Nat.zero_mul, Nat.zero_add, List.getElem?_append_left (by rw [hk]; exact hj)]
    | succ i =>
      rw [List.getElem?_append_right (by rw [hk, Nat.add_mul]; omega), hk, ← ih (i := i) (by simpa using hx)]
      congr 1
      rw [Nat.add_mul]; omega

theorem enc_atA (hk : ∀ x, (enc x).length = k) {l : List α} {i : Nat} {x : α} (hx : l[i]? = some x) : ∀ j u, (enc x)[j]? = some u → (l.flatMap enc)[i * k + j]? = some u := fun j u hu => by
  have hj := (List.getElem?_eq_some_iff.1 hu).1
  rw [enc_at hk hx (by rw [hk] at hj; exact hj)]; exact hu

theorem rows_enc (hk : ∀ x, (enc x).length = k) {q : α → Prop} : ∀ (n : Nat) (xs : List Value), xs.length = n * k → (∀ i, i < n → ∃ x, (xs.drop (i * k)).take k = enc x ∧ q x) → ∃ l : List α, l.length = n ∧ xs = l.flatMap enc ∧ ∀ x ∈ l, q x
  | 0, xs, hl, _ => ⟨[], rfl, by have : xs = [] := List.eq_nil_of_length_eq_zero (by simpa using hl); simp [this], fun x h => by simp at h⟩
  | n + 1, xs, hl, h => by
    obtain ⟨x, hx, hq⟩ := h 0 (by omega)
    rw [Nat.zero_mul, List.drop_zero] at hx
    have hl' : (xs.drop k).length = n * k := by rw [List.length_drop, hl, Nat.add_mul]; omega
    obtain ⟨l, h1, h2, h3⟩ := rows_enc hk n (xs.drop k) hl' fun i hi => by
      obtain ⟨y, hy, hqy⟩ := h (i + 1) (by omega)
      refine ⟨y, ?_, hqy⟩
      rw [List.drop_drop, ← hy]
      congr 2
      rw [Nat.add_mul]; omega
    refine ⟨x :: l, by simp [h1], ?_, fun y hy => ?_⟩
    · rw [List.flatMap_cons, ← h2, ← hx, List.take_append_drop]
    · rcases List.mem_cons.1 hy with rfl | hy
      · exact hq
      · exact h3 y hy

theorem some_of_lt {l : List α} {i : Nat} (h : i < l.length) : ∃ x, l[i]? = some x := ⟨_, List.getElem?_eq_getElem h⟩
theorem lt_of_some {l : List α} {i : Nat} {x : α} (h : l[i]? = some x) : i < l.length := (List.getElem?_eq_some_iff.1 h).1
theorem take_snoc {l : List α} {i : Nat} {x : α} (h : l[i]? = some x) : l.take (i + 1) = l.take i ++ [x] := by
  rw [List.take_add_one, h]; rfl
theorem mem_of_some {l : List α} {i : Nat} {x : α} (h : l[i]? = some x) : x ∈ l := List.mem_of_getElem? h
end

/-- Integers as cells. -/
def eI (k : IntKind) (n : Int) : List Value := [.int k n]
theorem eI_len (k : IntKind) (n : Int) : (eI k n).length = 1 := rfl
theorem eI_map (k : IntKind) (l : List Int) : l.flatMap (eI k) = l.map (Value.int k) := by
  induction l with
  | nil => rfl
  | cons x l ih => rw [List.flatMap_cons, ih]; rfl
end Go.Proofs.Ytdbpnolpgkcjiaa
