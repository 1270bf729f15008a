/- The engine's laws for slice expressions, function values, scopes and labels. -/
import Derived.Test.YtdbpnolpgkcjiaaTree
import Derived.Scope
namespace Go.Proofs.Ytdbpnolpgkcjiaa
open Go.RowKit

/-- Where a part of a slice begins: the model leaves the address where nothing is behind it. -/
def subA (A : Option Addr) (m l k : Nat) : Option Addr := if m = l then A else A.map (·.add (l * k))

theorem subA_0 (A : Option Addr) (m k : Nat) : subA A m 0 k = A := by
  unfold subA
  split
  · rfl
  · cases A with
    | none => rfl
    | some a => simp [Addr.add]

theorem Rd.part {w : World} {A : Option Addr} {n k : Nat} {xs : List Value} (h : Rd w A n k xs) {l m c : Nat} (h1 : l + m ≤ n) (h2 : n ≤ c ∨ l + m ≤ c ∧ m = 0 ∨ l + m ≤ c) : Rd w (subA A c l k) m k ((xs.drop (l * k)).take (m * k)) := by
  have hc : l + m ≤ c := by omega
  by_cases hm : m = 0
  · subst hm
    rw [Nat.zero_mul, List.take_zero]
    exact Rd.nil
  have hA := h.some_ (by omega)
  have e : subA A c l k = some ((adr A).add (l * k)) := by
    unfold subA
    rw [if_neg (by omega), hA]
    rfl
  rw [e]
  have hle : l * k + m * k ≤ n * k := by rw [← Nat.add_mul]; exact Nat.mul_le_mul_right _ h1
  refine ⟨?_, fun _ => rfl, fun _ => ?_, fun j u hu => ?_⟩
  · rw [List.length_take, List.length_drop, h.len]; omega
  · show ((adr A).add (l * k)).block < w.heap.size
    rw [block_add]; exact h.lt (by omega)
  · show w.cell? (((adr A).add (l * k)).add j) = some u
    rw [add_add']
    refine h.cell _ _ ?_
    rw [List.getElem?_take] at hu
    split at hu
    · rw [List.getElem?_drop] at hu; exact hu
    · cases hu

theorem flat_part {α : Type} {enc : α → List Value} {k : Nat} (hk : ∀ x, (enc x).length = k) (l : List α) (i m : Nat) : ((l.flatMap enc).drop (i * k)).take (m * k) = ((l.drop i).take m).flatMap enc := by
  have hd : ∀ (l : List α) (i : Nat), (l.flatMap enc).drop (i * k) = (l.drop i).flatMap enc := by
    intro l
    induction l with
    | nil => intro i; simp
    | cons x l ih =>
      intro i
      cases i with
      | zero => simp
      | succ i =>
        rw [List.flatMap_cons, List.drop_append, List.drop_of_length_le (by rw [hk, Nat.add_mul]; omega), List.nil_append, hk]
        rw [show (i + 1) * k - k = i * k by rw [Nat.add_mul]; omega, ih]; rfl
  have ht : ∀ (l : List α) (m : Nat), (l.flatMap enc).take (m * k) = (l.take m).flatMap enc := by
    intro l
    induction l with
    | nil => intro m; simp
    | cons x l ih =>
      intro m
      cases m with
      | zero => simp
      | succ m =>
        rw [List.flatMap_cons, List.take_append, List.take_of_length_le (by rw [hk, Nat.add_mul]; omega), hk]
        rw [show (m + 1) * k - k = m * k by rw [Nat.add_mul]; omega, ih]; rfl
  rw [hd, ht]

theorem Rd.enc {α : Type} {enc : α → List Value} {k : Nat} (hk : ∀ x, (enc x).length = k) {w : World} {A : Option Addr} {n : Nat} {zs : List α} (h : Rd w A n k (zs.flatMap enc)) {l m c : Nat} (h1 : l + m ≤ n) (h2 : l + m ≤ c) :
    Rd w (subA A c l k) m k (((zs.drop l).take m).flatMap enc) := by
  have := h.part (l := l) (m := m) (c := c) h1 (.inr (.inr h2))
  rwa [flat_part hk] at this
/-- From a place on. -/
theorem Rd.from_ {α : Type} {enc : α → List Value} {k : Nat} (hk : ∀ x, (enc x).length = k) {w : World} {A : Option Addr} {n : Nat} {zs : List α} (h : Rd w A n k (zs.flatMap enc)) (hz : zs.length = n) {l c : Nat} (h1 : l ≤ n) (h2 : n ≤ c) :
    Rd w (subA A c l k) (n - l) k ((zs.drop l).flatMap enc) := by
  have := h.enc hk (l := l) (m := n - l) (c := c) (by omega) (by omega)
  rwa [List.take_of_length_le (by rw [List.length_drop]; omega)] at this
/-- Up to a place. -/
theorem Rd.upto {α : Type} {enc : α → List Value} {k : Nat} (hk : ∀ x, (enc x).length = k) {w : World} {A : Option Addr} {n : Nat} {zs : List α} (h : Rd w A n k (zs.flatMap enc)) {m : Nat} (h1 : m ≤ n) : Rd w A m k ((zs.take m).flatMap enc) := by
  have := h.enc hk (l := 0) (m := m) (c := m) (by omega) (by omega)
  rwa [subA_0] at this

section
variable {P : Program} {n : Nat} {w0 : World} {R : List Nat} {L : List (Nat × Value)} {M : List Asrt} {ty t t' yt : TypeId} {x y c : Operand} {v u : Value} {K : List (Nat × Value) → List Asrt → Prop}

theorem run_sl {e k : Nat} {A : Option Addr} {len cap l h m : Nat} {low high max : Option Value} {w : World} (ht : P.underlying t = some (.slice e)) (hs : sizT P e = some k) (hb : (Instr.sliceBounds true len cap low high max).run P w = .ok (l, h, m) w) :
    (Instr.sliceAt t (.slice A len cap) low high max).run P w = .ok (.slice (subA A m l k) (h - l) (m - l)) w := by
  obtain ⟨inf, hi, hz⟩ := Option.map_eq_some_iff.1 hs
  simp [Instr.sliceAt, Instr.slice, run_underlying ht, hb, sizeOf, typeInfo, hi, hz, subA]

theorem Yl_sl_l {e k len cap l : Nat} {A : Option Addr} {kd : IntKind} {lo : Operand} (hx : evl L x = some (.slice A len cap)) (hl : evl L lo = some (.int kd (l : Int))) (ht : P.underlying t = some (.slice e)) (hs : sizT P e = some k) (h1 : l ≤ len) :
    Yl P n w0 R (.slice t x (some lo) none none) ty L M (.slice (subA A cap l k) (len - l) (cap - l)) := .mk fun a w hk _ => by
  have := run_sl (A := A) (cap := cap) (len := len) (low := some (.int kd (l : Int))) (high := none) (max := none) (l := l) (h := len) (m := cap) (w := w) ht hs (by simp [Instr.sliceBounds, Instr.sliceBound, asIntOf, h1])
  simp [execOp, hk.ev hx, hk.ev hl, this]
theorem Yl_sl_h {e k len cap h : Nat} {A : Option Addr} {kd : IntKind} {hi : Operand} (hx : evl L x = some (.slice A len cap)) (hh : evl L hi = some (.int kd (h : Int))) (ht : P.underlying t = some (.slice e)) (hs : sizT P e = some k) (h1 : h ≤ cap) :
    Yl P n w0 R (.slice t x none (some hi) none) ty L M (.slice A h cap) := .mk fun a w hk _ => by
  have := run_sl (A := A) (low := none) (high := some (.int kd (h : Int))) (max := none) (l := 0) (h := h) (m := cap) (w := w) (len := len) (cap := cap) ht hs (by simp [Instr.sliceBounds, Instr.sliceBound, asIntOf, h1])
  rw [subA_0] at this
  simp [execOp, hk.ev hx, hk.ev hh, this]
theorem Yl_sl_lh {e k len cap l h : Nat} {A : Option Addr} {kd kd' : IntKind} {lo hi : Operand} (hx : evl L x = some (.slice A len cap)) (hl : evl L lo = some (.int kd' (l : Int))) (hh : evl L hi = some (.int kd (h : Int))) (ht : P.underlying t = some (.slice e)) (hs : sizT P e = some k) (h0 : l ≤ h) (h1 : h ≤ cap) :
    Yl P n w0 R (.slice t x (some lo) (some hi) none) ty L M (.slice (subA A cap l k) (h - l) (cap - l)) := .mk fun a w hk _ => by
  have := run_sl (A := A) (low := some (.int kd' (l : Int))) (high := some (.int kd (h : Int))) (max := none) (l := l) (h := h) (m := cap) (w := w) (len := len) (cap := cap) ht hs (by simp [Instr.sliceBounds, Instr.sliceBound, asIntOf, h1, h0])
  simp [execOp, hk.ev hx, hk.ev hh, hk.ev hl, this]
theorem Yl_sl_hm {e k len cap h m : Nat} {A : Option Addr} {kd kd' : IntKind} {hi mx : Operand} (hx : evl L x = some (.slice A len cap)) (hh : evl L hi = some (.int kd (h : Int))) (hm : evl L mx = some (.int kd' (m : Int))) (ht : P.underlying t = some (.slice e)) (hs : sizT P e = some k) (h0 : h ≤ m) (h1 : m ≤ cap) :
    Yl P n w0 R (.slice t x none (some hi) (some mx)) ty L M (.slice A h m) := .mk fun a w hk _ => by
  have := run_sl (A := A) (low := none) (high := some (.int kd (h : Int))) (max := some (.int kd' (m : Int))) (l := 0) (h := h) (m := m) (w := w) (len := len) (cap := cap) ht hs (by simp [Instr.sliceBounds, Instr.sliceBound, asIntOf, h1, h0])
  rw [subA_0] at this
  simp [execOp, hk.ev hx, hk.ev hh, hk.ev hm, this]

theorem Hp.capOf {w : World} (hp : Hp w0 R M w) {e k m cap : Nat} {A : Option Addr} {xs : List Value} (hm : Asrt.row e k (.slice A m cap) m xs ∈ M) : m ≤ cap := by
  rcases (hp.own _ hm : w.ownsRow 0 e k (.slice A m cap) m xs).2 with ⟨_, h⟩ | ⟨g, cap', cur, hv, _, _, hle, _⟩
  · omega
  · injection hv with h1 h2 h3; omega
/-- A store of one cell into a row, the row known behind it. -/
theorem Ef_store_row1 {A : Option Addr} {e k m cap j i : Nat} {xs xs' : List Value} (hx : evl L x = some (.pointer (some ((adr A).add j)))) (hy : evl L y = some v) (h1 : v.oneCell' = true) (hs : sizT P t = some 1) (hM : M[i]? = some (.row e k (.slice A m cap) m xs)) (hj : j < m * k)
    (hxs : xs.set j v = xs') (h : K L (M.set i (.row e k (.slice A m cap) m xs'))) : Ef P n w0 R none (.store t x y) ty L M K := Ef_store_row hx hy h1 hs hM hj (hxs ▸ h)

/-! ### Function values -/

theorem Yl_mkf {f : Fn} {cs : Array Operand} {lb : List Value} (h : evls L cs.toList = some lb) : Yl P n w0 R (.makeFunc f #[] cs) ty L M (.func f #[] lb.toArray) := .mk fun a w hk _ => by
  have h1 : cs.map a.eval = lb.toArray := by apply Array.ext'; simpa using hk.evs h
  simp [execOp, Instr.makeFunc, h1]

/-- A call of a function value that answers X and leaves nothing. -/
theorem Ef_callVP {f : FuncId} {s : Nat} {lb : Array Value} {args : Array Operand} {ats : Array TypeId} {vals : List Value} {d : Nat} {X : Value} (hd : Nat.blt d n = true) (hf : Env.get L s = some (.func (.func f) #[] lb)) (ha : evls L args.toList = some vals) (hen : Enters P f)
    (hc : ∀ w, Hp w0 R M w → Sp P f (vals ++ lb.toList) w [] (fun v N => v = X ∧ N = [])) (h : K ((d, X) :: L) M) : Ef P n w0 R (some d) (.call { callee := .value (.tmp s), args := args, argTypes := ats }) ty L M K :=
  Ef_callV hd hf ha hen hc fun v N ⟨h1, h2⟩ => by subst h1 h2; exact h

/-! ### Scopes, labels -/

def scopeQ (Q : Exit → List (Nat × Value) → List Asrt → Prop) : Exit → List (Nat × Value) → List Asrt → Prop
  | .goto _, _, _ => False
  | e, L, M => Q e L M
theorem T.scope {c : Code} {Q : Exit → List (Nat × Value) → List Asrt → Prop} (h : T P n w0 R c (scopeQ Q) L M) : T P n w0 R (.scope c) Q L M :=
  .mk fun a w hk hp => wp_scope_straight (wp_mono (h.run a w hk hp) fun e a' w' ⟨L', M', hk', hp', hq⟩ => by
    cases e <;> first | exact hq.elim | exact ⟨L', M', hk', hp', hq⟩)
theorem T.label {l : Nat} {Q : Exit → List (Nat × Value) → List Asrt → Prop} (h : Q .normal L M) : T P n w0 R (.label l) Q L M := .mk fun _ _ hk hp => wp_label ⟨L, M, hk, hp, h⟩
theorem scopeQ_n {Q : Exit → List (Nat × Value) → List Asrt → Prop} (h : Q .normal L M) : scopeQ Q .normal L M := h
theorem scopeQ_r {Q : Exit → List (Nat × Value) → List Asrt → Prop} (h : Q .ret L M) : scopeQ Q .ret L M := h
theorem scopeQ_x {id : Nat} {Q : Exit → List (Nat × Value) → List Asrt → Prop} (h : Q (.exit id) L M) : scopeQ Q (.exit id) L M := h
end
end Go.Proofs.Ytdbpnolpgkcjiaa
