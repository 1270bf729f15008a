/- The engine of my walks: what is known of a frame's slots (a list) and of the memory that a call owns (a list of blocks and rows), and one law for each operation. No program in sight. -/
import Derived.OrdersHeld
import Derived.WalkKit
import Derived.WalkLawsBesides
import Derived.Maps.AppendAt
import Derived.Shelf.Abstract
namespace Go.Proofs.Ytdbpnolpgkcjiaa
open Go.RowKit

/-! ### Slots -/

def Env.get : List (Nat × Value) → Nat → Option Value
  | [], _ => none
  | (j, v) :: r, i => cond (Nat.beq j i) (some v) (Env.get r i)

def evl (L : List (Nat × Value)) : Operand → Option Value
  | .tmp t => Env.get L t
  | .const v => some v
  | .global g => some (.pointer (some ⟨g, 0, none⟩))
  | .func f => some (.func (.func f) #[] #[])

theorem nbeq {i j : Nat} (e : i ≠ j) : Nat.beq i j = false := by
  cases h : Nat.beq i j with
  | false => rfl
  | true => exact absurd (Nat.eq_of_beq_eq_true h) e

structure Kn (n : Nat) (L : List (Nat × Value)) (a : Act) : Prop where
  size : n ≤ a.tmps.size
  defers : a.defers = []
  get : ∀ i v, Env.get L i = some v → a.tmps.getD i undef = v

section
variable {n : Nat} {L : List (Nat × Value)} {a : Act}

theorem Kn.ev (h : Kn n L a) {x : Operand} {v : Value} (hx : evl L x = some v) : a.eval x = v := by
  cases x with
  | tmp t => exact h.get t v hx
  | const u => simpa [evl, Act.eval] using hx
  | global g => simpa [evl, Act.eval] using hx
  | func f => simpa [evl, Act.eval] using hx

theorem Kn.put (h : Kn n L a) {d : Nat} (v : Value) (hd : Nat.blt d n = true) : Kn n ((d, v) :: L) (a.put (some d) v) := by
  have hd' : d < a.tmps.size := Nat.lt_of_lt_of_le (Nat.le_of_ble_eq_true hd) h.size
  refine ⟨by simpa [Act.put] using h.size, h.defers, fun i u hu => ?_⟩
  by_cases e : d = i
  · subst e
    have hu' : v = u := by simpa [Env.get] using hu
    subst hu'
    simp [Act.put, hd']
  · have hb : Nat.beq d i = false := nbeq e
    have hu' : Env.get L i = some u := by simpa [Env.get, hb] using hu
    have := h.get i u hu'
    simpa [Act.put, Array.getElem?_setIfInBounds_ne e] using this

theorem Kn.put_none (h : Kn n L a) (v : Value) : Kn n L (a.put none v) := h

theorem Kn.sub {L' : List (Nat × Value)} (h : Kn n L a) (hs : ∀ i v, Env.get L' i = some v → Env.get L i = some v) : Kn n L' a :=
  ⟨h.size, h.defers, fun i v hv => h.get i v (hs i v hv)⟩
end

/-- All that L' knows L knows. -/
def Sub (L' L : List (Nat × Value)) : Prop := ∀ i v, Env.get L' i = some v → Env.get L i = some v
theorem Sub.nil {L : List (Nat × Value)} : Sub [] L := fun _ _ h => by cases h
theorem Sub.cons {L' L : List (Nat × Value)} {i : Nat} {v : Value} (h : Env.get L i = some v) (t : Sub L' L) : Sub ((i, v) :: L') L := fun j u hu => by
  by_cases e : i = j
  · subst e
    have : v = u := by simpa [Env.get] using hu
    subst this; exact h
  · have hb : Nat.beq i j = false := nbeq e
    exact t j u (by simpa [Env.get, hb] using hu)

/-! ### Memory -/

inductive Asrt where
  | blk (b : Nat) (o : Obj)
  | row (e k : Nat) (v : Value) (n : Nat) (xs : List Value)
  | gen (foot : List Nat) (p : World → Prop) (loc : ∀ w w' : World, (∀ k ∈ foot, w'.heap[k]? = w.heap[k]?) → p w → p w')

def Asrt.foot : Asrt → List Nat
  | .blk b _ => [b]
  | .row _ _ v _ _ => v.ownBlock.toList
  | .gen f _ _ => f

def Asrt.holds : Asrt → World → Prop
  | .blk b o, w => w.heap[b]? = some o
  | .row e k v n xs, w => w.ownsRow 0 e k v n xs
  | .gen f p _, w => p w ∧ ∀ k ∈ f, k < w.heap.size

theorem heap_lt {w : World} {b : Nat} {o : Obj} (h : w.heap[b]? = some o) : b < w.heap.size := (Array.getElem?_eq_some_iff.1 h).1

theorem Asrt.foot_lt {A : Asrt} {w : World} (h : A.holds w) : ∀ k ∈ A.foot, k < w.heap.size := by
  cases A with
  | blk b o => intro k hk; simp [Asrt.foot] at hk; subst hk; exact heap_lt h
  | row e s v n xs => intro k hk; simp [Asrt.foot] at hk; exact (World.ownsRow.lt h k hk).2
  | gen f p loc => exact h.2

theorem ownsRow_of_block {w w' : World} {base e k n : Nat} {v : Value} {xs : List Value} (h : w.ownsRow base e k v n xs) (hb : ∀ g, v.ownBlock = some g → w'.heap[g]? = w.heap[g]?) : w'.ownsRow base e k v n xs := by
  refine ⟨h.1, ?_⟩
  rcases h.2 with hn | ⟨g, cap, cur, rfl, hb', hgg, rest⟩
  · exact .inl hn
  · exact .inr ⟨g, cap, cur, rfl, hb', by rw [hb g rfl]; exact hgg, rest⟩

theorem Asrt.keep {A : Asrt} {w w' : World} (h : A.holds w) (hk : ∀ k ∈ A.foot, w'.heap[k]? = w.heap[k]?) : A.holds w' := by
  cases A with
  | blk b o => exact (hk b (by simp [Asrt.foot])).trans h
  | row e s v n xs => exact ownsRow_of_block h fun g hg => hk g (by simp [Asrt.foot, hg])
  | gen f p loc =>
    refine ⟨loc w w' hk h.1, fun k hkk => ?_⟩
    have h1 := h.2 k hkk
    have h2 := hk k hkk
    rw [Array.getElem?_eq_getElem h1] at h2
    exact (Array.getElem?_eq_some_iff.1 h2).1

/-- What a call knows of its world w: below what it owns (M) and may turn (R), all is as in w0. -/
structure Hp (w0 : World) (R : List Nat) (M : List Asrt) (w : World) : Prop where
  os : w.os = w0.os
  tape : w.tape = w0.tape
  output : w.output = w0.output
  size : w0.heap.size ≤ w.heap.size
  old : ∀ k, k < w0.heap.size → k ∉ R → w.heap[k]? = w0.heap[k]?
  own : ∀ A ∈ M, A.holds w
  nodup : (M.flatMap Asrt.foot).Nodup
  lo : ∀ k ∈ M.flatMap Asrt.foot, k ∈ R ∨ w0.heap.size ≤ k

section
variable {w0 w w' : World} {R : List Nat} {M M' N : List Asrt}

theorem Hp.refl (w : World) : Hp w [] [] w := ⟨rfl, rfl, rfl, Nat.le_refl _, fun _ _ _ => rfl, (fun _ h => by cases h), List.nodup_nil, (fun _ h => by cases h)⟩

theorem Hp.refl_blk {w : World} {b : Nat} {o : Obj} (h : w.heap[b]? = some o) : Hp w [b] [.blk b o] w :=
  ⟨rfl, rfl, rfl, Nat.le_refl _, fun _ _ _ => rfl, fun A hA => by simp at hA; subst hA; exact h, by simp [Asrt.foot], fun k hk => by simp [Asrt.foot] at hk; exact .inl (by simp [hk])⟩

theorem Hp.drew (h : Hp w0 R M w) : Hp w0 R M w.drew := ⟨h.os, h.tape, h.output, h.size, h.old, fun A hA => Asrt.keep (h.own A hA) fun _ _ => rfl, h.nodup, h.lo⟩
theorem Hp.drewN (h : Hp w0 R M w) (n : Nat) : Hp w0 R M (w.drewN n) := ⟨h.os, h.tape, h.output, h.size, h.old, fun A hA => Asrt.keep (h.own A hA) fun _ _ => rfl, h.nodup, h.lo⟩

theorem Hp.foot_lt (h : Hp w0 R M w) : ∀ k ∈ M.flatMap Asrt.foot, k < w.heap.size := by
  intro k hk
  obtain ⟨A, hA, hkA⟩ := List.mem_flatMap.1 hk
  exact Asrt.foot_lt (h.own A hA) k hkA

theorem flat_sub {l' l : List Asrt} (h : l'.Sublist l) : (l'.flatMap Asrt.foot).Sublist (l.flatMap Asrt.foot) := by
  induction h with
  | slnil => exact List.Sublist.refl _
  | cons a _ ih => rw [List.flatMap_cons]; exact ih.trans (List.sublist_append_right _ _)
  | cons_cons a _ ih => rw [List.flatMap_cons, List.flatMap_cons]; exact List.Sublist.append (List.Sublist.refl _) ih

theorem Hp.weaken (h : Hp w0 R M w) (hs : M'.Sublist M) : Hp w0 R M' w :=
  ⟨h.os, h.tape, h.output, h.size, h.old, fun A hA => h.own A (hs.subset hA), List.Nodup.sublist (flat_sub hs) h.nodup, fun k hk => h.lo k ((flat_sub hs).subset hk)⟩

/-- New blocks. -/
theorem Hp.more (h : Hp w0 R M w) (hn : Hp w [] N w') : Hp w0 R (N ++ M) w' := by
  have hold : ∀ k, k < w.heap.size → w'.heap[k]? = w.heap[k]? := fun k hk => hn.old k hk (by simp)
  have hlo : ∀ k ∈ N.flatMap Asrt.foot, w.heap.size ≤ k := fun k hk => (hn.lo k hk).resolve_left (by simp)
  refine ⟨hn.os.trans h.os, hn.tape.trans h.tape, hn.output.trans h.output, Nat.le_trans h.size hn.size, fun k hk hR => ?_, fun A hA => ?_, ?_, fun k hk => ?_⟩
  · rw [hold k (Nat.lt_of_lt_of_le hk h.size)]; exact h.old k hk hR
  · rcases List.mem_append.1 hA with hA | hA
    · exact hn.own A hA
    · exact Asrt.keep (h.own A hA) fun k hk => hold k (Asrt.foot_lt (h.own A hA) k hk)
  · rw [List.flatMap_append, List.nodup_append]
    refine ⟨hn.nodup, h.nodup, fun a ha b hb hab => ?_⟩
    subst hab
    have h1 := hlo a ha
    have h2 := h.foot_lt a hb
    omega
  · rw [List.flatMap_append, List.mem_append] at hk
    rcases hk with hk | hk
    · exact .inr (Nat.le_trans h.size (hlo k hk))
    · exact h.lo k hk

theorem Hp.alloc_self (w : World) (o : Obj) : Hp w [] [.blk w.heap.size o] (w.alloc o) :=
  ⟨rfl, rfl, rfl, by simp, fun k hk _ => Below.heap_alloc w o k hk, fun A hA => by simp at hA; subst hA; exact heap_alloc_new w o, by simp [Asrt.foot], fun k hk => by simp [Asrt.foot] at hk; exact .inr (by omega)⟩

theorem Hp.alloc (h : Hp w0 R M w) (o : Obj) : Hp w0 R (.blk w.heap.size o :: M) (w.alloc o) := h.more (Hp.alloc_self w o)

theorem split_at {i : Nat} {A : Asrt} (h : M[i]? = some A) : ∃ l1 l2, M = l1 ++ A :: l2 ∧ l1.length = i := by
  have hi := (List.getElem?_eq_some_iff.1 h).1
  refine ⟨M.take i, M.drop (i + 1), ?_, by simp; omega⟩
  have : M = M.take i ++ M.drop i := (List.take_append_drop i M).symm
  rw [List.drop_eq_getElem_cons hi] at this
  have e : M[i] = A := (List.getElem?_eq_some_iff.1 h).2
  rw [e] at this
  exact this

theorem set_at {l1 l2 : List Asrt} {A A' : Asrt} {i : Nat} (hi : l1.length = i) : (l1 ++ A :: l2).set i A' = l1 ++ A' :: l2 := by
  subst hi; simp
theorem erase_at {l1 l2 : List Asrt} {A : Asrt} {i : Nat} (hi : l1.length = i) : (l1 ++ A :: l2).eraseIdx i = l1 ++ l2 := by
  subst hi
  rw [List.eraseIdx_append_of_length_le (Nat.le_refl _)]
  simp

theorem nodup_mid {l1 l2 : List Asrt} {A : Asrt} (h : ((l1 ++ A :: l2).flatMap Asrt.foot).Nodup) :
    A.foot.Nodup ∧ ((l1 ++ l2).flatMap Asrt.foot).Nodup ∧ ∀ k ∈ A.foot, k ∉ (l1 ++ l2).flatMap Asrt.foot := by
  simp only [List.flatMap_append, List.flatMap_cons, List.nodup_append, List.mem_append] at h ⊢
  obtain ⟨h1, ⟨h2, h3, h4⟩, h5⟩ := h
  refine ⟨h2, ⟨h1, h3, fun a ha b hb => h5 a ha b (Or.inr hb)⟩, fun k hk hk' => ?_⟩
  rcases hk' with hk' | hk'
  · exact h5 k hk' k (Or.inl hk) rfl
  · exact h4 k hk k hk' rfl

theorem mid_nodup {l1 l2 : List Asrt} {A : Asrt} (h1 : A.foot.Nodup) (h2 : ((l1 ++ l2).flatMap Asrt.foot).Nodup) (h3 : ∀ k ∈ A.foot, k ∉ (l1 ++ l2).flatMap Asrt.foot) :
    ((l1 ++ A :: l2).flatMap Asrt.foot).Nodup := by
  simp only [List.flatMap_append, List.flatMap_cons, List.nodup_append, List.mem_append] at h1 h2 h3 ⊢
  obtain ⟨a1, a2, a3⟩ := h2
  refine ⟨a1, ⟨h1, a2, fun a ha b hb e => h3 a ha (Or.inr (e ▸ hb))⟩, fun a ha b hb e => ?_⟩
  rcases hb with hb | hb
  · exact h3 b hb (Or.inl (e ▸ ha))
  · exact a3 a ha b hb e

/-- One thing that is owned turns (or is laid anew, in a new block). -/
theorem Hp.step (h : Hp w0 R M w) {i : Nat} {A A' : Asrt} (hi : M[i]? = some A) {row : Option Nat} (hg : w.grownBy w' row) (hrow : ∀ k, row = some k → k ∈ A.foot)
    (hA' : A'.holds w') (hf : ∀ k ∈ A'.foot, k ∈ A.foot ∨ w.heap.size ≤ k) (hnd : A'.foot.Nodup) : Hp w0 R (M.set i A') w' := by
  obtain ⟨l1, l2, rfl, hl⟩ := split_at hi
  rw [set_at hl]
  obtain ⟨d1, d2, d3⟩ := nodup_mid h.nodup
  have hmem : ∀ B ∈ l1 ++ l2, B ∈ l1 ++ A :: l2 := fun B hB => by
    rcases List.mem_append.1 hB with h' | h' <;> simp [h']
  have hAlo : ∀ k ∈ A.foot, k ∈ R ∨ w0.heap.size ≤ k := fun k hk => h.lo k (by simp [List.flatMap_append, hk])
  refine ⟨hg.os.trans h.os, hg.tape.trans h.tape, hg.output.trans h.output, Nat.le_trans h.size hg.size, fun k hk hR => ?_, fun B hB => ?_, ?_, fun k hk => ?_⟩
  · rw [hg.block k (Nat.lt_of_lt_of_le hk h.size) (fun e => ?_)]
    · exact h.old k hk hR
    · rcases hAlo k (hrow k e.symm) with h' | h'
      · exact hR h'
      · omega
  · by_cases hBA : B ∈ l1 ++ l2
    · have hB0 := h.own B (hmem B hBA)
      refine Asrt.keep hB0 fun k hk => hg.block k (Asrt.foot_lt hB0 k hk) fun e => ?_
      exact d3 k (hrow k e.symm) (List.mem_flatMap.2 ⟨B, hBA, hk⟩)
    · have : B = A' := by
        rcases List.mem_append.1 hB with h' | h'
        · exact absurd (List.mem_append_left _ h') hBA
        · rcases List.mem_cons.1 h' with h'' | h''
          · exact h''
          · exact absurd (List.mem_append_right _ h'') hBA
      rw [this]; exact hA'
  · refine mid_nodup hnd d2 fun k hk hk' => ?_
    rcases hf k hk with h' | h'
    · exact d3 k h' hk'
    · obtain ⟨B, hB, hkB⟩ := List.mem_flatMap.1 hk'
      have := Asrt.foot_lt (h.own B (hmem B hB)) k hkB
      omega
  · simp only [List.flatMap_append, List.flatMap_cons, List.mem_append] at hk
    rcases hk with hk | hk | hk
    · exact h.lo k (by simp only [List.flatMap_append, List.mem_append]; exact Or.inl hk)
    · rcases hf k hk with h' | h'
      · exact hAlo k h'
      · exact .inr (Nat.le_trans h.size h')
    · exact h.lo k (by simp only [List.flatMap_append, List.flatMap_cons, List.mem_append]; exact Or.inr (Or.inr hk))

/-- A callee that may turn one thing that is owned. -/
theorem Hp.moreR (h : Hp w0 R M w) {i : Nat} {A : Asrt} (hi : M[i]? = some A) (hn : Hp w A.foot N w') : Hp w0 R (N ++ M.eraseIdx i) w' := by
  obtain ⟨l1, l2, rfl, hl⟩ := split_at hi
  rw [erase_at hl]
  obtain ⟨d1, d2, d3⟩ := nodup_mid h.nodup
  have hmem : ∀ B ∈ l1 ++ l2, B ∈ l1 ++ A :: l2 := fun B hB => by
    rcases List.mem_append.1 hB with h' | h' <;> simp [h']
  have hAlo : ∀ k ∈ A.foot, k ∈ R ∨ w0.heap.size ≤ k := fun k hk => h.lo k (by simp [List.flatMap_append, hk])
  refine ⟨hn.os.trans h.os, hn.tape.trans h.tape, hn.output.trans h.output, Nat.le_trans h.size hn.size, fun k hk hR => ?_, fun B hB => ?_, ?_, fun k hk => ?_⟩
  · rw [hn.old k (Nat.lt_of_lt_of_le hk h.size) (fun e => ?_)]
    · exact h.old k hk hR
    · rcases hAlo k e with h' | h'
      · exact hR h'
      · omega
  · rcases List.mem_append.1 hB with hB | hB
    · exact hn.own B hB
    · have hB0 := h.own B (hmem B hB)
      refine Asrt.keep hB0 fun k hk => hn.old k (Asrt.foot_lt hB0 k hk) fun e => ?_
      exact d3 k e (List.mem_flatMap.2 ⟨B, hB, hk⟩)
  · rw [List.flatMap_append, List.nodup_append]
    refine ⟨hn.nodup, d2, fun a ha b hb hab => ?_⟩
    subst hab
    rcases hn.lo a ha with h' | h'
    · exact d3 a h' hb
    · obtain ⟨B, hB, hkB⟩ := List.mem_flatMap.1 hb
      have := Asrt.foot_lt (h.own B (hmem B hB)) a hkB
      omega
  · rw [List.flatMap_append, List.mem_append] at hk
    rcases hk with hk | hk
    · rcases hn.lo k hk with h' | h'
      · exact hAlo k h'
      · exact .inr (Nat.le_trans h.size h')
    · obtain ⟨B, hB, hkB⟩ := List.mem_flatMap.1 hk
      exact h.lo k (List.mem_flatMap.2 ⟨B, hmem B hB, hkB⟩)

theorem Hp.below (h : Hp w0 [] M w) : Below w0.heap.size w0 w := ⟨h.os, h.tape, h.output, h.size, fun k hk => h.old k hk (by simp)⟩

theorem Hp.cell_old (h : Hp w0 R M w) {ad : Addr} (hb : ad.block < w0.heap.size) (hR : ad.block ∉ R) : w.cell? ad = w0.cell? ad := World.cell?_of_block (h.old _ hb hR)
theorem Hp.frozen_old (h : Hp w0 R M w) {ad : Addr} (hb : ad.block < w0.heap.size) (hR : ad.block ∉ R) : w.frozen? ad = w0.frozen? ad := World.frozen?_of_block (h.old _ hb hR)
end

/-! ### The judgements -/

section
variable (P : Program) (n : Nat) (w0 : World) (R : List Nat)

def post (Q : Exit → List (Nat × Value) → List Asrt → Prop) : Exit → Act → World → Prop := fun e a w => ∃ L M, Kn n L a ∧ Hp w0 R M w ∧ Q e L M

def regQ (K : List (Nat × Value) → List Asrt → Prop) : Exit → Act → World → Prop
  | .normal, a, w => ∃ L M, Kn n L a ∧ Hp w0 R M w ∧ K L M
  | _, _, _ => False

/-- A piece of code, from what is known to what is known. -/
structure T (c : Code) (Q : Exit → List (Nat × Value) → List Asrt → Prop) (L : List (Nat × Value)) (M : List Asrt) : Prop where
  run : ∀ a w, Kn n L a → Hp w0 R M w → c.wp P (post n w0 R Q) a w

/-- A row of operations. -/
structure TL (ops : Array Oper) (K : List (Nat × Value) → List Asrt → Prop) (l : List Oper) (L : List (Nat × Value)) (M : List Asrt) : Prop where
  run : ∀ a w, Kn n L a → Hp w0 R M w → wpList P ops (regQ n w0 R K) l a w

/-- An operation that yields v and leaves the world as it is. -/
structure Yl (op : Op) (ty : TypeId) (L : List (Nat × Value)) (M : List Asrt) (v : Value) : Prop where
  run : ∀ a w, Kn n L a → Hp w0 R M w → (execOp a.eval ⟨none, op, ty, "", #[], none⟩).run P w = .ok (.value v) w

/-- Any operation. -/
structure Ef (d : Option Nat) (op : Op) (ty : TypeId) (L : List (Nat × Value)) (M : List Asrt) (K : List (Nat × Value) → List Asrt → Prop) : Prop where
  run : ∀ (a : Act) (w : World) (next : Act → World → Prop) (Q : Exit → Act → World → Prop), Kn n L a → Hp w0 R M w →
    (∀ a' w' L' M', Kn n L' a' → Hp w0 R M' w' → K L' M' → next a' w') → (⟨d, op, ty, "", #[], none⟩ : Oper).wp P a w next Q
end

theorem ex_eq (ρ : Operand → Value) (d : Option Nat) (op : Op) (ty : TypeId) (p : String) (af : Array Edge) (g : Option (Nat × Bool)) :
    execOp ρ ⟨d, op, ty, p, af, g⟩ = execOp ρ ⟨none, op, ty, "", #[], none⟩ := by cases op <;> rfl
theorem owp_eq (P : Program) (d : Option Nat) (op : Op) (ty : TypeId) (p : String) (af : Array Edge) (g : Option (Nat × Bool)) (a : Act) (w : World) (next : Act → World → Prop) (Q : Exit → Act → World → Prop) :
    (⟨d, op, ty, p, af, g⟩ : Oper).wp P a w next Q = (⟨d, op, ty, "", #[], none⟩ : Oper).wp P a w next Q := by
  unfold Oper.wp
  rw [ex_eq, ex_eq _ d]
  rfl

/-- Where an operation's guard was yielded. -/
def gslot (ops : Array Oper) (j : Nat) : Option Nat := (ops[j]?).bind (·.dst)

section
variable {P : Program} {n : Nat} {w0 : World} {R : List Nat} {L L' : List (Nat × Value)} {M M' : List Asrt}

theorem T.sub {c : Code} {Q : Exit → List (Nat × Value) → List Asrt → Prop} (hL : Sub L' L) (hM : M'.Sublist M) (h : T P n w0 R c Q L' M') : T P n w0 R c Q L M :=
  .mk fun a w hk hp => h.run a w (hk.sub hL) (hp.weaken hM)

theorem T.skip {Q : Exit → List (Nat × Value) → List Asrt → Prop} (h : Q .normal L M) : T P n w0 R .skip Q L M := .mk fun _ _ hk hp => wp_skip ⟨L, M, hk, hp, h⟩
theorem T.ret {Q : Exit → List (Nat × Value) → List Asrt → Prop} (h : Q .ret L M) : T P n w0 R .ret Q L M := .mk fun _ _ hk hp => wp_ret ⟨L, M, hk, hp, h⟩
theorem T.exit {Q : Exit → List (Nat × Value) → List Asrt → Prop} {id : Nat} (h : Q (.exit id) L M) : T P n w0 R (.exit id) Q L M := .mk fun _ _ hk hp => wp_exit ⟨L, M, hk, hp, h⟩

def seqQ (P : Program) (n : Nat) (w0 : World) (R : List Nat) (y : Code) (Q : Exit → List (Nat × Value) → List Asrt → Prop) : Exit → List (Nat × Value) → List Asrt → Prop
  | .normal, L, M => T P n w0 R y Q L M
  | e, L, M => Q e L M
def blockQ (id : Nat) (Q : Exit → List (Nat × Value) → List Asrt → Prop) : Exit → List (Nat × Value) → List Asrt → Prop
  | .exit id', L, M => if id' = id then Q .normal L M else Q (.exit id') L M
  | e, L, M => Q e L M

theorem T.seq {x y : Code} {Q : Exit → List (Nat × Value) → List Asrt → Prop} (h : T P n w0 R x (seqQ P n w0 R y Q) L M) : T P n w0 R (.seq x y) Q L M :=
  .mk fun a w hk hp => wp_seq (wp_mono (h.run a w hk hp) fun e a' w' ⟨L', M', hk', hp', hq⟩ => by
    cases e <;> first | exact hq.run a' w' hk' hp' | exact ⟨L', M', hk', hp', hq⟩)
theorem T.block {c : Code} {id : Nat} {Q : Exit → List (Nat × Value) → List Asrt → Prop} (h : T P n w0 R c (blockQ id Q) L M) : T P n w0 R (.block id c) Q L M :=
  .mk fun a w hk hp => wp_block (wp_mono (h.run a w hk hp) fun e a' w' ⟨L', M', hk', hp', hq⟩ => by
    cases e with
    | exit id' =>
      simp only [blockQ] at hq
      simp only [Exit.inBlock]
      split
      · rename_i he; rw [if_pos he] at hq; exact ⟨L', M', hk', hp', hq⟩
      · rename_i he; rw [if_neg he] at hq; exact ⟨L', M', hk', hp', hq⟩
    | _ => exact ⟨L', M', hk', hp', hq⟩)

theorem seqQ_n {y : Code} {Q : Exit → List (Nat × Value) → List Asrt → Prop} (h : T P n w0 R y Q L M) : seqQ P n w0 R y Q .normal L M := h
theorem seqQ_x {y : Code} {id : Nat} {Q : Exit → List (Nat × Value) → List Asrt → Prop} (h : Q (.exit id) L M) : seqQ P n w0 R y Q (.exit id) L M := h
theorem seqQ_r {y : Code} {Q : Exit → List (Nat × Value) → List Asrt → Prop} (h : Q .ret L M) : seqQ P n w0 R y Q .ret L M := h
theorem blockQ_n {id : Nat} {Q : Exit → List (Nat × Value) → List Asrt → Prop} (h : Q .normal L M) : blockQ id Q .normal L M := h
theorem blockQ_r {id : Nat} {Q : Exit → List (Nat × Value) → List Asrt → Prop} (h : Q .ret L M) : blockQ id Q .ret L M := h
theorem blockQ_x {id : Nat} {Q : Exit → List (Nat × Value) → List Asrt → Prop} (h : Q .normal L M) : blockQ id Q (.exit id) L M := by simp only [blockQ, if_true]; exact h
theorem blockQ_y {id id' : Nat} {Q : Exit → List (Nat × Value) → List Asrt → Prop} (hne : Nat.beq id' id = false) (h : Q (.exit id') L M) : blockQ id Q (.exit id') L M := by
  simp only [blockQ]; rw [if_neg (fun e => by subst e; simp at hne)]; exact h

theorem T.cond_t {c : Operand} {x y : Code} {Q : Exit → List (Nat × Value) → List Asrt → Prop} (hc : evl L c = some (.bool true)) (h : T P n w0 R x Q L M) : T P n w0 R (.cond c x y) Q L M :=
  .mk fun a w hk hp => wp_cond_true (hk.ev hc) (h.run a w hk hp)
theorem T.cond_f {c : Operand} {x y : Code} {Q : Exit → List (Nat × Value) → List Asrt → Prop} (hc : evl L c = some (.bool false)) (h : T P n w0 R y Q L M) : T P n w0 R (.cond c x y) Q L M :=
  .mk fun a w hk hp => wp_cond_false (hk.ev hc) (h.run a w hk hp)
theorem T.cond_s {c : Operand} {x y : Code} {b : Bool} {Q : Exit → List (Nat × Value) → List Asrt → Prop} (hc : evl L c = some (.bool b)) (ht : b = true → T P n w0 R x Q L M) (hf : b = false → T P n w0 R y Q L M) : T P n w0 R (.cond c x y) Q L M :=
  .mk fun a w hk hp => wp_cond_split (hk.ev hc) (fun e => (ht e).run a w hk hp) (fun e => (hf e).run a w hk hp)

theorem T.region {id : Nat} {l : List Oper} {Q : Exit → List (Nat × Value) → List Asrt → Prop} (h : TL P n w0 R l.toArray (Q .normal) l L M) : T P n w0 R (.region id l.toArray false) Q L M :=
  .mk fun a w hk hp => wp_mono (wp_region_lit (h.run a w hk hp)) fun e a' w' hq => by
    cases e <;> first | exact hq | exact hq.elim

/-- A loop: F, G: what is known at a round's head, by a ghost state x. -/
def loopQ {α : Type} (F : α → List (Nat × Value)) (G : α → List Asrt) (I : α → Prop) (m : α → Nat) (x : α) (Q : Exit → List (Nat × Value) → List Asrt → Prop) : Exit → List (Nat × Value) → List Asrt → Prop
  | .normal, L, M => ∃ y, Sub (F y) L ∧ (G y).Sublist M ∧ I y ∧ m y < m x
  | e, L, M => Q e L M
theorem loopQ_n {α : Type} {F : α → List (Nat × Value)} {G : α → List Asrt} {I : α → Prop} {m : α → Nat} {x : α} {Q : Exit → List (Nat × Value) → List Asrt → Prop} (y : α) (h1 : Sub (F y) L) (h2 : (G y).Sublist M) (h3 : I y) (h4 : m y < m x) :
    loopQ F G I m x Q .normal L M := ⟨y, h1, h2, h3, h4⟩
theorem loopQ_x {α : Type} {F : α → List (Nat × Value)} {G : α → List Asrt} {I : α → Prop} {m : α → Nat} {x : α} {Q : Exit → List (Nat × Value) → List Asrt → Prop} {id : Nat} (h : Q (.exit id) L M) : loopQ F G I m x Q (.exit id) L M := h
theorem loopQ_r {α : Type} {F : α → List (Nat × Value)} {G : α → List Asrt} {I : α → Prop} {m : α → Nat} {x : α} {Q : Exit → List (Nat × Value) → List Asrt → Prop} (h : Q .ret L M) : loopQ F G I m x Q .ret L M := h

theorem T.loop {α : Type} {c : Code} {Q : Exit → List (Nat × Value) → List Asrt → Prop} (F : α → List (Nat × Value)) (G : α → List Asrt) (I : α → Prop) (m : α → Nat) (x0 : α)
    (hL : Sub (F x0) L) (hM : (G x0).Sublist M) (h0 : I x0) (h : ∀ x, I x → T P n w0 R c (loopQ F G I m x Q) (F x) (G x)) : T P n w0 R (.loop c) Q L M := by
  refine .mk fun a w hk hp => ?_
  intro b kk cs
  have key : ∀ k x a w, m x = k → I x → Kn n (F x) a → Hp w0 R (G x) w →
      ∃ e a' w', post n w0 R Q e a' w' ∧ Arrives P (lone (b.at a (.code c :: .inLoop c :: kk)) cs w) b kk cs e a' w' := by
    intro k
    induction k using Nat.strongRecOn with
    | _ k ih =>
      intro x a w hm hI hk hp
      obtain ⟨e, a1, w1, ⟨L1, M1, hk1, hp1, hq⟩, harr⟩ := (h x hI).run a w hk hp b (.inLoop c :: kk) cs
      cases e with
      | normal =>
        obtain ⟨y, hs1, hs2, hIy, hlt⟩ := hq
        obtain ⟨e2, a2, w2, hq2, harr2⟩ := ih (m y) (hm ▸ hlt) y a1 w1 rfl hIy (hk1.sub hs1) (hp1.weaken hs2)
        exact ⟨e2, a2, w2, hq2, .of_steps (Steps.trans harr (.one step_inLoop)) harr2⟩
      | exit id => exact ⟨_, a1, w1, ⟨L1, M1, hk1, hp1, hq⟩, .pass (x := .inLoop c) rfl (fun _ _ => .inl (by simp)) harr⟩
      | goto l => exact ⟨_, a1, w1, ⟨L1, M1, hk1, hp1, hq⟩, .pass (x := .inLoop c) rfl (fun _ _ => .inl (by simp)) harr⟩
      | ret => exact ⟨_, a1, w1, ⟨L1, M1, hk1, hp1, hq⟩, .pass (x := .inLoop c) rfl (fun _ _ => .inl (by simp)) harr⟩
      | panic ch => exact ⟨_, a1, w1, ⟨L1, M1, hk1, hp1, hq⟩, .pass (x := .inLoop c) rfl (fun _ _ => .inl (by simp)) harr⟩
      | outgrown => exact ⟨_, a1, w1, ⟨L1, M1, hk1, hp1, hq⟩, .pass (x := .inLoop c) rfl (fun _ _ => .inl (by simp)) harr⟩
  obtain ⟨e, a', w', hq, harr⟩ := key _ x0 a w rfl h0 (hk.sub hL) (hp.weaken hM)
  exact ⟨e, a', w', hq, .of_steps (.one step_loop) harr⟩
end
end Go.Proofs.Ytdbpnolpgkcjiaa
