/- What an argument's reading gives to my walks, with the bound of the form's own reach: of every slice within, too. -/
import Derived.Test.YtdbpnolpgkcjiaaRead
import Derived.SizedLaws
namespace Go.Proofs.Ytdbpnolpgkcjiaa
open Go.ChangeShapes Go.WideShapes Go.ChangeAt Go.RowKit Go.Deep

/-- At least so many bytes takes an element of a shape. -/
def bz : Sh → Nat
  | .sl _ => 24
  | _ => 1
/-- Cells that read as a shape says; no slice is longer than the form's reach. -/
def Iy (w : World) : Sh → List Value → Prop
  | .int k, cs => ∃ n, cs = [.int k n] ∧ (Lit.int k n).wf = true
  | .bool, cs => ∃ b, cs = [.bool b]
  | .str, cs => ∃ s, cs = [.string s] ∧ s.size ≤ 9223372036854775807
  | .sl e, cs => ∃ (A : Option Addr) (len cap : Nat) (xs : List Value), cs = [.slice A len cap] ∧ len ≤ cap ∧ cap ≤ maxLen ∧ len * bz e ≤ 140737488355328 ∧ Rd w A len e.n xs ∧ ∀ i, i < len → Iy w e ((xs.drop (i * e.n)).take e.n)
  | .arr n e, cs => cs.length = n * e.n ∧ ∀ i, i < n → Iy w e ((cs.drop (i * e.n)).take e.n)
  | .unit, cs => cs = []
  | .pair a b, cs => Iy w a (cs.take a.n) ∧ Iy w b (cs.drop a.n)

/-- Is a type of a shape? inr: the fields of a struct from one on, and their place. -/
def ckY (P : Program) : Sh → TypeId ⊕ (List Field × Nat) → Bool
  | .int k, .inl t => match P.underlying t with | some (.int k') => decide (k' = k) | _ => false
  | .bool, .inl t => match P.underlying t with | some .bool => true | _ => false
  | .str, .inl t => match P.underlying t with | some .string => true | _ => false
  | .sl e, .inl t => match P.underlying t with | some (.slice u) => decide (P.cellsOf u = e.n) && decide (0 < e.n) && decide (bz e ≤ P.bytesOf u) && ckY P e (.inl u) | _ => false
  | .arr n e, .inl t => match P.underlying t with | some (.array m u) => decide (m = n) && decide (P.cellsOf u = e.n) && decide (P.cellsOf t = n * e.n) && ckY P e (.inl u) | _ => false
  | .unit, .inr (fs, _) => fs.isEmpty
  | .pair a b, .inr (f :: fs, off) => decide (f.offset = off) && decide (P.cellsOf f.type = a.n) && ckY P a (.inl f.type) && ckY P b (.inr (fs, off + a.n))
  | .pair a b, .inl t => match P.underlying t with
    | some (.struct fs) => match fs.toList with
      | f :: fs => decide (P.cellsOf t = a.n + b.n) && decide (f.offset = 0) && decide (P.cellsOf f.type = a.n) && ckY P a (.inl f.type) && ckY P b (.inr (fs, a.n))
      | [] => false
    | _ => false
  | _, _ => false

section
variable {H : Type} {enc : TypeId × Value → H} {P : Program} {w : World} {held : Bool}

theorem wAll_memY {e : TypeId} : ∀ {l : List (DataW H)} {d : DataW H} {k : Nat}, d ∈ l → k ∈ d.weights P e → k ∈ DataW.weightsAll P e l
  | a :: l, d, k, hd, hk => by
    simp only [DataW.weightsAll, List.mem_append]
    rcases List.mem_cons.1 hd with rfl | hd
    · exact .inl hk
    · exact .inr (wAll_memY hd hk)

theorem isy_of : ∀ (sh : Sh) (fuel : Nat) (s : TypeId ⊕ (List Field × Nat)) (cs : List Value), ckY P sh s = true →
    (match s with
      | .inl t => ∃ x, DataW.trod enc P w 0 (fun _ => true) held fuel t cs = some x ∧ ∀ k ∈ x.1.weights P t, k ≤ reachBytes
      | .inr (fs, off) => ∃ all : List Value, cs = all.drop off ∧ all.length = off + sh.n ∧ ∀ f ∈ fs, ∃ x, DataW.trod enc P w 0 (fun _ => true) held fuel f.type ((all.drop f.offset).take (P.cellsOf f.type)) = some x ∧ ∀ k ∈ x.1.weights P f.type, k ≤ reachBytes) →
    Iy w sh cs := by
  intro sh
  induction sh with
  | int k =>
    intro fuel s cs hc h
    cases s with
    | inr p => simp [ckY] at hc
    | inl t =>
      obtain ⟨x, hx, hz⟩ := h
      cases fuel with
      | zero => simp [DataW.trod] at hx
      | succ fuel =>
      simp only [ckY] at hc
      split at hc
      · rename_i k' hu
        simp only [decide_eq_true_eq] at hc
        subst hc
        unfold DataW.trod at hx
        rw [hu] at hx
        clear hz
        split at hx <;> simp_all
        exact ⟨_, rfl, hx.1.2⟩
      · cases hc
  | bool =>
    intro fuel s cs hc h
    cases s with
    | inr p => simp [ckY] at hc
    | inl t =>
      obtain ⟨x, hx, hz⟩ := h
      cases fuel with
      | zero => simp [DataW.trod] at hx
      | succ fuel =>
      simp only [ckY] at hc
      split at hc
      · rename_i hu
        unfold DataW.trod at hx
        rw [hu] at hx
        clear hz
        split at hx <;> simp_all [Iy]
      · cases hc
  | str =>
    intro fuel s cs hc h
    cases s with
    | inr p => simp [ckY] at hc
    | inl t =>
      obtain ⟨x, hx, hz⟩ := h
      cases fuel with
      | zero => simp [DataW.trod] at hx
      | succ fuel =>
      simp only [ckY] at hc
      split at hc
      · rename_i hu
        unfold DataW.trod at hx
        rw [hu] at hx
        clear hz
        split at hx <;> simp_all
        exact ⟨_, rfl, by have := hx.1; unfold maxLen at this; omega⟩
      · cases hc
  | sl e ih =>
    intro fuel s cs hc h
    cases s with
    | inr p => simp [ckY] at hc
    | inl t =>
      obtain ⟨x, hx, hz⟩ := h
      simp only [ckY] at hc
      split at hc
      · rename_i u hu
        simp only [Bool.and_eq_true, decide_eq_true_eq] at hc
        rcases open_slice hu hx with ⟨rfl, _⟩ | ⟨a, len, cap, m, n, D, Pl, rfl, _, hl, hm, hmm, rfl, hi⟩
        · exact ⟨none, 0, 0, [], rfl, Nat.le_refl _, Nat.zero_le _, by rw [Nat.zero_mul]; exact Nat.zero_le _, Rd.nil, fun i hi => by omega⟩
        · simp only [if_true] at hmm
          subst hmm
          have hz2 : ∀ i, i < len → ∀ k ∈ (D i).weights P u, k ≤ reachBytes := fun i hil k hk => hz k (by
            simp only [DataW.weights, hu, List.mem_cons, List.mem_append]
            exact .inr (.inl (wAll_memY (List.mem_map.2 ⟨i, List.mem_range.2 hil, rfl⟩) hk)))
          have hlz : len * bz e ≤ 140737488355328 := by
            have h1 := hz _ (by simp only [DataW.weights, hu]; exact .head _)
            simp only [List.length_map, List.length_range] at h1
            have h2 : len * bz e ≤ (len + (m - len)) * P.bytesOf u := Nat.mul_le_mul (by omega) hc.1.2
            have h3 : reachBytes ≤ 140737488355328 := by decide
            omega
          have hrow : ∀ i, i < len → ∃ cs' : List Value, cs'.length = e.n ∧ (∀ j, j < e.n → w.cell? (a.add (i * e.n + j)) = cs'[j]?) ∧ ∃ x, DataW.trod enc P w 0 (fun _ => true) held n u cs' = some x ∧ ∀ k ∈ x.1.weights P u, k ≤ reachBytes := by
            intro i hil
            obtain ⟨cs', hcs, ht⟩ := hi i (by omega)
            rw [hc.1.1.1] at hcs
            obtain ⟨_, hcl, hat⟩ := World.cells?_some hcs
            refine ⟨cs', hcl, fun j hj => ?_, _, ht, hz2 i hil⟩
            rw [← add_add', hat j hj, List.getElem?_eq_getElem (by omega)]
          obtain ⟨xs, hxl, hxc⟩ := rows_list w a e.n len fun i hil => by obtain ⟨cs', h1, h2, _⟩ := hrow i hil; exact ⟨cs', h1, h2⟩
          refine ⟨some a, len, m, xs, rfl, hl, hm, hlz, ⟨hxl, fun _ => rfl, fun hpos => ?_, fun j v hj => ?_⟩, fun i hil => ?_⟩
          · have h0 := hxc 0 (Nat.mul_pos hpos hc.1.1.2)
            exact cells_lt ⟨_, h0.trans (List.getElem?_eq_getElem (by rw [hxl]; exact Nat.mul_pos hpos hc.1.1.2))⟩
          · have hjl := (List.getElem?_eq_some_iff.1 hj).1
            show w.cell? (a.add j) = some v
            rw [hxc j (by omega)]; exact hj
          · obtain ⟨cs', h1, h2, x', h3, h4⟩ := hrow i hil
            have e1 : (xs.drop (i * e.n)).take e.n = cs' := by
              have hle : i * e.n + e.n ≤ len * e.n := by
                have : (i + 1) * e.n ≤ len * e.n := Nat.mul_le_mul_right _ hil
                rwa [Nat.add_mul, Nat.one_mul] at this
              apply List.ext_getElem?
              intro j
              by_cases hj : j < e.n
              · rw [List.getElem?_take_of_lt hj, List.getElem?_drop, ← hxc _ (by omega), ← h2 j hj]
              · rw [List.getElem?_eq_none (by rw [List.length_take]; omega), List.getElem?_eq_none (by omega)]
            rw [e1]
            exact ih n (.inl u) cs' hc.2 ⟨x', h3, h4⟩
      · cases hc
  | arr n e ih =>
    intro fuel s cs hc h
    cases s with
    | inr p => simp [ckY] at hc
    | inl t =>
      obtain ⟨x, hx, hz⟩ := h
      simp only [ckY] at hc
      split at hc
      · rename_i m u hu
        simp only [Bool.and_eq_true, decide_eq_true_eq] at hc
        obtain ⟨⟨⟨rfl, h1⟩, h2⟩, h3⟩ := hc
        obtain ⟨xs, f, _, rfl, hlen, hxl, hi⟩ := DataW.trod_array hu hx
        refine ⟨hlen.trans h2, fun i him => ?_⟩
        have := hi i him
        rw [h1, List.getElem?_eq_getElem (by omega)] at this
        exact ih f (.inl u) _ h3 ⟨_, this, fun k hk => hz k (by
          simp only [DataW.weights, hu]
          exact wAll_memY (List.mem_map.2 ⟨_, List.getElem_mem _, rfl⟩) hk)⟩
      · cases hc
  | unit =>
    intro fuel s cs hc h
    cases s with
    | inl t => simp [ckY] at hc
    | inr p =>
      obtain ⟨fs, off⟩ := p
      simp only [ckY, List.isEmpty_iff] at hc
      obtain ⟨all, rfl, h0, _⟩ := h
      exact List.drop_of_length_le (by rw [h0]; exact Nat.le_refl _)
  | pair a b iha ihb =>
    intro fuel s cs hc h
    cases s with
    | inl t =>
      obtain ⟨x, hx, hz⟩ := h
      simp only [ckY] at hc
      split at hc
      · rename_i fs hu
        split at hc
        · rename_i f fr hfs
          simp only [Bool.and_eq_true, decide_eq_true_eq] at hc
          obtain ⟨⟨⟨⟨h1, h2⟩, h3⟩, h4⟩, h5⟩ := hc
          obtain ⟨ys, n', _, rfl, hlen, hyl, hf⟩ := DataW.trod_struct hu hx
          have hat : ∀ f' ∈ fs.toList, ∃ x, DataW.trod enc P w 0 (fun _ => true) held n' f'.type ((cs.drop f'.offset).take (P.cellsOf f'.type)) = some x ∧ ∀ k ∈ x.1.weights P f'.type, k ≤ reachBytes := by
            intro f' hf'
            obtain ⟨j, hj, he⟩ := List.getElem_of_mem hf'
            have hj' : fs[j]? = some f' := by
              rw [← Array.getElem?_toList, List.getElem?_eq_getElem hj, he]
            have := hf j f' hj'
            have hjy : j < ys.length := by rw [hyl]; simpa using hj
            refine ⟨_, this.trans (List.getElem?_eq_getElem hjy), fun k hk => hz k ?_⟩
            simp only [DataW.weights, hu]
            refine DataW.weights_mem_each (j := j) (t := f'.type) (d := (ys[j]).1) ?_ ?_ k hk
            · rw [List.getElem?_map, List.getElem?_eq_getElem hj, he]; rfl
            · rw [List.getElem?_map, List.getElem?_eq_getElem hjy]; rfl
          rw [hfs] at hat
          refine ⟨?_, ?_⟩
          · have := hat f (by simp)
            rw [h2, h3, List.drop_zero] at this
            exact iha n' (.inl f.type) _ h4 this
          · refine ihb n' (.inr (fr, a.n)) _ h5 ⟨cs, rfl, hlen.trans h1, fun f' hf' => hat f' (by simp [hf'])⟩
        · cases hc
      · cases hc
    | inr p =>
      obtain ⟨fs, off⟩ := p
      obtain ⟨all, rfl, h0, hat⟩ := h
      cases fs with
      | nil => simp [ckY] at hc
      | cons f fr =>
        simp only [ckY, Bool.and_eq_true, decide_eq_true_eq] at hc
        obtain ⟨⟨⟨h2, h3⟩, h4⟩, h5⟩ := hc
        refine ⟨?_, ?_⟩
        · have := hat f (by simp)
          rw [h2, h3] at this
          exact iha fuel (.inl f.type) _ h4 this
        · rw [List.drop_drop]
          refine ihb fuel (.inr (fr, off + a.n)) _ h5 ⟨all, rfl, by rw [h0]; simp only [Sh.n]; omega, fun f' hf' => hat f' (by simp [hf'])⟩


theorem isy_arg {t : TypeId} {v : Value} {d : DataW H} {ps : List MemPlace} {sh : Sh} {ts : List TypeId} {ds : List (DataW H)} (j : Nat) (hz : (DataW.weightsEach P ts ds).all (· ≤ reachBytes) = true) (ht : ts[j]? = some t) (hd : ds[j]? = some d)
    (hc : ckY P sh (.inl t) = true) (h : DataW.Trod enc P w 0 (fun _ => true) held t v d ps) : Iy w sh v.cells.toList := by
  obtain ⟨fuel, hf⟩ := h
  refine isy_of sh fuel (.inl t) _ hc ⟨_, hf, fun k hk => ?_⟩
  have := List.all_eq_true.1 hz _ (DataW.weights_mem_each ht hd k hk)
  simpa using this

end
end Go.Proofs.Ytdbpnolpgkcjiaa
