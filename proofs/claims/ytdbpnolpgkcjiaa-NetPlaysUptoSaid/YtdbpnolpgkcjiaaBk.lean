/- What an argument's reading gives to my walks where what is read is of bulk at most 1048576: no slice within is longer than that. -/
import Derived.Test.YtdbpnolpgkcjiaaReadZ
import Derived.Test.YtdbpnolpgkcjiaaRows
namespace Go.Proofs.Ytdbpnolpgkcjiaa
open Go.ChangeShapes Go.WideShapes Go.ChangeAt Go.RowKit Go.Deep

/-- Cells that read as a shape says; no slice is longer than the bulk. -/
def Ib (w : World) : Sh → List Value → Prop
  | .int k, cs => ∃ n, cs = [.int k n] ∧ (Lit.int k n).wf = true
  | .bool, cs => ∃ b, cs = [.bool b]
  | .str, cs => ∃ s, cs = [.string s] ∧ s.size ≤ 9223372036854775807
  | .sl e, cs => ∃ (A : Option Addr) (len cap : Nat) (xs : List Value), cs = [.slice A len cap] ∧ len ≤ cap ∧ cap ≤ maxLen ∧ len ≤ 1048576 ∧ Rd w A len e.n xs ∧ ∀ i, i < len → Ib w e ((xs.drop (i * e.n)).take e.n)
  | .arr n e, cs => cs.length = n * e.n ∧ ∀ i, i < n → Ib w e ((cs.drop (i * e.n)).take e.n)
  | .unit, cs => cs = []
  | .pair a b, cs => Ib w a (cs.take a.n) ∧ Ib w b (cs.drop a.n)

section
variable {H : Type} {enc : TypeId × Value → H} {P : Program} {w : World} {held : Bool}

theorem bulk_pos (d : DataW H) : 1 ≤ Rows.uptoBulk d := by
  cases d with
  | lit l => cases l <;> simp [Rows.uptoBulk]
  | nil => simp [Rows.uptoBulk]
  | ptr d => simp [Rows.uptoBulk]
  | slice elems spare => simp [Rows.uptoBulk]
  | agg parts => simp [Rows.uptoBulk]
  | iface t d => simp [Rows.uptoBulk]
  | map entries => simp [Rows.uptoBulk]
  | held h => simp [Rows.uptoBulk]
theorem bulk_mem : ∀ {l : List (DataW H)} {d : DataW H}, d ∈ l → Rows.uptoBulk d ≤ Rows.uptoBulkAll l
  | a :: l, d, hd => by
    simp only [Rows.uptoBulkAll]
    rcases List.mem_cons.1 hd with rfl | hd
    · omega
    · have := bulk_mem hd; omega
theorem bulk_len : ∀ (l : List (DataW H)), l.length ≤ Rows.uptoBulkAll l
  | [] => Nat.zero_le _
  | a :: l => by
    have h1 := bulk_pos a
    have h2 := bulk_len l
    simp only [Rows.uptoBulkAll, List.length_cons]
    omega

theorem isb_of : ∀ (sh : Sh) (fuel : Nat) (s : TypeId ⊕ (List Field × Nat)) (cs : List Value), ckZ P sh s = true →
    (match s with
      | .inl t => ∃ x, DataW.trod enc P w 0 (fun _ => true) held fuel t cs = some x ∧ Rows.uptoBulk x.1 ≤ 1048576
      | .inr (fs, off) => ∃ all : List Value, cs = all.drop off ∧ all.length = off + sh.n ∧ ∀ f ∈ fs, ∃ x, DataW.trod enc P w 0 (fun _ => true) held fuel f.type ((all.drop f.offset).take (P.cellsOf f.type)) = some x ∧ Rows.uptoBulk x.1 ≤ 1048576) →
    Ib w sh cs := by
  intro sh
  induction sh with
  | int k =>
    intro fuel s cs hc h
    cases s with
    | inr p => simp [ckZ] at hc
    | inl t =>
      obtain ⟨x, hx, hz⟩ := h
      cases fuel with
      | zero => simp [DataW.trod] at hx
      | succ fuel =>
      simp only [ckZ] at hc
      split at hc
      · rename_i k' hu
        simp only [decide_eq_true_eq] at hc
        subst hc
        unfold DataW.trod at hx
        rw [hu] at hx
        clear hz
        split at hx <;> simp_all
        exact ⟨_, rfl, hx.1.2⟩
      · cases hc
  | bool =>
    intro fuel s cs hc h
    cases s with
    | inr p => simp [ckZ] at hc
    | inl t =>
      obtain ⟨x, hx, hz⟩ := h
      cases fuel with
      | zero => simp [DataW.trod] at hx
      | succ fuel =>
      simp only [ckZ] at hc
      split at hc
      · rename_i hu
        unfold DataW.trod at hx
        rw [hu] at hx
        clear hz
        split at hx <;> simp_all [Ib]
      · cases hc
  | str =>
    intro fuel s cs hc h
    cases s with
    | inr p => simp [ckZ] at hc
    | inl t =>
      obtain ⟨x, hx, hz⟩ := h
      cases fuel with
      | zero => simp [DataW.trod] at hx
      | succ fuel =>
      simp only [ckZ] at hc
      split at hc
      · rename_i hu
        unfold DataW.trod at hx
        rw [hu] at hx
        clear hz
        split at hx <;> simp_all
        exact ⟨_, rfl, by have := hx.1; unfold maxLen at this; omega⟩
      · cases hc
  | sl e ih =>
    intro fuel s cs hc h
    cases s with
    | inr p => simp [ckZ] at hc
    | inl t =>
      obtain ⟨x, hx, hz⟩ := h
      simp only [ckZ] at hc
      split at hc
      · rename_i u hu
        simp only [Bool.and_eq_true, decide_eq_true_eq] at hc
        rcases open_slice hu hx with ⟨rfl, _⟩ | ⟨a, len, cap, m, n, D, Pl, rfl, _, hl, hm, hmm, rfl, hi⟩
        · exact ⟨none, 0, 0, [], rfl, Nat.le_refl _, Nat.zero_le _, Nat.zero_le _, Rd.nil, fun i hi => by omega⟩
        · simp only [if_true] at hmm
          subst hmm
          simp only [Rows.uptoBulk] at hz
          have hz2 : ∀ i, i < len → Rows.uptoBulk (D i) ≤ 1048576 := fun i hil => by
            have := bulk_mem (l := (List.range len).map D) (List.mem_map.2 ⟨i, List.mem_range.2 hil, rfl⟩)
            omega
          have hlz : len ≤ 1048576 := by
            have := bulk_len ((List.range len).map D)
            rw [List.length_map, List.length_range] at this
            omega
          have hrow : ∀ i, i < len → ∃ cs' : List Value, cs'.length = e.n ∧ (∀ j, j < e.n → w.cell? (a.add (i * e.n + j)) = cs'[j]?) ∧ ∃ x, DataW.trod enc P w 0 (fun _ => true) held n u cs' = some x ∧ Rows.uptoBulk x.1 ≤ 1048576 := by
            intro i hil
            obtain ⟨cs', hcs, ht⟩ := hi i (by omega)
            rw [hc.1.1.1] at hcs
            obtain ⟨_, hcl, hat⟩ := World.cells?_some hcs
            refine ⟨cs', hcl, fun j hj => ?_, _, ht, hz2 i hil⟩
            rw [← add_add', hat j hj, List.getElem?_eq_getElem (by omega)]
          obtain ⟨xs, hxl, hxc⟩ := rows_list w a e.n len fun i hil => by obtain ⟨cs', h1, h2, _⟩ := hrow i hil; exact ⟨cs', h1, h2⟩
          refine ⟨some a, len, m, xs, rfl, hl, hm, hlz, ⟨hxl, fun _ => rfl, fun hpos => ?_, fun j v hj => ?_⟩, fun i hil => ?_⟩
          · have h0 := hxc 0 (Nat.mul_pos hpos hc.1.1.2)
            exact cells_lt ⟨_, h0.trans (List.getElem?_eq_getElem (by rw [hxl]; exact Nat.mul_pos hpos hc.1.1.2))⟩
          · have hjl := (List.getElem?_eq_some_iff.1 hj).1
            show w.cell? (a.add j) = some v
            rw [hxc j (by omega)]; exact hj
          · obtain ⟨cs', h1, h2, x', h3, h4⟩ := hrow i hil
            have e1 : (xs.drop (i * e.n)).take e.n = cs' := by
              have hle : i * e.n + e.n ≤ len * e.n := by
                have : (i + 1) * e.n ≤ len * e.n := Nat.mul_le_mul_right _ hil
                rwa [Nat.add_mul, Nat.one_mul] at this
              apply List.ext_getElem?
              intro j
              by_cases hj : j < e.n
              · rw [List.getElem?_take_of_lt hj, List.getElem?_drop, ← hxc _ (by omega), ← h2 j hj]
              · rw [List.getElem?_eq_none (by rw [List.length_take]; omega), List.getElem?_eq_none (by omega)]
            rw [e1]
            exact ih n (.inl u) cs' hc.2 ⟨x', h3, h4⟩
      · cases hc
  | arr n e ih =>
    intro fuel s cs hc h
    cases s with
    | inr p => simp [ckZ] at hc
    | inl t =>
      obtain ⟨x, hx, hz⟩ := h
      simp only [ckZ] at hc
      split at hc
      · rename_i m u hu
        simp only [Bool.and_eq_true, decide_eq_true_eq] at hc
        obtain ⟨⟨⟨rfl, h1⟩, h2⟩, h3⟩ := hc
        obtain ⟨xs, f, _, rfl, hlen, hxl, hi⟩ := DataW.trod_array hu hx
        refine ⟨hlen.trans h2, fun i him => ?_⟩
        have := hi i him
        rw [h1, List.getElem?_eq_getElem (by omega)] at this
        refine ih f (.inl u) _ h3 ⟨_, this, ?_⟩
        simp only [Rows.uptoBulk] at hz
        have hix : i < xs.length := by omega
        have := bulk_mem (l := xs.map (·.1)) (List.mem_map.2 ⟨xs[i]'hix, List.getElem_mem hix, rfl⟩)
        omega
      · cases hc
  | unit =>
    intro fuel s cs hc h
    cases s with
    | inl t => simp [ckZ] at hc
    | inr p =>
      obtain ⟨fs, off⟩ := p
      simp only [ckZ, List.isEmpty_iff] at hc
      obtain ⟨all, rfl, h0, _⟩ := h
      exact List.drop_of_length_le (by rw [h0]; exact Nat.le_refl _)
  | pair a b iha ihb =>
    intro fuel s cs hc h
    cases s with
    | inl t =>
      obtain ⟨x, hx, hz⟩ := h
      simp only [ckZ] at hc
      split at hc
      · rename_i fs hu
        split at hc
        · rename_i f fr hfs
          simp only [Bool.and_eq_true, decide_eq_true_eq] at hc
          obtain ⟨⟨⟨⟨h1, h2⟩, h3⟩, h4⟩, h5⟩ := hc
          obtain ⟨ys, n', _, rfl, hlen, hyl, hf⟩ := DataW.trod_struct hu hx
          have hat : ∀ f' ∈ fs.toList, ∃ x, DataW.trod enc P w 0 (fun _ => true) held n' f'.type ((cs.drop f'.offset).take (P.cellsOf f'.type)) = some x ∧ Rows.uptoBulk x.1 ≤ 1048576 := by
            intro f' hf'
            obtain ⟨j, hj, he⟩ := List.getElem_of_mem hf'
            have hj' : fs[j]? = some f' := by
              rw [← Array.getElem?_toList, List.getElem?_eq_getElem hj, he]
            have := hf j f' hj'
            have hjy : j < ys.length := by rw [hyl]; simpa using hj
            refine ⟨_, this.trans (List.getElem?_eq_getElem hjy), ?_⟩
            simp only [Rows.uptoBulk] at hz
            have := bulk_mem (l := ys.map (·.1)) (List.mem_map.2 ⟨ys[j], List.getElem_mem hjy, rfl⟩)
            omega
          rw [hfs] at hat
          refine ⟨?_, ?_⟩
          · have := hat f (by simp)
            rw [h2, h3, List.drop_zero] at this
            exact iha n' (.inl f.type) _ h4 this
          · refine ihb n' (.inr (fr, a.n)) _ h5 ⟨cs, rfl, hlen.trans h1, fun f' hf' => hat f' (by simp [hf'])⟩
        · cases hc
      · cases hc
    | inr p =>
      obtain ⟨fs, off⟩ := p
      obtain ⟨all, rfl, h0, hat⟩ := h
      cases fs with
      | nil => simp [ckZ] at hc
      | cons f fr =>
        simp only [ckZ, Bool.and_eq_true, decide_eq_true_eq] at hc
        obtain ⟨⟨⟨h2, h3⟩, h4⟩, h5⟩ := hc
        refine ⟨?_, ?_⟩
        · have := hat f (by simp)
          rw [h2, h3] at this
          exact iha fuel (.inl f.type) _ h4 this
        · rw [List.drop_drop]
          refine ihb fuel (.inr (fr, off + a.n)) _ h5 ⟨all, rfl, by rw [h0]; simp only [Sh.n]; omega, fun f' hf' => hat f' (by simp [hf'])⟩


theorem isb_arg {t : TypeId} {v : Value} {d : DataW H} {ps : List MemPlace} {sh : Sh} {ds : List (DataW H)} (hk : Rows.uptoSmall H ds = true) (hd : d ∈ ds)
    (hc : ckZ P sh (.inl t) = true) (h : DataW.Trod enc P w 0 (fun _ => true) held t v d ps) : Ib w sh v.cells.toList := by
  obtain ⟨fuel, hf⟩ := h
  refine isb_of sh fuel (.inl t) _ hc ⟨_, hf, ?_⟩
  have h1 : Rows.uptoBulkAll ds ≤ 1048576 := of_decide_eq_true hk
  exact Nat.le_trans (bulk_mem hd) h1
end
end Go.Proofs.Ytdbpnolpgkcjiaa
