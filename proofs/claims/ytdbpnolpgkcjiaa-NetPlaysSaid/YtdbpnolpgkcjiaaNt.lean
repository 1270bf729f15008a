/- Nets: packets, how they lie in memory; a channel as an owned thing; the plain law. -/
import Derived.Test.YtdbpnolpgkcjiaaT1
namespace Go.Proofs.Ytdbpnolpgkcjiaa
open Go.RowKit Go.Conc

abbrev Hd := Option Addr × Nat
/-- A packet: its bytes, where they lie. -/
abbrev Pk := List UInt8 × Hd
def pV (p : Pk) : Value := .slice p.2.1 p.1.length p.2.2
def pE (p : Pk) : List Value := [pV p]
theorem pE_len (p : Pk) : (pE p).length = 1 := rfl
theorem pE_one (p : Pk) : ∀ u ∈ pE p, u.oneCell' = true := List.all_eq_true.1 (show (pE p).all (·.oneCell') = true from rfl)
theorem pE_snoc (l : List Pk) (x : Pk) : (l ++ [x]).flatMap pE = l.flatMap pE ++ [pV x] := by simp [pE]
def bP (p : Pk) : Asrt := .row 5 1 (.slice p.2.1 p.1.length p.2.2) p.1.length (p.1.flatMap eU)
def In (w : World) (p : Pk) : Prop := Rd w p.2.1 p.1.length 1 (p.1.flatMap eU)
def Ins (w : World) (ps : List Pk) : Prop := ∀ p ∈ ps, In w p
def rP (l : List Pk) (z : Hd) : Asrt := .row 38 1 (.slice z.1 l.length z.2) l.length (l.flatMap pE)
def rB (l : List UInt8) (z : Hd) : Asrt := .row 5 1 (.slice z.1 l.length z.2) l.length (l.flatMap eU)
/-- An act. -/
structure Ac where
  kind : Int
  n : Int
  l : List Pk
  h : Hd
def aE (a : Ac) : List Value := [.int .i64 a.kind, .int .i64 a.n, .slice a.h.1 a.l.length a.h.2]
theorem aE_len (a : Ac) : (aE a).length = 3 := rfl
def ArgIn (w : World) (a : Ac) : Prop := Rd w a.h.1 a.l.length 1 (a.l.flatMap pE) ∧ Ins w a.l

/-- A channel of packets. -/
def chP (c : Nat) (l : List Pk) (w : World) : Prop := ∃ s r, w.heap[c]? = some (.chan 4096 (l.map pV).toArray false s r false)
def chA (c : Nat) (l : List Pk) : Asrt := .gen [c] (chP c l) (fun _ _ h ⟨s, r, h1⟩ => ⟨s, r, by rw [h c (by simp)]; exact h1⟩)
abbrev nO (b c : Nat) : Asrt := .blk b (.cells #[.chan (some c)] 36 (0, 0))
def nrC (v : Value) : Array Value := #[v]

section
variable {P : Program} {n : Nat} {w0 w : World} {R : List Nat} {L : List (Nat × Value)} {M : List Asrt} {t ty yt : TypeId} {x y : Operand}
theorem Hp.in_old (hp : Hp w0 [] M w) {p : Pk} (hr : In w0 p) : In w p := hp.rd hr fun _ => List.not_mem_nil
theorem Hp.ins_old (hp : Hp w0 [] M w) {ps : List Pk} (h : Ins w0 ps) : Ins w ps := fun p hp' => hp.in_old (h p hp')
theorem Hp.ins_bag (hp : Hp w0 R M w) {ps : List Pk} (hm : bag (ps.map bP) ∈ M) : Ins w ps := fun p h => hp.rdIn hm (List.mem_map.2 ⟨p, h, rfl⟩)
theorem Hp.in_row (hp : Hp w0 R M w) {p : Pk} (hm : bP p ∈ M) : In w p := hp.rowOf hm
theorem Hp.chOf (hp : Hp w0 R M w) {c : Nat} {l : List Pk} (hm : chA c l ∈ M) : chP c l w := (hp.own _ hm).1
theorem grownBy_setChan (w : World) (c cap : Nat) (buf : Array Value) (cl : Bool) (s r : Nat) (tm : Bool) : w.grownBy (w.setChan c cap buf cl s r tm) (some c) :=
  ⟨rfl, rfl, rfl, by simp [World.setChan], fun k _ hne => by
    simp only [World.setChan]
    rw [Array.getElem?_setIfInBounds_ne (fun e => hne (by rw [e]))]⟩
theorem Hp.turnChan (hp : Hp w0 R M w) {c i : Nat} {l l' : List Pk} (hi : M[i]? = some (chA c l)) (s r : Nat) : Hp w0 R (M.set i (chA c l')) (w.setChan c 4096 (l'.map pV).toArray false s r false) := by
  have hlt : c < w.heap.size := (hp.own _ (List.mem_of_getElem? hi)).2 c (by simp)
  refine hp.step hi (grownBy_setChan w c 4096 _ false s r false) (fun k hk => by cases hk; simp [chA, Asrt.foot]) (A' := chA c l') ⟨⟨s, r, heap_setChan w c 4096 _ false s r false hlt⟩, fun k hk => ?_⟩ (fun k hk => .inl hk) (by simp [chA, Asrt.foot])
  obtain rfl : k = c := by simpa using hk
  rw [size_setChan]; exact hlt
theorem Yl_len_chan {c : Nat} {l : List Pk} {d : ChanDir} {e : TypeId} (hx : evl L x = some (.chan (some c))) (ht : P.underlying t = some (.chan d e)) (hm : chA c l ∈ M) : Yl P n w0 R (.call { callee := .builtin .len, args := #[x], argTypes := #[t] }) ty L M (.int .i64 l.length) := .mk fun a w hk hp => by
  obtain ⟨s, r, h⟩ := hp.chOf hm
  have := run_len_chan (P := P) t ty ht h
  simp [execOp, hk.ev hx, resolve, invoke, builtin, this, goInt]
theorem run_equal_chan_nil (w : World) {t : TypeId} {d : ChanDir} {e : TypeId} (o : Option Nat) (ht : P.underlying t = some (.chan d e)) : (Op.equal t (.chan o) (.chan none)).run P w = .ok o.isNone w := by
  unfold Op.equal
  show (Op.equalIn 10000 t (.chan o) (.chan none)).run P w = _
  unfold Op.equalIn
  cases o <;> simp [run_underlying ht]
theorem Yl_eql_chan {o : Option Nat} {d : ChanDir} {e : TypeId} (hx : evl L x = some (.chan o)) (hy : evl L y = some (.chan none)) (ht : P.underlying t = some (.chan d e)) : Yl P n w0 R (.binOp .eql t x y yt) ty L M (.bool o.isNone) := .mk fun a w hk _ => by
  have h1 : (Go.binOp .eql t (.chan o) (.chan none)).run P w = .ok (.bool o.isNone) w := by
    simp only [Go.binOp]
    simp [run_equal_chan_nil w o ht]
  simp [execOp, hk.ev hx, hk.ev hy, eqGuard, h1]
theorem Ef_makeChan {d : Nat} {K : List (Nat × Value) → List Asrt → Prop} {cd : ChanDir} {e : TypeId} {k : Nat} (hd : Nat.blt d n = true) (hx : evl L x = some (.int .i64 4096)) (ht : P.underlying t = some (.chan cd e)) (hs : (P.info? e).map (·.bytes) = some k) (hk : k ≤ 1000) (h : ∀ c, K ((d, .chan (some c)) :: L) (chA c [] :: M)) : Ef P n w0 R (some d) (.makeChan t x) ty L M K :=
  Ef_of hd fun a w hkn hp => by
    obtain ⟨i, hi, hb⟩ := Option.map_eq_some_iff.1 hs
    have hr := run_makeChan (P := P) (w := w) ht hi .i64 4096 (by omega) (by rw [hb]; omega)
    have hp1 := hp.alloc (.chan 4096 #[] false 0 0 false)
    have hp2 := hp1.step (i := 0) rfl (grownBy_refl _ none) (fun k hk => by cases hk) (A' := chA w.heap.size []) ⟨⟨0, 0, heap_alloc_new w _⟩, fun k hk => by simp at hk; subst hk; simp⟩ (fun k hk => .inl hk) (by simp [chA, Asrt.foot])
    refine ⟨_, _, _, ?_, hp2, h w.heap.size⟩
    have hr2 : (Instr.makeChan t (.int .i64 4096)).run P w = .ok (.chan (some w.heap.size)) (w.alloc (.chan 4096 #[] false 0 0 false)) := by simpa using hr
    simp [execOp, hkn.ev hx, hr2]
/-- A call of a function value that turns some of what is owned. -/
theorem Ef_callVS {K : List (Nat × Value) → List Asrt → Prop} {f : FuncId} {s : Nat} {lb : Array Value} {args : Array Operand} {ats : Array TypeId} {vals : List Value} {d : Nat} {S M' : List Asrt} {Rs : List Nat} {Res : Value → List Asrt → Prop} (mk : List Bool) (hd : Nat.blt d n = true) (hf : Env.get L s = some (.func (.func f) #[] lb)) (ha : evls L args.toList = some vals) (hen : Enters P f)
    (hS : sel mk M = S) (hM' : oth mk M = M') (hRs : S.flatMap Asrt.foot = Rs) (hc : ∀ w, Hp w0 R M w → Hp w Rs S w → Sp P f (vals ++ lb.toList) w Rs Res) (h : ∀ v N, Res v N → K ((d, v) :: L) (N ++ M')) : Ef P n w0 R (some d) (.call { callee := .value (.tmp s), args := args, argTypes := ats }) ty L M K := by
  refine .mk fun a w next Q hk hp hn => ?_
  subst hS hM' hRs
  refine upon_calls (vals := vals ++ lb.toList) ?_ (Calls.mono (hc w hp (hp.hand mk rfl)).run fun e w' ⟨v, N, he, hR, hp'⟩ => ⟨v, he, hn _ _ _ _ (hk.put v hd) ((hp.perm (sel_oth mk M)).moreS hp') (h v N hR)⟩)
  have h1 : args.map a.eval = vals.toArray := by apply Array.ext'; simpa using hk.evs ha
  have h2 : a.eval (.tmp s) = .func (.func f) #[] lb := hk.ev (x := .tmp s) hf
  simp [execOp, resolve, h1, h2, Deferred.ofValue, invoke, hen _ w]
/-- A callee that turns some of what is owned, and reads other memory. -/
theorem Ef_callW {K : List (Nat × Value) → List Asrt → Prop} {f : FuncId} {args : Array Operand} {ats : Array TypeId} {vals : List Value} {d : Nat} {S M' : List Asrt} {Rs : List Nat} {β : Type} {V : β → Value} {N0 : β → List Asrt} {φ : β → Prop} (mk : List Bool) (hd : Nat.blt d n = true) (ha : evls L args.toList = some vals) (hen : Enters P f)
    (hS : sel mk M = S) (hM' : oth mk M = M') (hRs : S.flatMap Asrt.foot = Rs) (hc : ∀ w, Hp w0 R M w → Hp w Rs S w → Sp P f vals w Rs (fun v N => ∃ z : β, φ z ∧ v = V z ∧ N = N0 z)) (h : ∀ z, φ z → K ((d, V z) :: L) (N0 z ++ M')) : Ef P n w0 R (some d) (.call { callee := .value (.func f), args := args, argTypes := ats }) ty L M K :=
  Ef_callS mk hd ha hen hS hM' hRs (fun w hp => hc w hp (by subst hRs; exact hp.hand mk hS)) fun v N ⟨z, h0, h1, h2⟩ => by subst h1 h2; exact h z h0
theorem Hp.notInR (h : Hp w0 R M w) {k : Nat} (hR : k ∉ R) (hk : k < w0.heap.size) : k ∉ M.flatMap Asrt.foot := fun hm => by
  rcases h.lo k hm with h1 | h1
  · exact hR h1
  · omega
theorem Hp.notInZ {M' : List Asrt} (h : Hp w0 R (M ++ M') w) {k : Nat} {A : Asrt} (hA : A ∈ M') (hk : k ∈ A.foot) : k ∉ M.flatMap Asrt.foot := fun hm => by
  have := h.nodup
  rw [List.flatMap_append, List.nodup_append] at this
  exact this.2.2 k hm k (List.mem_flatMap.2 ⟨A, hA, hk⟩) rfl
theorem Hp.apartS (hp : Hp w0 R M w) (mk : List Bool) {S M' : List Asrt} (hS : sel mk M = S) (hM' : oth mk M = M') {A : Asrt} (hA : A ∈ M') {k : Nat} (hk : k ∈ A.foot) : k ∉ S.flatMap Asrt.foot := by
  subst hS hM'
  exact (hp.perm (sel_oth mk M)).notInZ hA hk
theorem Hp.outS (hp : Hp w0 R M w) (mk : List Bool) {S : List Asrt} (hS : sel mk M = S) {k : Nat} (hk : k < w0.heap.size) (hR : k ∉ R) : k ∉ S.flatMap Asrt.foot := by
  subst hS
  intro hm
  refine hp.notInR hR hk ?_
  have h1 := (sel_oth mk M)
  obtain ⟨A, hA, hkA⟩ := List.mem_flatMap.1 hm
  exact List.mem_flatMap.2 ⟨A, h1.mem_iff.2 (List.mem_append_left _ hA), hkA⟩
theorem Yl_str_hp {e cap : Nat} {t' : TypeId} {A : Option Addr} {l : List UInt8} (hx : evl L x = some (.slice A l.length cap)) (hs : P.underlying t = some (.slice e)) (he : P.underlying e = some (.int .u8)) (hd : P.underlying t' = some .string)
    (hr : ∀ w, Hp w0 R M w → Rd w A l.length 1 (l.flatMap eU)) : Yl P n w0 R (.convert t t' x) ty L M (.string ⟨l.toArray⟩) := .mk fun a w hk hp => by
  cases A with
  | none =>
    have h0 : l.length = 0 := by
      rcases Nat.eq_zero_or_pos l.length with h | h
      · exact h
      · have := (hr w hp).some_ h; cases this
    have hn : l = [] := List.eq_nil_of_length_eq_zero h0
    subst hn
    have := run_convert_bytes_string (P := P) w t t' e none 0 cap hs he hd
    simp [execOp, hk.ev hx, this, Conv.bytesToString]
    rfl
  | some ad =>
    have := run_convert_bytes_back (P := P) w t t' e ad cap l hs he hd fun j hj => (hr w hp).cell j _ (eU_get l j hj)
    simp [execOp, hk.ev hx, this]
theorem Sp.part {R : List Nat} {f : FuncId} {args : List Value} {w : World} {Res Res' : Value → List Asrt → Prop} (h : Sp P f args w R Res) (hr : ∀ v N, Res v N → ∃ N', Part N' N ∧ Res' v N') : Sp P f args w R Res' :=
  Sp.mem h fun v N h1 => let ⟨N', h2, h3⟩ := hr v N h1; ⟨N', fun _ hp => hp.ofPart h2, h3⟩
end
theorem str_iff {l m : List UInt8} : ((⟨l.toArray⟩ : ByteArray) = ⟨m.toArray⟩) ↔ l = m := by
  constructor
  · intro h
    have := congrArg (fun b : ByteArray => b.data.toList) h
    simpa using this
  · rintro rfl; rfl
theorem bP_foot {w : World} {p : Pk} (h : In w p) (h0 : 0 < p.1.length) : (adr p.2.1).block ∈ (bP p).foot := by
  show _ ∈ (Value.ownBlock (.slice p.2.1 _ _)).toList
  rw [h.some_ h0]
  simp [Value.ownBlock, adr]

/-! ### To let a packet wait, to take the first one -/
section
variable (b c : Nat) (w : World) (R : List Nat)
theorem put_c (l : List Pk) (p : Pk) (hp : Hp w R [nO b c, chA c l] w) (hl : l.length < 4096) : Sp Try.prog 22 [.pointer (some ⟨b, 0, none⟩), pV p] w R fun v N => v = .bool true ∧ N = [nO b c, chA c (l ++ [p])] := by
  obtain ⟨s, r, hc⟩ := hp.chOf (c := c) (l := l) (by (repeat (first | exact .head _ | apply List.Mem.tail)))
  refine .mk (Calls.mono (put_room b c _ s r w (hp.blkOf (by (repeat (first | exact .head _ | apply List.Mem.tail)))) hc (pV p) (by simpa using hl)) ?_)
  rintro e w' ⟨rfl, rfl⟩
  refine ⟨_, _, rfl, ⟨rfl, rfl⟩, ?_⟩
  have := hp.turnChan (i := 1) (l' := l ++ [p]) rfl (s + 1) r
  simpa using this
theorem putF_c (l : List Pk) (p : Pk) (hp : Hp w R [nO b c, chA c l] w) (hl : 4096 ≤ l.length) : Sp Try.prog 22 [.pointer (some ⟨b, 0, none⟩), pV p] w R fun v N => v = .bool false ∧ N = [nO b c, chA c l] := by
  obtain ⟨s, r, hc⟩ := hp.chOf (c := c) (l := l) (by (repeat (first | exact .head _ | apply List.Mem.tail)))
  refine .mk (Calls.mono (put_full b c _ s r w (hp.blkOf (by (repeat (first | exact .head _ | apply List.Mem.tail)))) hc (pV p) (by simpa using hl)) ?_)
  rintro e w' ⟨rfl, rfl⟩
  exact ⟨_, _, rfl, ⟨rfl, rfl⟩, hp⟩
theorem get_c (p : Pk) (l : List Pk) (hp : Hp w R [nO b c, chA c (p :: l)] w) : Sp Try.prog 27 [.pointer (some ⟨b, 0, none⟩)] w R fun v N => v = .tuple #[pV p, .bool true] ∧ N = [nO b c, chA c l] := by
  obtain ⟨s, r, hc⟩ := hp.chOf (c := c) (l := p :: l) (by (repeat (first | exact .head _ | apply List.Mem.tail)))
  refine .mk (Calls.mono (get_some b c _ s r w (hp.blkOf (by (repeat (first | exact .head _ | apply List.Mem.tail)))) hc (by simp)) ?_)
  rintro e w' ⟨rfl, rfl⟩
  refine ⟨_, _, rfl, ⟨by simp, rfl⟩, ?_⟩
  have := hp.turnChan (i := 1) (l' := l) rfl s (r + 1)
  have e : ((p :: l).map pV).toArray.extract 1 ((p :: l).map pV).toArray.size = (l.map pV).toArray := by simp [List.take_of_length_le]
  rw [e]
  exact this
end
end Go.Proofs.Ytdbpnolpgkcjiaa
