/- More of the engine's laws: bytes' arithmetic, strings, append from anywhere, min and max, conversions. -/
import Derived.Test.YtdbpnolpgkcjiaaMore
import Derived.Laws.BitsAllLaws
import Derived.Laws.IdiomStrings
namespace Go.Proofs.Ytdbpnolpgkcjiaa
open Go.RowKit

theorem u8_in {n : Int} (h : 0 ≤ n ∧ n ≤ 255) : IntKind.wrap .u8 n = n := by
  simp [IntKind.wrap, IntKind.signed, IntKind.bits]; omega
theorem u64_in {n : Int} (h : 0 ≤ n ∧ n ≤ 18446744073709551615) : IntKind.wrap .u64 n = n := by
  simp [IntKind.wrap, IntKind.signed, IntKind.bits]; omega

section
variable {P : Program} {n : Nat} {w0 : World} {R : List Nat} {L : List (Nat × Value)} {M : List Asrt} {ty t t' yt : TypeId} {x y c : Operand} {v u : Value} {K : List (Nat × Value) → List Asrt → Prop}

section
variable {i j : Int} {m : Nat}
theorem Yl_add8 (hx : evl L x = some (.int .u8 i)) (hy : evl L y = some (.int .u8 j)) (h1 : 0 ≤ i + j) (h2 : i + j ≤ 255) : Yl P n w0 R (.binOp .add t x y yt) ty L M (.int .u8 (i + j)) := Yl_bin_int hx hy fun w => by
  rw [run_binInt (by decide)]; simp [arithI, Op.intArith, u8_in ⟨h1, h2⟩]
theorem Yl_mul (hx : evl L x = some (.int .i64 i)) (hy : evl L y = some (.int .i64 j)) (h1 : -9223372036854775808 ≤ i * j) (h2 : i * j ≤ 9223372036854775807) : Yl P n w0 R (.binOp .mul t x y yt) ty L M (.int .i64 (i * j)) := Yl_bin_int hx hy fun w => by
  rw [run_binInt (by decide)]; simp [arithI, Op.intArith, IntWalk.i64_in _ ⟨h1, h2⟩]
/-- A remainder of integers of any kind; the divisor is more than nothing. -/
theorem Yl_remk {k : IntKind} (hx : evl L x = some (.int k i)) (hy : evl L y = some (.int k (m : Int))) (h0 : 0 ≤ i) (hm : 0 < m) : Yl P n w0 R (.binOp .rem t x y yt) ty L M (.int k (i % m)) := Yl_bin_int hx hy fun w => by
  rw [run_binInt (by decide)]
  have hm' : m ≠ 0 := by omega
  simp [arithI, Op.intDiv, hm', Int.tmod_eq_emod_of_nonneg h0]
theorem Yl_quo8 (hx : evl L x = some (.int .u8 i)) (hy : evl L y = some (.int .u8 (m : Int))) (h0 : 0 ≤ i) (hm : 0 < m) (h2 : i ≤ 255) : Yl P n w0 R (.binOp .quo t x y yt) ty L M (.int .u8 (i / m)) := Yl_bin_int hx hy fun w => by
  rw [run_binInt (by decide)]
  have h3 : 0 ≤ i / m := Int.ediv_nonneg h0 (by omega)
  have h4 : i / m ≤ i := Int.ediv_le_self _ h0
  have hm' : m ≠ 0 := by omega
  simp [arithI, Op.intDiv, hm', Int.tdiv_eq_ediv_of_nonneg h0, u8_in ⟨h3, show i / m ≤ 255 by omega⟩]
theorem run_bits {op : BinOp} {k : IntKind} {z : Int} (ho : op = .and ∨ op = .or ∨ op = .andNot) (hb : bits op k i j = z) (w : World) : (binOp op t (.int k i) (.int k j)).run P w = .ok (.int k z) w := by
  subst hb
  rcases ho with rfl | rfl | rfl <;> simp [binOp, Op.intBits, bits]
theorem Yl_and8 (hx : evl L x = some (.int .u8 i)) (hy : evl L y = some (.int .u8 j)) (h1 : 0 ≤ i) (h2 : i < 256) (h3 : 0 ≤ j) (h4 : j < 256) : Yl P n w0 R (.binOp .and t x y yt) ty L M (.int .u8 ((i.toNat &&& j.toNat : Nat) : Int)) :=
  Yl_bin_int hx hy fun w => run_bits (.inl rfl) (u8_and i j h1 h2 h3 h4) w
theorem Yl_or8 (hx : evl L x = some (.int .u8 i)) (hy : evl L y = some (.int .u8 j)) (h1 : 0 ≤ i) (h2 : i < 256) (h3 : 0 ≤ j) (h4 : j < 256) : Yl P n w0 R (.binOp .or t x y yt) ty L M (.int .u8 ((i.toNat ||| j.toNat : Nat) : Int)) :=
  Yl_bin_int hx hy fun w => run_bits (.inr (.inl rfl)) (u8_or i j h1 h2 h3 h4) w
theorem Yl_andNot8 (hx : evl L x = some (.int .u8 i)) (hy : evl L y = some (.int .u8 j)) (h1 : 0 ≤ i) (h2 : i < 256) (h3 : 0 ≤ j) (h4 : j < 256) : Yl P n w0 R (.binOp .andNot t x y yt) ty L M (.int .u8 ((i.toNat &&& (255 - j.toNat) : Nat) : Int)) :=
  Yl_bin_int hx hy fun w => run_bits (.inr (.inr rfl)) (u8_andNot i j h1 h2 h3 h4) w
theorem Yl_and1 (hx : evl L x = some (.int .u8 i)) (hy : evl L y = some (.int .u8 1)) (h1 : 0 ≤ i) (h2 : i < 256) : Yl P n w0 R (.binOp .and t x y yt) ty L M (.int .u8 (i % 2)) :=
  Yl_bin_int hx hy fun w => run_bits (.inl rfl) (by
    rw [u8_and i 1 h1 h2 (by omega) (by omega), show (1 : Int).toNat = 1 from rfl, Nat.and_one_is_mod]; omega) w
theorem Yl_shr8 {s : Nat} {k : IntKind} (hx : evl L x = some (.int .u8 i)) (hy : evl L y = some (.int k (s : Int))) (hs : s < 8) : Yl P n w0 R (.binOp .shr t x y yt) ty L M (.int .u8 (i / 2 ^ s)) := .mk fun a w hk _ => by
  have e : min s IntKind.u8.bits = s := by simp [IntKind.bits]; omega
  have e2 : ¬ ((s : Int) < 0) := by omega
  have e3 : (Op.shift .shr .u8 i k (s : Int)) = pure (.int .u8 (i / 2 ^ s)) := by
    unfold Op.shift
    rw [if_neg e2]
    simp only [Int.toNat_natCast, e]
    rw [Int.fdiv_eq_ediv_of_nonneg _ (by exact Int.le_of_lt (Int.pow_pos (by decide)))]
  have e4 : binOp .shr t (.int .u8 i) (.int k (s : Int)) = Op.shift .shr .u8 i k (s : Int) := rfl
  simp only [execOp, hk.ev hx, hk.ev hy, eqGuard]
  rw [e4, e3]
  simp
end

theorem Yl_convI {k k' : IntKind} {i : Int} (hx : evl L x = some (.int k i)) (hs : P.underlying t = some (.int k)) (hd : P.underlying t' = some (.int k')) (h : IntKind.wrap k' i = i) : Yl P n w0 R (.convert t t' x) ty L M (.int k' i) := .mk fun a w hk _ => by
  simp [execOp, hk.ev hx, convert, run_underlying hs, run_underlying hd, Conv.intToInt, h]

/-- Bytes that are owned, as a string. -/
def eU (b : UInt8) : List Value := [.int .u8 (b.toNat : Int)]
theorem eU_len (b : UInt8) : (eU b).length = 1 := rfl
theorem eU_one (b : UInt8) : ∀ u ∈ eU b, u.oneCell' = true := fun u hu => by
  simp [eU] at hu; subst hu; rfl
theorem eU_get (l : List UInt8) (j : Nat) (hj : j < l.length) : (l.flatMap eU)[j]? = some (.int .u8 (l[j].toNat : Int)) := by
  induction l generalizing j with
  | nil => simp at hj
  | cons b l ih =>
    rw [List.flatMap_cons]
    cases j with
    | zero => rfl
    | succ j =>
      simp only [List.length_cons, Nat.add_lt_add_iff_right] at hj
      show (l.flatMap eU)[j]? = _
      rw [ih j hj]; rfl
theorem Yl_str_row {e k cap : Nat} {A : Option Addr} {l : List UInt8} (hx : evl L x = some (.slice A l.length cap)) (hs : P.underlying t = some (.slice e)) (he : P.underlying e = some (.int .u8)) (hd : P.underlying t' = some .string) (hpos : 0 < l.length)
    (hm : Asrt.row e k (.slice A l.length cap) l.length (l.flatMap eU) ∈ M) : Yl P n w0 R (.convert t t' x) ty L M (.string ⟨l.toArray⟩) := .mk fun a w hk hp => by
  have hr := hp.rowOf hm
  have hA := hr.some_ hpos
  have := run_convert_bytes_back (P := P) w t t' e (adr A) cap l hs he hd fun j hj => hr.cell j _ (eU_get l j hj)
  rw [← hA] at this
  simp [execOp, hk.ev hx, this]

theorem Yl_addS {a b : ByteArray} (hx : evl L x = some (.string a)) (hy : evl L y = some (.string b)) (h : a.size + b.size ≤ 9223372036854775807) : Yl P n w0 R (.binOp .add t x y yt) ty L M (.string (a ++ b)) := .mk fun ac w hk _ => by
  have h' : (a.size : Int) + (b.size : Int) ≤ 9223372036854775807 := by omega
  simp [h', execOp, hk.ev hx, hk.ev hy, eqGuard, binOp, Op.stringOp]

theorem Yl_eql_strT {a b : ByteArray} (hx : evl L x = some (.string a)) (hy : evl L y = some (.string b)) (h : a = b) : Yl P n w0 R (.binOp .eql t x y yt) ty L M (.bool true) := by
  have := Yl_eql_str (P := P) (n := n) (w0 := w0) (R := R) (L := L) (M := M) (ty := ty) (t := t) (yt := yt) hx hy
  rwa [decide_eq_true h] at this
theorem Yl_eql_strF {a b : ByteArray} (hx : evl L x = some (.string a)) (hy : evl L y = some (.string b)) (h : ¬ a = b) : Yl P n w0 R (.binOp .eql t x y yt) ty L M (.bool false) := by
  have := Yl_eql_str (P := P) (n := n) (w0 := w0) (R := R) (L := L) (M := M) (ty := ty) (t := t) (yt := yt) hx hy
  rwa [decide_eq_false h] at this
theorem Yl_neq_strT {a b : ByteArray} (hx : evl L x = some (.string a)) (hy : evl L y = some (.string b)) (h : ¬ a = b) : Yl P n w0 R (.binOp .neq t x y yt) ty L M (.bool true) := by
  have := Yl_neq_str (P := P) (n := n) (w0 := w0) (R := R) (L := L) (M := M) (ty := ty) (t := t) (yt := yt) hx hy
  rwa [decide_eq_false h] at this
theorem Yl_neq_strF {a b : ByteArray} (hx : evl L x = some (.string a)) (hy : evl L y = some (.string b)) (h : a = b) : Yl P n w0 R (.binOp .neq t x y yt) ty L M (.bool false) := by
  have := Yl_neq_str (P := P) (n := n) (w0 := w0) (R := R) (L := L) (M := M) (ty := ty) (t := t) (yt := yt) hx hy
  rwa [decide_eq_true h] at this
theorem sp_eqlS {a b : ByteArray} {K : Value → Prop} (hx : evl L x = some (.string a)) (hy : evl L y = some (.string b)) (h1 : a = b → K (.bool true)) (h2 : ¬ a = b → K (.bool false)) : ∃ v, Yl P n w0 R (.binOp .eql t x y yt) ty L M v ∧ K v := by
  by_cases h : a = b
  · exact ⟨_, Yl_eql_strT hx hy h, h1 h⟩
  · exact ⟨_, Yl_eql_strF hx hy h, h2 h⟩
theorem sp_neqS {a b : ByteArray} {K : Value → Prop} (hx : evl L x = some (.string a)) (hy : evl L y = some (.string b)) (h1 : ¬ a = b → K (.bool true)) (h2 : a = b → K (.bool false)) : ∃ v, Yl P n w0 R (.binOp .neq t x y yt) ty L M v ∧ K v := by
  by_cases h : a = b
  · exact ⟨_, Yl_neq_strF hx hy h, h2 h⟩
  · exact ⟨_, Yl_neq_strT hx hy h, h1 h⟩

theorem Yl_min {k k' : IntKind} {i j : Int} {ats : Array TypeId} (hx : evl L x = some (.int k i)) (hy : evl L y = some (.int k' j)) : Yl P n w0 R (.call { callee := .builtin .min, args := #[x, y], argTypes := ats }) ty L M (.int k (min i j)) := .mk fun a w hk _ => by
  have e : (if j < i then j else i) = min i j := by omega
  simp [execOp, hk.ev hx, hk.ev hy, resolve, invoke, builtin, Builtin.min_, Builtin.min2, e]
theorem Yl_max {k k' : IntKind} {i j : Int} {ats : Array TypeId} (hx : evl L x = some (.int k i)) (hy : evl L y = some (.int k' j)) : Yl P n w0 R (.call { callee := .builtin .max, args := #[x, y], argTypes := ats }) ty L M (.int k (max i j)) := .mk fun a w hk _ => by
  have e : (if i < j then j else i) = max i j := by omega
  simp [execOp, hk.ev hx, hk.ev hy, resolve, invoke, builtin, Builtin.max_, Builtin.max2, e]

theorem Ef_storeA' {b i : Nat} {C V : Array Value} {e : TypeId} (hx : evl L x = some (.pointer (some ⟨b, 0, none⟩))) (hy : evl L y = some (.agg V)) (hs : sizT P t = some V.size) (h1 : ∀ u ∈ V.toList, u.oneCell' = true) (hM : M[i]? = some (.blk b (.cells C e (0, 0)))) (ho : C.size = V.size)
    (h : K L (M.set i (.blk b (.cells V e (0, 0))))) : Ef P n w0 R none (.store t x y) ty L M K :=
  Ef_storeA hx hy hs (by rw [Array.all_eq_true_iff_forall_mem]; intro u hu; exact h1 u (by simpa using hu)) hM ho h

/-- An index into an array that is a value. -/
theorem Yl_indexV {e len j : Nat} {xs : Array Value} {kd : IntKind} (hx : evl L x = some (.agg xs)) (hy : evl L y = some (.int kd (j : Int))) (ht : P.underlying t = some (.array len e)) (he : oneT P e = true) (hs : sizT P e = some 1) (hj : j < len) (hv : xs[j]? = some v) :
    Yl P n w0 R (.index t x y) ty L M v := .mk fun a w hk _ => by
  obtain ⟨inf, hi, hz⟩ := Option.map_eq_some_iff.1 hs
  simp [execOp, hk.ev hx, hk.ev hy, Instr.index, asIntOf, run_underlying ht, hj, sizeOf, typeInfo, hi, hz, part_one he hv]

theorem is_min {K : Value → Prop} {a : Array Operand} {ts : Array TypeId} (h : ∃ v, Yl P n w0 R (.call { callee := .builtin .min, args := a, argTypes := ts }) ty L M v ∧ K v) : ∃ v, Yl P n w0 R (.call { callee := .builtin .min, args := a, argTypes := ts }) ty L M v ∧ K v := h
theorem is_max {K : Value → Prop} {a : Array Operand} {ts : Array TypeId} (h : ∃ v, Yl P n w0 R (.call { callee := .builtin .max, args := a, argTypes := ts }) ty L M v ∧ K v) : ∃ v, Yl P n w0 R (.call { callee := .builtin .max, args := a, argTypes := ts }) ty L M v ∧ K v := h

theorem ie_conv {d : Option Nat} {s t : TypeId} {x : Operand} (h : Ef P n w0 R d (.convert s t x) ty L M K) : Ef P n w0 R d (.convert s t x) ty L M K := h
theorem ie_bmin {d : Option Nat} {a : Array Operand} {ts : Array TypeId} (h : Ef P n w0 R d (.call { callee := .builtin .min, args := a, argTypes := ts }) ty L M K) : Ef P n w0 R d (.call { callee := .builtin .min, args := a, argTypes := ts }) ty L M K := h
theorem ie_bmax {d : Option Nat} {a : Array Operand} {ts : Array TypeId} (h : Ef P n w0 R d (.call { callee := .builtin .max, args := a, argTypes := ts }) ty L M K) : Ef P n w0 R d (.call { callee := .builtin .max, args := a, argTypes := ts }) ty L M K := h

/-! ### Slices of nothing; append from anywhere -/

theorem Ef_bsl0 {d e k by_ : Nat} (hd : Nat.blt d n = true) (ht : appT P t = some (e, k, by_)) (h : ∀ b, K ((d, .slice (some ⟨b, 0, none⟩) 0 0) :: L) (.row e k (.slice (some ⟨b, 0, none⟩) 0 0) 0 [] :: M)) : Ef P n w0 R (some d) (.buildSlice t 0 #[]) ty L M K :=
  Ef_of hd fun a w hk hp => by
    obtain ⟨hu, i, z, hi, hz, rfl, _, hzc, hk0⟩ := appT_spec ht
    have hp' := hp.row_new #[] e i.size 0 (Nat.zero_le _) (by simp)
    refine ⟨_, _, _, ?_, hp', h _⟩
    simp [execOp, Instr.buildSlice, run_underlying hu, sizeOf, typeInfo, hi, Instr.fill, newRow, newObj, Sem.run]
    congr 2
    apply Array.ext'
    simp

theorem run_storeCells_nil (a : Addr) (w : World) : (storeCells a []).run P w = .ok () w := by simp [storeCells]

/-- What is appended reads as news, wherever it lies. -/
theorem Ef_appendG {d e k by_ m m2 c2 i : Nat} {s : Operand} {vv : Value} {A2 : Option Addr} {xs news : List Value} (hd : Nat.blt d n = true) (hs : evl L s = some vv) (hx : evl L x = some (.slice A2 m2 c2)) (ht : appT P t = some (e, k, by_))
    (hM : M[i]? = some (.row e k vv m xs)) (hr : ∀ w, Hp w0 R M w → Rd w A2 m2 k news) (h1 : ∀ u ∈ news, u.oneCell' = true) (hb : (m + m2) * by_ ≤ 140737488355328) (h63 : m + m2 ≤ 9223372036854775807)
    (h : ∀ A c, K ((d, .slice A (m + m2) c) :: L) (M.set i (.row e k (.slice A (m + m2) c) (m + m2) (xs ++ news)))) :
    Ef P n w0 R (some d) (.call { callee := .builtin .append, args := #[s, x], argTypes := #[t, t] }) ty L M K := by
  cases hA : A2 with
  | some a2 =>
    subst hA
    refine .mk fun a w next Q hk hp hn => ?_
    exact (Ef_append hd hs hx ht hM (hr w hp).len (fun w hp j u hu => (hr w hp).cell j u hu) h1 hb h63 h).run a w next Q hk hp hn
  | none =>
    subst hA
    refine Ef_of hd fun a w hk hp => ?_
    have hrw := hr w hp
    have hm2 : m2 = 0 := by
      rcases Nat.eq_zero_or_pos m2 with e | e
      · exact e
      · have := hrw.some_ e; cases this
    subst hm2
    have hnews : news = [] := List.eq_nil_of_length_eq_zero (by have := hrw.len; simpa using this)
    subst hnews
    obtain ⟨hu, inf, z, hi, hz, hsz, hby, hzc, hk0⟩ := appT_spec ht
    have hown : w.ownsRow 0 e k vv m xs := hp.own _ (List.mem_of_getElem? hM)
    have hset : ∀ A, M[i]? = some A → M.set i A = M := fun A hA => by
      obtain ⟨l1, l2, rfl, hl⟩ := split_at hA
      rw [set_at hl]
    rcases hown.2 with ⟨rfl, rfl⟩ | ⟨g, cap, cur, rfl, _, hg, hmc, _⟩
    · have := h none 0
      simp only [Nat.add_zero, List.append_nil, hset _ hM] at this
      refine ⟨_, w, M, ?_, hp, this⟩
      simp [execOp, hk.ev hs, hk.ev hx, resolve, invoke, builtin, Builtin.append_, run_underlying hu, sizeOf, typeInfo, hi, Builtin.lenOf, Builtin.firstCells]
    · have := h (some ⟨g, 0, none⟩) cap
      simp only [Nat.add_zero, List.append_nil, hset _ hM] at this
      refine ⟨_, w, M, ?_, hp, this⟩
      simp [execOp, hk.ev hs, hk.ev hx, resolve, invoke, builtin, Builtin.append_, run_underlying hu, sizeOf, typeInfo, hi, Builtin.lenOf, Builtin.firstCells, hmc, run_storeCells_nil]

theorem Ef_appG_rd {d e k by_ m m2 c2 i : Nat} {s : Operand} {vv : Value} {A2 : Option Addr} {xs news : List Value} (hd : Nat.blt d n = true) (hs : evl L s = some vv) (hx : evl L x = some (.slice A2 m2 c2)) (ht : appT P t = some (e, k, by_))
    (hM : M[i]? = some (.row e k vv m xs)) (hr : Rd w0 A2 m2 k news) (h1 : ∀ u ∈ news, u.oneCell' = true) (hb : (m + m2) * by_ ≤ 140737488355328) (h63 : m + m2 ≤ 9223372036854775807) (hR : (adr A2).block ∉ R)
    (h : ∀ A c, K ((d, .slice A (m + m2) c) :: L) (M.set i (.row e k (.slice A (m + m2) c) (m + m2) (xs ++ news)))) :
    Ef P n w0 R (some d) (.call { callee := .builtin .append, args := #[s, x], argTypes := #[t, t] }) ty L M K :=
  Ef_appendG hd hs hx ht hM (fun _ hp => hp.rd hr fun _ => hR) h1 hb h63 h
theorem Ef_appG_row {d e k by_ m m2 c2 i : Nat} {s : Operand} {vv : Value} {A2 : Option Addr} {xs news : List Value} (hd : Nat.blt d n = true) (hs : evl L s = some vv) (hx : evl L x = some (.slice A2 m2 c2)) (ht : appT P t = some (e, k, by_))
    (hM : M[i]? = some (.row e k vv m xs)) (hm : Asrt.row e k (.slice A2 m2 c2) m2 news ∈ M) (h1 : ∀ u ∈ news, u.oneCell' = true) (hb : (m + m2) * by_ ≤ 140737488355328) (h63 : m + m2 ≤ 9223372036854775807)
    (h : ∀ A c, K ((d, .slice A (m + m2) c) :: L) (M.set i (.row e k (.slice A (m + m2) c) (m + m2) (xs ++ news)))) :
    Ef P n w0 R (some d) (.call { callee := .builtin .append, args := #[s, x], argTypes := #[t, t] }) ty L M K :=
  Ef_appendG hd hs hx ht hM (fun _ hp => hp.rowOf hm) h1 hb h63 h
theorem Ef_app0_rd {d e k by_ m2 c2 i : Nat} {s : Operand} {vv : Value} {A2 : Option Addr} {news : List Value} (hd : Nat.blt d n = true) (hs : evl L s = some vv) (hx : evl L x = some (.slice A2 m2 c2)) (ht : appT P t = some (e, k, by_))
    (hM : M[i]? = some (.row e k vv 0 [])) (hr : Rd w0 A2 m2 k news) (h1 : ∀ u ∈ news, u.oneCell' = true) (hb : m2 * by_ ≤ 140737488355328) (h63 : m2 ≤ 9223372036854775807) (hR : (adr A2).block ∉ R)
    (h : ∀ A c, K ((d, .slice A m2 c) :: L) (M.set i (.row e k (.slice A m2 c) m2 news))) :
    Ef P n w0 R (some d) (.call { callee := .builtin .append, args := #[s, x], argTypes := #[t, t] }) ty L M K :=
  Ef_appG_rd hd hs hx ht hM hr h1 (by rw [Nat.zero_add]; exact hb) (by rw [Nat.zero_add]; exact h63) hR fun A c => by rw [Nat.zero_add, List.nil_append]; exact h A c
theorem Ef_app0_row {d e k by_ m2 c2 i : Nat} {s : Operand} {vv : Value} {A2 : Option Addr} {news : List Value} (hd : Nat.blt d n = true) (hs : evl L s = some vv) (hx : evl L x = some (.slice A2 m2 c2)) (ht : appT P t = some (e, k, by_))
    (hM : M[i]? = some (.row e k vv 0 [])) (hm : Asrt.row e k (.slice A2 m2 c2) m2 news ∈ M) (h1 : ∀ u ∈ news, u.oneCell' = true) (hb : m2 * by_ ≤ 140737488355328) (h63 : m2 ≤ 9223372036854775807)
    (h : ∀ A c, K ((d, .slice A m2 c) :: L) (M.set i (.row e k (.slice A m2 c) m2 news))) :
    Ef P n w0 R (some d) (.call { callee := .builtin .append, args := #[s, x], argTypes := #[t, t] }) ty L M K :=
  Ef_appG_row hd hs hx ht hM hm h1 (by rw [Nat.zero_add]; exact hb) (by rw [Nat.zero_add]; exact h63) fun A c => by rw [Nat.zero_add, List.nil_append]; exact h A c

theorem Yl_convW {k k' : IntKind} {i : Int} (hx : evl L x = some (.int k i)) (hs : P.underlying t = some (.int k)) (hd : P.underlying t' = some (.int k')) : Yl P n w0 R (.convert t t' x) ty L M (.int k' (k'.wrap i)) := .mk fun a w hk _ => by
  simp [execOp, hk.ev hx, convert, run_underlying hs, run_underlying hd, Conv.intToInt]
theorem wrap_u64_lo (i : Int) : 0 ≤ IntKind.wrap .u64 i := by
  simp [IntKind.wrap, IntKind.signed, IntKind.bits]; omega
/-- A remainder whose value is known. -/
theorem Yl_remE {k : IntKind} {i j r : Int} (hx : evl L x = some (.int k i)) (hy : evl L y = some (.int k j)) (h0 : 0 ≤ i) (hm : 0 < j) (h : i % j = r) : Yl P n w0 R (.binOp .rem t x y yt) ty L M (.int k r) := by
  obtain ⟨m, rfl⟩ := Int.eq_ofNat_of_zero_le (Int.le_of_lt hm)
  subst h
  exact Yl_remk hx hy h0 (by omega)
theorem rem_nat (i : Int) (len : Nat) (hl : 0 < len) : ∃ j : Nat, j < len ∧ i % (len : Int) = (j : Int) := by
  have h1 := Int.emod_nonneg i (show (len : Int) ≠ 0 by omega)
  have h2 := Int.emod_lt_of_pos i (show (0 : Int) < (len : Int) by omega)
  obtain ⟨j, hj⟩ := Int.eq_ofNat_of_zero_le h1
  exact ⟨j, by omega, hj⟩

/-! ### A store of an aggregate into a row -/

def setAll (xs : List Value) (j : Nat) : List Value → List Value
  | [] => xs
  | v :: vs => setAll (xs.set j v) (j + 1) vs
theorem setAll_len (vs : List Value) : ∀ (xs : List Value) (j : Nat), (setAll xs j vs).length = xs.length := by
  induction vs with
  | nil => intro xs j; rfl
  | cons v vs ih => intro xs j; simp [setAll, ih]
theorem setAll_get (vs : List Value) : ∀ (xs : List Value) (j i : Nat), j + vs.length ≤ xs.length → (setAll xs j vs)[i]? = if j ≤ i ∧ i < j + vs.length then vs[i - j]? else xs[i]? := by
  induction vs with
  | nil => intro xs j i _; rw [if_neg (by simp only [List.length_nil]; omega)]; rfl
  | cons v vs ih =>
    intro xs j i h
    simp only [List.length_cons] at h
    simp only [setAll]
    rw [ih _ _ _ (by simp; omega)]
    by_cases h1 : j + 1 ≤ i ∧ i < j + 1 + vs.length
    · rw [if_pos h1, if_pos (by simp only [List.length_cons]; omega)]
      have e : i - j = (i - (j + 1)) + 1 := by omega
      rw [e, List.getElem?_cons_succ]
    · rw [if_neg h1]
      by_cases h2 : i = j
      · subst h2
        rw [if_pos (by simp only [List.length_cons]; omega), Nat.sub_self, List.getElem?_set_self (by omega), List.getElem?_cons_zero]
      · rw [if_neg (by simp only [List.length_cons]; omega), List.getElem?_set_ne (fun e => h2 e.symm)]

theorem run_storeCells_row (P : Program) {e k m cap g : Nat} : ∀ (vs : List Value) (i : Nat) (xs : List Value) (w : World) (j : Nat), w.ownsRow 0 e k (.slice (some ⟨g, 0, none⟩) m cap) m xs → j + i + vs.length ≤ m * k → (∀ v ∈ vs, v.oneCell' = true) →
    ∃ w', (storeCells ⟨g, j, none⟩ vs i).run P w = .ok () w' ∧ w'.ownsRow 0 e k (.slice (some ⟨g, 0, none⟩) m cap) m (setAll xs (j + i) vs) ∧ w.grownBy w' (some g)
  | [], i, xs, w, j, ho, _, _ => ⟨w, by simp [storeCells], ho, ⟨rfl, rfl, rfl, Nat.le_refl _, fun _ _ _ => rfl⟩⟩
  | v :: vs, i, xs, w, j, ho, hl, h1 => by
    simp only [List.length_cons] at hl
    have hst := ho.stored (j + i) v
    obtain ⟨w', hr, ho', hg⟩ := run_storeCells_row P vs (i + 1) (xs.set (j + i) v) _ j hst.1 (by omega) (fun u hu => h1 u (List.mem_cons_of_mem _ hu))
    have hlen : j + i < xs.length := by rw [ho.1]; omega
    have hcell : w.cell? ⟨g, j + i, none⟩ = some xs[j + i] := by rw [ho.cellAt (j + i) (by omega)]; exact List.getElem?_eq_getElem hlen
    refine ⟨w', ?_, ho', hst.2.trans hg⟩
    unfold storeCells
    rw [blk_add]
    simp [run_store P w _ v _ (h1 v (by simp)), hcell, ho.frozenAt (j + i), hr]

/-- Data's rows: one that is stored anew. -/
theorem setAll_enc {α : Type} {enc : α → List Value} {k : Nat} (hk : ∀ x, (enc x).length = k) {l : List α} {i : Nat} (hi : i < l.length) (v : α) : setAll (l.flatMap enc) (i * k) (enc v) = (l.set i v).flatMap enc := by
  induction l generalizing i with
  | nil => simp at hi
  | cons y l ih =>
    have hfl : ∀ l : List α, (l.flatMap enc).length = l.length * k := fun l => by
      induction l with
      | nil => simp
      | cons a l ih2 => rw [List.flatMap_cons, List.length_append, hk, ih2, List.length_cons, Nat.add_mul, Nat.one_mul, Nat.add_comm]
    apply List.ext_getElem?
    intro q
    have hle : i * k + k ≤ (y :: l).length * k := by
      have : (i + 1) * k ≤ (y :: l).length * k := Nat.mul_le_mul_right _ hi
      rwa [Nat.add_mul, Nat.one_mul] at this
    rw [setAll_get _ _ _ _ (by rw [hk, hfl]; exact hle), hk]
    cases i with
    | zero =>
      simp only [Nat.zero_mul, Nat.zero_le, true_and, Nat.zero_add, Nat.sub_zero, List.set_cons_zero, List.flatMap_cons]
      by_cases hq : q < k
      · rw [if_pos hq, List.getElem?_append_left (by rw [hk]; exact hq)]
      · rw [if_neg hq, List.getElem?_append_right (by rw [hk]; omega), List.getElem?_append_right (by rw [hk]; omega), hk, hk]
    | succ i =>
      have ih := ih (i := i) (by simpa using hi)
      simp only [List.set_cons_succ, List.flatMap_cons]
      rw [← ih]
      have hle2 : i * k + k ≤ l.length * k := by
        have : (i + 1) * k ≤ l.length * k := Nat.mul_le_mul_right _ (by simp only [List.length_cons] at hi; omega)
        rwa [Nat.add_mul, Nat.one_mul] at this
      rw [Nat.add_mul, Nat.one_mul]
      by_cases hq : q < k
      · rw [if_neg (by omega), List.getElem?_append_left (by rw [hk]; exact hq), List.getElem?_append_left (by rw [hk]; exact hq)]
      · rw [List.getElem?_append_right (by rw [hk]; omega), List.getElem?_append_right (by rw [hk]; omega), hk, setAll_get _ _ _ _ (by rw [hk, hfl]; exact hle2), hk]
        by_cases h2 : i * k + k ≤ q ∧ q < i * k + k + k
        · rw [if_pos h2, if_pos (by omega)]
          congr 1; omega
        · rw [if_neg h2, if_neg (by omega)]

theorem Ef_store_rowA {A : Option Addr} {e k m cap j i : Nat} {xs xs' : List Value} {V : Array Value} (hx : evl L x = some (.pointer (some ((adr A).add (j * k))))) (hy : evl L y = some (.agg V)) (hs : sizT P t = some k) (hV : V.size = k) (h1 : ∀ u ∈ V.toList, u.oneCell' = true)
    (hM : M[i]? = some (.row e k (.slice A m cap) m xs)) (hj : j < m) (hxs : setAll xs (j * k) V.toList = xs') (h : K L (M.set i (.row e k (.slice A m cap) m xs'))) : Ef P n w0 R none (.store t x y) ty L M K :=
  Ef_of0 fun a w hk hp => by
    subst hxs
    have ho : w.ownsRow 0 e k (.slice A m cap) m xs := hp.own _ (List.mem_of_getElem? hM)
    obtain ⟨inf, hi, hsz⟩ := Option.map_eq_some_iff.1 hs
    have hA : ∃ g, A = some ⟨g, 0, none⟩ := by
      rcases ho.2 with ⟨hv, h0⟩ | ⟨g, cap', cur, hv, _⟩
      · subst h0; simp at hj
      · injection hv with h2; exact ⟨g, h2⟩
    obtain ⟨g, rfl⟩ := hA
    have ha : (adr (some ⟨g, 0, none⟩)).add (j * k) = ⟨g, j * k, none⟩ := by rw [adr, Option.getD_some, blk_add, Nat.zero_add]
    rw [ha] at hx
    have hle : j * k + k ≤ m * k := by
      have : (j + 1) * k ≤ m * k := Nat.mul_le_mul_right _ hj
      rwa [Nat.add_mul, Nat.one_mul] at this
    obtain ⟨w', hr, ho', hg⟩ := run_storeCells_row P V.toList 0 xs w (j * k) ho (by rw [Array.length_toList, hV]; omega) h1
    refine ⟨w', _, ?_, hp.step hM hg (fun k hk => by cases hk; simp [Asrt.foot, Value.ownBlock]) (A' := .row e k (.slice (some ⟨g, 0, none⟩) m cap) m (setAll xs (j * k) V.toList)) ho' (fun k hk => .inl hk) (by simp [Asrt.foot, Value.ownBlock]), h⟩
    simp [execOp, hk.ev hx, hk.ev hy, Instr.storeAt, Instr.sureAddr, storeVar, sizeOf, typeInfo, hi, hsz, Value.cells, hV, hr]
end
end Go.Proofs.Ytdbpnolpgkcjiaa
