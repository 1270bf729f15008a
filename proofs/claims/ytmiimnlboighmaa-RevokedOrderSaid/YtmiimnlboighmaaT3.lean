/- The functions that look for a line's serials: what a call of each comes to: for every slice of numbers of 64 bits, every line of grants. -/
import Derived.Test.YtmiimnlboighmaaT2
namespace Go.Proofs.Ytmiimnlboighmaa
open Go.RowKit
set_option maxRecDepth 20000

/-- A grant: rights, expiry, serial. -/
abbrev G := Int × Int × Int
def gE (g : G) : List Value := [.int .u8 g.1, .int .i64 g.2.1, .int .i64 g.2.2]
theorem gE_len (g : G) : (gE g).length = 3 := rfl
theorem gE_one (g : G) : ∀ u ∈ gE g, u.oneCell' = true := fun u hu => by
  simp [gE] at hu
  rcases hu with rfl | rfl | rfl <;> rfl

theorem rhas_v (A : Option Addr) (len cap : Nat) (l : List Int) (n : Int) (b : Bool) (w : World) (hr : Rd w A len 1 (l.flatMap (eI .i64))) (hl : l.length = len) (hle : len ≤ 9223372036854775807) (hb : decide (n ∈ l) = b) :
    Sp Try.prog 16 [.slice A len cap, .int .i64 n] w [] fun v N => v = .bool b ∧ N = [] := hb ▸ rhas_c A len cap l n w hr hl hle

theorem Hp.after {w0 w w' : World} {M : List Asrt} (h' : Hp w [] [] w') (h : Hp w0 [] M w) : Hp w0 [] [] w' := (h.weaken (List.nil_sublist M)).more (N := []) h'
theorem Hp.keep_blk {w0 w w' : World} {M : List Asrt} (h' : Hp w [] [] w') (h : Hp w0 [] M w) {b : Nat} {o : Obj} (hm : Asrt.blk b o ∈ M) : w'.heap[b]? = some o := h'.blk_old (h.blkOf hm) List.not_mem_nil
theorem Hp.keep_rd {w0 w w' : World} {M : List Asrt} (h' : Hp w [] [] w') (h : Hp w0 [] M w) {A : Option Addr} {n k : Nat} {xs : List Value} (hr : Rd w0 A n k xs) : Rd w' A n k xs := (h'.after h).rd hr fun _ => List.not_mem_nil

/-- The first place of a grant of which p holds; less than nothing: there is none. -/
def idxG (p : G → Bool) (m : List G) : Int := match m.findIdx? p with
  | some i => (i : Int)
  | none => -1
theorem idxG_t {p : G → Bool} {m : List G} {i : Nat} {x : G} (h : m[i]? = some x) (hp : p x = true) (hno : ∀ y ∈ m.take i, p y = false) : idxG p m = (i : Int) := by
  unfold idxG
  have : m.findIdx? p = some i := by
    obtain ⟨hi, he⟩ := List.getElem?_eq_some_iff.1 h
    rw [List.findIdx?_eq_some_iff_getElem]
    refine ⟨hi, by rw [he]; exact hp, fun j hj => ?_⟩
    have := hno m[j] (List.mem_take_iff_getElem.2 ⟨j, by omega, rfl⟩)
    simp [this]
  rw [this]
theorem idxG_f {p : G → Bool} {m : List G} (h : ∀ y ∈ m, p y = false) : idxG p m = -1 := by
  unfold idxG
  rw [List.findIdx?_eq_none_iff.2 h]
theorem idxG_iff (p : G → Bool) (m : List G) : 0 ≤ idxG p m ↔ m.any p = true := by
  cases ha : m.any p with
  | false =>
    rw [List.any_eq_false] at ha
    rw [idxG_f fun y hy => by simpa using ha y hy]
    simp
  | true =>
    simp only [iff_true]
    unfold idxG
    cases hf : m.findIdx? p with
    | none =>
      rw [List.findIdx?_eq_none_iff] at hf
      obtain ⟨x, hx, h⟩ := List.any_eq_true.1 ha
      rw [hf x hx] at h; cases h
    | some i => dsimp only; omega

section
variable (fid : FuncId) (lb : Array Value) (p : G → Bool) (B : Option Addr) (lenb capb : Nat) (m : List G) (hen : Enters Try.prog fid)
include hen
theorem indexf_c (w : World) (hf : ∀ w', Hp w [] [] w' → ∀ x ∈ m, Sp Try.prog fid ([.agg (gE x).toArray] ++ lb.toList) w' [] fun v N => v = .bool (p x) ∧ N = []) (hrb : Rd w B lenb 3 (m.flatMap gE)) (hlb : m.length = lenb) (hleb : lenb ≤ 9223372036854775807) :
    Sp Try.prog 28 [.slice B lenb capb, .func (.func fid) #[] lb] w [] fun v N => v = .int .i64 (idxG p m) ∧ N = [] := by
  refine Sp.enter (n := Try.f28.ntmps) Try.func28 rfl rfl rfl (Hp.refl w) ?_
  repeat' (first
      | with_reducible refine T.seq ?_
      | with_reducible refine T.block ?_
      | with_reducible refine T.region ?_
      | with_reducible refine T.skip ?_
      | with_reducible refine T.scope ?_
      | with_reducible refine T.label ?_
      | with_reducible refine scopeQ_n ?_
      | with_reducible refine scopeQ_r ?_
      | with_reducible refine scopeQ_x ?_
      | with_reducible refine T.ret ?_
      | with_reducible refine T.exit ?_
      | with_reducible refine seqQ_n ?_
      | with_reducible refine seqQ_x ?_
      | with_reducible refine seqQ_r ?_
      | with_reducible refine blockQ_n ?_
      | with_reducible refine blockQ_r ?_
      | with_reducible refine blockQ_x ?_
      | ((with_reducible refine g_blkx ?_); refine blockQ_y rfl ?_)
      | with_reducible refine loopQ_x ?_
      | with_reducible refine loopQ_r ?_
      | with_reducible refine joinQ_r ?_
      | with_reducible refine joinQ_x ?_
      | ((with_reducible refine g_cond ?_); (first | refine T.cond_t rfl ?_ | refine T.cond_f rfl ?_ | (refine T.cond_s rfl ?_ ?_ <;> intro hc)))
      | with_reducible refine TL_nil ?_
      | with_reducible refine TS_nil ?_
      | ((with_reducible refine TL_y' ?hy ?hd ?_); (case hy => rfl); (case hd => rfl))
      | with_reducible refine TL_e ?_
      | ((with_reducible refine g_TL ?_); (first | refine TL_gy' rfl rfl rfl rfl ?_ | refine TL_gn rfl rfl rfl ?_ | refine TL_gu rfl rfl rfl ?_ | refine TL_ge rfl rfl ?_ | refine TL_gn0 rfl rfl ?_))
      | ((with_reducible refine g_TS ?_); (first | refine TS_y rfl rfl ?_ | refine TS_e rfl ?_ | refine TS_gy rfl rfl rfl rfl ?_ | refine TS_gn rfl rfl rfl rfl ?_ | refine TS_gu rfl rfl rfl rfl ?_ | refine TS_ge rfl rfl rfl ?_ | refine TS_gne rfl rfl rfl rfl ?_ | refine TS_gue rfl rfl rfl rfl ?_ | refine TS_gne0 rfl rfl rfl ?_))
      | ((with_reducible refine TSand ?hd ?_); (case hd => (repeat (first | exact List.nil_sublist _ | refine List.Sublist.cons_cons _ ?_ | refine List.Sublist.cons _ ?_))))
      | ((with_reducible refine TBand ?hd ?_); (case hd => (repeat (first | exact List.nil_sublist _ | refine List.Sublist.cons_cons _ ?_ | refine List.Sublist.cons _ ?_))))
      | ((with_reducible refine g_TB ?_); (first | with_reducible refine TB_run ?_ | refine TB_y rfl rfl ?_ | refine TB_b rfl rfl ?_ ?_ | refine TB_e rfl ?_))
      | ((with_reducible refine is_move ?_); refine ⟨_, Yl_move rfl, ?_⟩)
      | ((with_reducible refine is_assign ?_); refine ⟨_, Yl_assign rfl, ?_⟩)
      | ((with_reducible refine is_load ?_); (first
      | ((refine' ⟨_, Yl_load_old rfl ?q1 hb List.not_mem_nil ?q2, ?_⟩); (case q1 => exact one_of rfl); (case q2 => rfl))
      | ((refine' ⟨_, Yl_load_blk rfl ?q1 ?q2 ?q3, ?_⟩); (case q1 => exact one_of rfl); (case q2 => (repeat (first | exact .head _ | apply List.Mem.tail))); (case q3 => rfl))
      | ((refine' ⟨_, Yl_loadA_blk rfl ?q1 ?q2, ?_⟩); (case q1 => (repeat (first | exact .head _ | apply List.Mem.tail))); (case q2 => exact agg_of rfl))
      | ((refine' ⟨_, Yl_load_blk rfl ?q1 ?q2 ?q3, ?_⟩); (case q1 => exact one_of rfl); (case q2 => (repeat (first | exact .head _ | apply List.Mem.tail))); (case q3 => assumption))
      | ((refine' ⟨_, Yl_load_rd rfl ?q1 ?q2 List.not_mem_nil ?q3, ?_⟩); (case q1 => exact one_of rfl); (case q2 => assumption); (case q3 => assumption))
      | ((refine' ⟨_, Yl_load_row rfl ?q1 ?q2 ?q3, ?_⟩); (case q1 => exact one_of rfl); (case q2 => (repeat (first | exact .head _ | apply List.Mem.tail))); (case q3 => assumption))
      | ((refine' ⟨_, Yl_loadA_rd rfl ?qa ?qb List.not_mem_nil ?ql ?qc, ?_⟩); (case qa => exact agg_of rfl); (case qb => assumption); (case qc => assumption); (case ql => rfl))
      | ((refine' ⟨_, Yl_loadA_row rfl ?qa ?qb ?ql ?qc, ?_⟩); (case qa => exact agg_of rfl); (case qb => (repeat (first | exact .head _ | apply List.Mem.tail))); (case qc => assumption); (case ql => rfl))))
      | ((with_reducible refine is_idx ?_); (first
      | ((refine' ⟨_, Yl_index rfl rfl ?q1 ?q2 ?q3 (Rd.some_ ?q4 ?q5), ?_⟩); (case q1 => exact und_of rfl); (case q2 => exact siz_of rfl); (case q3 => omega); (case q4 => assumption); (case q5 => omega))
      | ((refine' ⟨_, Yl_index_row rfl rfl ?q1 ?q2 ?q3 ?q4, ?_⟩); (case q1 => exact und_of rfl); (case q2 => exact siz_of rfl); (case q3 => omega); (case q4 => (repeat (first | exact .head _ | apply List.Mem.tail))))
      | ((refine' ⟨_, Yl_index rfl rfl ?q1 ?q2 ?q3 rfl, ?_⟩); (case q1 => exact und_of rfl); (case q2 => exact siz_of rfl); (case q3 => omega))
      | ((refine' ⟨_, Yl_index (j := 0) rfl rfl ?q1 ?q2 ?q3 (Rd.some_ ?q4 ?q5), ?_⟩); (case q1 => exact und_of rfl); (case q2 => exact siz_of rfl); (case q3 => omega); (case q4 => assumption); (case q5 => omega))
      | ((refine' ⟨_, Yl_index_row (j := 0) rfl rfl ?q1 ?q2 ?q3 ?q4, ?_⟩); (case q1 => exact und_of rfl); (case q2 => exact siz_of rfl); (case q3 => omega); (case q4 => (repeat (first | exact .head _ | apply List.Mem.tail))))
      | ((refine' ⟨_, Yl_indexI rfl rfl ?q1 ?q2 ?q3 ?q4 (Rd.some_ ?q5 ?q6), ?_⟩); (case q1 => exact und_of rfl); (case q2 => exact siz_of rfl); (case q3 => omega); (case q4 => omega); (case q5 => assumption); (case q6 => omega))))
      | ((with_reducible refine is_len ?_); (first | ((refine' ⟨_, Yl_len_slice rfl ?q1, ?_⟩); (case q1 => exact und_of rfl)) | ((refine' ⟨_, Yl_len_string rfl ?q1, ?_⟩); (case q1 => exact und_of rfl))))
      | ((with_reducible refine is_b_lss ?_); (first | ((refine' ⟨_, Yl_lss_t rfl rfl ?q1, ?_⟩); (case q1 => omega)) | ((refine' ⟨_, Yl_lss_f rfl rfl ?q1, ?_⟩); (case q1 => omega)) | (refine sp_lss rfl rfl ?_ ?_ <;> intro hc)))
      | ((with_reducible refine is_b_add ?_); (first | ((refine' ⟨_, Yl_add rfl rfl ?q1 ?q2, ?_⟩); (case q1 => omega); (case q2 => omega)) | ((refine' ⟨_, Yl_add8 rfl rfl ?q1 ?q2, ?_⟩); (case q1 => omega); (case q2 => omega))))
      | ((with_reducible refine ie_callv ?_); (first | refine Ef_callVP rfl rfl rfl hen (fun w1 hp => hf1 w1 (hp.weaken (List.nil_sublist _))) ?_))
      | (fail; (first | ((fail_if_success have := b1); intro b1) | ((fail_if_success have := b2); intro b2) | ((fail_if_success have := b3); intro b3) | ((fail_if_success have := b4); intro b4) | ((fail_if_success have := b5); intro b5) | ((fail_if_success have := b6); intro b6) | ((fail_if_success have := b7); intro b7) | ((fail_if_success have := b8); intro b8) | ((fail_if_success have := b9); intro b9) | ((fail_if_success have := b10); intro b10) | ((fail_if_success have := b11); intro b11) | ((fail_if_success have := b12); intro b12)))
      | (fail; (first | ((fail_if_success have := A1); intro A1 c1) | ((fail_if_success have := A2); intro A2 c2) | ((fail_if_success have := A3); intro A3 c3) | ((fail_if_success have := A4); intro A4 c4) | ((fail_if_success have := A5); intro A5 c5) | ((fail_if_success have := A6); intro A6 c6) | ((fail_if_success have := A7); intro A7 c7)))
      | refine Ef_y rfl rfl ?_)
  refine T.loop (α := Nat) (fun i => [(0, .slice B lenb capb), (1, .func (.func fid) #[] lb), (7, .int .i64 (lenb : Int)), (8, .int .i64 (i : Int))]) (fun _ => []) (fun i => i ≤ lenb ∧ ∀ y ∈ m.take i, p y = false) (fun i => lenb - i) 0 ?_ ?_ ?_ ?_
  · (repeat (first | exact Sub.nil | refine Sub.cons rfl ?_))
  · (repeat (first | exact List.nil_sublist _ | refine List.Sublist.cons_cons _ ?_ | refine List.Sublist.cons _ ?_))
  · exact ⟨Nat.zero_le _, by simp⟩
  · rintro i ⟨hi, hno⟩
    by_cases hlt : i < lenb
    · obtain ⟨x, hx⟩ := some_of_lt (l := m) (i := i) (by omega)
      have eA := enc_atA gE_len hx
      have hf1 := fun w' hp' => hf w' hp' x (mem_of_some hx)
      cases hpx : p x with
      | true =>
        rw [hpx] at hf1
        rw [idxG_t hx hpx hno]
        repeat' (first
            | with_reducible refine T.seq ?_
            | with_reducible refine T.block ?_
            | with_reducible refine T.region ?_
            | with_reducible refine T.skip ?_
            | with_reducible refine T.scope ?_
            | with_reducible refine T.label ?_
            | with_reducible refine scopeQ_n ?_
            | with_reducible refine scopeQ_r ?_
            | with_reducible refine scopeQ_x ?_
            | with_reducible refine T.ret ?_
            | with_reducible refine T.exit ?_
            | with_reducible refine seqQ_n ?_
            | with_reducible refine seqQ_x ?_
            | with_reducible refine seqQ_r ?_
            | with_reducible refine blockQ_n ?_
            | with_reducible refine blockQ_r ?_
            | with_reducible refine blockQ_x ?_
            | ((with_reducible refine g_blkx ?_); refine blockQ_y rfl ?_)
            | with_reducible refine loopQ_x ?_
            | with_reducible refine loopQ_r ?_
            | with_reducible refine joinQ_r ?_
            | with_reducible refine joinQ_x ?_
            | ((with_reducible refine g_cond ?_); (first | refine T.cond_t rfl ?_ | refine T.cond_f rfl ?_ | (refine T.cond_s rfl ?_ ?_ <;> intro hc)))
            | with_reducible refine TL_nil ?_
            | with_reducible refine TS_nil ?_
            | ((with_reducible refine TL_y' ?hy ?hd ?_); (case hy => rfl); (case hd => rfl))
            | with_reducible refine TL_e ?_
            | ((with_reducible refine g_TL ?_); (first | refine TL_gy' rfl rfl rfl rfl ?_ | refine TL_gn rfl rfl rfl ?_ | refine TL_gu rfl rfl rfl ?_ | refine TL_ge rfl rfl ?_ | refine TL_gn0 rfl rfl ?_))
            | ((with_reducible refine g_TS ?_); (first | refine TS_y rfl rfl ?_ | refine TS_e rfl ?_ | refine TS_gy rfl rfl rfl rfl ?_ | refine TS_gn rfl rfl rfl rfl ?_ | refine TS_gu rfl rfl rfl rfl ?_ | refine TS_ge rfl rfl rfl ?_ | refine TS_gne rfl rfl rfl rfl ?_ | refine TS_gue rfl rfl rfl rfl ?_ | refine TS_gne0 rfl rfl rfl ?_))
            | ((with_reducible refine TSand ?hd ?_); (case hd => (repeat (first | exact List.nil_sublist _ | refine List.Sublist.cons_cons _ ?_ | refine List.Sublist.cons _ ?_))))
            | ((with_reducible refine TBand ?hd ?_); (case hd => (repeat (first | exact List.nil_sublist _ | refine List.Sublist.cons_cons _ ?_ | refine List.Sublist.cons _ ?_))))
            | ((with_reducible refine g_TB ?_); (first | with_reducible refine TB_run ?_ | refine TB_y rfl rfl ?_ | refine TB_b rfl rfl ?_ ?_ | refine TB_e rfl ?_))
            | ((with_reducible refine is_move ?_); refine ⟨_, Yl_move rfl, ?_⟩)
            | ((with_reducible refine is_assign ?_); refine ⟨_, Yl_assign rfl, ?_⟩)
            | ((with_reducible refine is_load ?_); (first
            | ((refine' ⟨_, Yl_load_old rfl ?q1 hb List.not_mem_nil ?q2, ?_⟩); (case q1 => exact one_of rfl); (case q2 => rfl))
            | ((refine' ⟨_, Yl_load_blk rfl ?q1 ?q2 ?q3, ?_⟩); (case q1 => exact one_of rfl); (case q2 => (repeat (first | exact .head _ | apply List.Mem.tail))); (case q3 => rfl))
            | ((refine' ⟨_, Yl_loadA_blk rfl ?q1 ?q2, ?_⟩); (case q1 => (repeat (first | exact .head _ | apply List.Mem.tail))); (case q2 => exact agg_of rfl))
            | ((refine' ⟨_, Yl_load_blk rfl ?q1 ?q2 ?q3, ?_⟩); (case q1 => exact one_of rfl); (case q2 => (repeat (first | exact .head _ | apply List.Mem.tail))); (case q3 => assumption))
            | ((refine' ⟨_, Yl_load_rd rfl ?q1 ?q2 List.not_mem_nil ?q3, ?_⟩); (case q1 => exact one_of rfl); (case q2 => assumption); (case q3 => assumption))
            | ((refine' ⟨_, Yl_load_row rfl ?q1 ?q2 ?q3, ?_⟩); (case q1 => exact one_of rfl); (case q2 => (repeat (first | exact .head _ | apply List.Mem.tail))); (case q3 => assumption))
            | ((refine' ⟨_, Yl_loadA_rd rfl ?qa ?qb List.not_mem_nil ?ql ?qc, ?_⟩); (case qa => exact agg_of rfl); (case qb => assumption); (case qc => assumption); (case ql => rfl))
            | ((refine' ⟨_, Yl_loadA_row rfl ?qa ?qb ?ql ?qc, ?_⟩); (case qa => exact agg_of rfl); (case qb => (repeat (first | exact .head _ | apply List.Mem.tail))); (case qc => assumption); (case ql => rfl))))
            | ((with_reducible refine is_idx ?_); (first
            | ((refine' ⟨_, Yl_index rfl rfl ?q1 ?q2 ?q3 (Rd.some_ ?q4 ?q5), ?_⟩); (case q1 => exact und_of rfl); (case q2 => exact siz_of rfl); (case q3 => omega); (case q4 => assumption); (case q5 => omega))
            | ((refine' ⟨_, Yl_index_row rfl rfl ?q1 ?q2 ?q3 ?q4, ?_⟩); (case q1 => exact und_of rfl); (case q2 => exact siz_of rfl); (case q3 => omega); (case q4 => (repeat (first | exact .head _ | apply List.Mem.tail))))
            | ((refine' ⟨_, Yl_index rfl rfl ?q1 ?q2 ?q3 rfl, ?_⟩); (case q1 => exact und_of rfl); (case q2 => exact siz_of rfl); (case q3 => omega))
            | ((refine' ⟨_, Yl_index (j := 0) rfl rfl ?q1 ?q2 ?q3 (Rd.some_ ?q4 ?q5), ?_⟩); (case q1 => exact und_of rfl); (case q2 => exact siz_of rfl); (case q3 => omega); (case q4 => assumption); (case q5 => omega))
            | ((refine' ⟨_, Yl_index_row (j := 0) rfl rfl ?q1 ?q2 ?q3 ?q4, ?_⟩); (case q1 => exact und_of rfl); (case q2 => exact siz_of rfl); (case q3 => omega); (case q4 => (repeat (first | exact .head _ | apply List.Mem.tail))))
            | ((refine' ⟨_, Yl_indexI rfl rfl ?q1 ?q2 ?q3 ?q4 (Rd.some_ ?q5 ?q6), ?_⟩); (case q1 => exact und_of rfl); (case q2 => exact siz_of rfl); (case q3 => omega); (case q4 => omega); (case q5 => assumption); (case q6 => omega))))
            | ((with_reducible refine is_len ?_); (first | ((refine' ⟨_, Yl_len_slice rfl ?q1, ?_⟩); (case q1 => exact und_of rfl)) | ((refine' ⟨_, Yl_len_string rfl ?q1, ?_⟩); (case q1 => exact und_of rfl))))
            | ((with_reducible refine is_b_lss ?_); (first | ((refine' ⟨_, Yl_lss_t rfl rfl ?q1, ?_⟩); (case q1 => omega)) | ((refine' ⟨_, Yl_lss_f rfl rfl ?q1, ?_⟩); (case q1 => omega)) | (refine sp_lss rfl rfl ?_ ?_ <;> intro hc)))
            | ((with_reducible refine is_b_add ?_); (first | ((refine' ⟨_, Yl_add rfl rfl ?q1 ?q2, ?_⟩); (case q1 => omega); (case q2 => omega)) | ((refine' ⟨_, Yl_add8 rfl rfl ?q1 ?q2, ?_⟩); (case q1 => omega); (case q2 => omega))))
            | ((with_reducible refine ie_callv ?_); (first | refine Ef_callVP rfl rfl rfl hen (fun w1 hp => hf1 w1 (hp.weaken (List.nil_sublist _))) ?_))
            | (fail; (first | ((fail_if_success have := b1); intro b1) | ((fail_if_success have := b2); intro b2) | ((fail_if_success have := b3); intro b3) | ((fail_if_success have := b4); intro b4) | ((fail_if_success have := b5); intro b5) | ((fail_if_success have := b6); intro b6) | ((fail_if_success have := b7); intro b7) | ((fail_if_success have := b8); intro b8) | ((fail_if_success have := b9); intro b9) | ((fail_if_success have := b10); intro b10) | ((fail_if_success have := b11); intro b11) | ((fail_if_success have := b12); intro b12)))
            | (fail; (first | ((fail_if_success have := A1); intro A1 c1) | ((fail_if_success have := A2); intro A2 c2) | ((fail_if_success have := A3); intro A3 c3) | ((fail_if_success have := A4); intro A4 c4) | ((fail_if_success have := A5); intro A5 c5) | ((fail_if_success have := A6); intro A6 c6) | ((fail_if_success have := A7); intro A7 c7)))
            | refine Ef_y rfl rfl ?_)
        exact ret_n [] (res1 rfl rfl) (List.nil_sublist _) ⟨rfl, rfl⟩
      | false =>
        rw [hpx] at hf1
        repeat' (first
            | with_reducible refine T.seq ?_
            | with_reducible refine T.block ?_
            | with_reducible refine T.region ?_
            | with_reducible refine T.skip ?_
            | with_reducible refine T.scope ?_
            | with_reducible refine T.label ?_
            | with_reducible refine scopeQ_n ?_
            | with_reducible refine scopeQ_r ?_
            | with_reducible refine scopeQ_x ?_
            | with_reducible refine T.ret ?_
            | with_reducible refine T.exit ?_
            | with_reducible refine seqQ_n ?_
            | with_reducible refine seqQ_x ?_
            | with_reducible refine seqQ_r ?_
            | with_reducible refine blockQ_n ?_
            | with_reducible refine blockQ_r ?_
            | with_reducible refine blockQ_x ?_
            | ((with_reducible refine g_blkx ?_); refine blockQ_y rfl ?_)
            | with_reducible refine loopQ_x ?_
            | with_reducible refine loopQ_r ?_
            | with_reducible refine joinQ_r ?_
            | with_reducible refine joinQ_x ?_
            | ((with_reducible refine g_cond ?_); (first | refine T.cond_t rfl ?_ | refine T.cond_f rfl ?_ | (refine T.cond_s rfl ?_ ?_ <;> intro hc)))
            | with_reducible refine TL_nil ?_
            | with_reducible refine TS_nil ?_
            | ((with_reducible refine TL_y' ?hy ?hd ?_); (case hy => rfl); (case hd => rfl))
            | with_reducible refine TL_e ?_
            | ((with_reducible refine g_TL ?_); (first | refine TL_gy' rfl rfl rfl rfl ?_ | refine TL_gn rfl rfl rfl ?_ | refine TL_gu rfl rfl rfl ?_ | refine TL_ge rfl rfl ?_ | refine TL_gn0 rfl rfl ?_))
            | ((with_reducible refine g_TS ?_); (first | refine TS_y rfl rfl ?_ | refine TS_e rfl ?_ | refine TS_gy rfl rfl rfl rfl ?_ | refine TS_gn rfl rfl rfl rfl ?_ | refine TS_gu rfl rfl rfl rfl ?_ | refine TS_ge rfl rfl rfl ?_ | refine TS_gne rfl rfl rfl rfl ?_ | refine TS_gue rfl rfl rfl rfl ?_ | refine TS_gne0 rfl rfl rfl ?_))
            | ((with_reducible refine TSand ?hd ?_); (case hd => (repeat (first | exact List.nil_sublist _ | refine List.Sublist.cons_cons _ ?_ | refine List.Sublist.cons _ ?_))))
            | ((with_reducible refine TBand ?hd ?_); (case hd => (repeat (first | exact List.nil_sublist _ | refine List.Sublist.cons_cons _ ?_ | refine List.Sublist.cons _ ?_))))
            | ((with_reducible refine g_TB ?_); (first | with_reducible refine TB_run ?_ | refine TB_y rfl rfl ?_ | refine TB_b rfl rfl ?_ ?_ | refine TB_e rfl ?_))
            | ((with_reducible refine is_move ?_); refine ⟨_, Yl_move rfl, ?_⟩)
            | ((with_reducible refine is_assign ?_); refine ⟨_, Yl_assign rfl, ?_⟩)
            | ((with_reducible refine is_load ?_); (first
            | ((refine' ⟨_, Yl_load_old rfl ?q1 hb List.not_mem_nil ?q2, ?_⟩); (case q1 => exact one_of rfl); (case q2 => rfl))
            | ((refine' ⟨_, Yl_load_blk rfl ?q1 ?q2 ?q3, ?_⟩); (case q1 => exact one_of rfl); (case q2 => (repeat (first | exact .head _ | apply List.Mem.tail))); (case q3 => rfl))
            | ((refine' ⟨_, Yl_loadA_blk rfl ?q1 ?q2, ?_⟩); (case q1 => (repeat (first | exact .head _ | apply List.Mem.tail))); (case q2 => exact agg_of rfl))
            | ((refine' ⟨_, Yl_load_blk rfl ?q1 ?q2 ?q3, ?_⟩); (case q1 => exact one_of rfl); (case q2 => (repeat (first | exact .head _ | apply List.Mem.tail))); (case q3 => assumption))
            | ((refine' ⟨_, Yl_load_rd rfl ?q1 ?q2 List.not_mem_nil ?q3, ?_⟩); (case q1 => exact one_of rfl); (case q2 => assumption); (case q3 => assumption))
            | ((refine' ⟨_, Yl_load_row rfl ?q1 ?q2 ?q3, ?_⟩); (case q1 => exact one_of rfl); (case q2 => (repeat (first | exact .head _ | apply List.Mem.tail))); (case q3 => assumption))
            | ((refine' ⟨_, Yl_loadA_rd rfl ?qa ?qb List.not_mem_nil ?ql ?qc, ?_⟩); (case qa => exact agg_of rfl); (case qb => assumption); (case qc => assumption); (case ql => rfl))
            | ((refine' ⟨_, Yl_loadA_row rfl ?qa ?qb ?ql ?qc, ?_⟩); (case qa => exact agg_of rfl); (case qb => (repeat (first | exact .head _ | apply List.Mem.tail))); (case qc => assumption); (case ql => rfl))))
            | ((with_reducible refine is_idx ?_); (first
            | ((refine' ⟨_, Yl_index rfl rfl ?q1 ?q2 ?q3 (Rd.some_ ?q4 ?q5), ?_⟩); (case q1 => exact und_of rfl); (case q2 => exact siz_of rfl); (case q3 => omega); (case q4 => assumption); (case q5 => omega))
            | ((refine' ⟨_, Yl_index_row rfl rfl ?q1 ?q2 ?q3 ?q4, ?_⟩); (case q1 => exact und_of rfl); (case q2 => exact siz_of rfl); (case q3 => omega); (case q4 => (repeat (first | exact .head _ | apply List.Mem.tail))))
            | ((refine' ⟨_, Yl_index rfl rfl ?q1 ?q2 ?q3 rfl, ?_⟩); (case q1 => exact und_of rfl); (case q2 => exact siz_of rfl); (case q3 => omega))
            | ((refine' ⟨_, Yl_index (j := 0) rfl rfl ?q1 ?q2 ?q3 (Rd.some_ ?q4 ?q5), ?_⟩); (case q1 => exact und_of rfl); (case q2 => exact siz_of rfl); (case q3 => omega); (case q4 => assumption); (case q5 => omega))
            | ((refine' ⟨_, Yl_index_row (j := 0) rfl rfl ?q1 ?q2 ?q3 ?q4, ?_⟩); (case q1 => exact und_of rfl); (case q2 => exact siz_of rfl); (case q3 => omega); (case q4 => (repeat (first | exact .head _ | apply List.Mem.tail))))
            | ((refine' ⟨_, Yl_indexI rfl rfl ?q1 ?q2 ?q3 ?q4 (Rd.some_ ?q5 ?q6), ?_⟩); (case q1 => exact und_of rfl); (case q2 => exact siz_of rfl); (case q3 => omega); (case q4 => omega); (case q5 => assumption); (case q6 => omega))))
            | ((with_reducible refine is_len ?_); (first | ((refine' ⟨_, Yl_len_slice rfl ?q1, ?_⟩); (case q1 => exact und_of rfl)) | ((refine' ⟨_, Yl_len_string rfl ?q1, ?_⟩); (case q1 => exact und_of rfl))))
            | ((with_reducible refine is_b_lss ?_); (first | ((refine' ⟨_, Yl_lss_t rfl rfl ?q1, ?_⟩); (case q1 => omega)) | ((refine' ⟨_, Yl_lss_f rfl rfl ?q1, ?_⟩); (case q1 => omega)) | (refine sp_lss rfl rfl ?_ ?_ <;> intro hc)))
            | ((with_reducible refine is_b_add ?_); (first | ((refine' ⟨_, Yl_add rfl rfl ?q1 ?q2, ?_⟩); (case q1 => omega); (case q2 => omega)) | ((refine' ⟨_, Yl_add8 rfl rfl ?q1 ?q2, ?_⟩); (case q1 => omega); (case q2 => omega))))
            | ((with_reducible refine ie_callv ?_); (first | refine Ef_callVP rfl rfl rfl hen (fun w1 hp => hf1 w1 (hp.weaken (List.nil_sublist _))) ?_))
            | (fail; (first | ((fail_if_success have := b1); intro b1) | ((fail_if_success have := b2); intro b2) | ((fail_if_success have := b3); intro b3) | ((fail_if_success have := b4); intro b4) | ((fail_if_success have := b5); intro b5) | ((fail_if_success have := b6); intro b6) | ((fail_if_success have := b7); intro b7) | ((fail_if_success have := b8); intro b8) | ((fail_if_success have := b9); intro b9) | ((fail_if_success have := b10); intro b10) | ((fail_if_success have := b11); intro b11) | ((fail_if_success have := b12); intro b12)))
            | (fail; (first | ((fail_if_success have := A1); intro A1 c1) | ((fail_if_success have := A2); intro A2 c2) | ((fail_if_success have := A3); intro A3 c3) | ((fail_if_success have := A4); intro A4 c4) | ((fail_if_success have := A5); intro A5 c5) | ((fail_if_success have := A6); intro A6 c6) | ((fail_if_success have := A7); intro A7 c7)))
            | refine Ef_y rfl rfl ?_)
        refine loopQ_n (i + 1) ?_ ?_ ⟨by (first | omega | (dsimp only; omega) | (simp; omega)), fun y hy => ?_⟩ (by (first | omega | (dsimp only; omega) | (simp; omega)))
        · (repeat (first | exact Sub.nil | refine Sub.cons rfl ?_))
        · (repeat (first | exact List.nil_sublist _ | refine List.Sublist.cons_cons _ ?_ | refine List.Sublist.cons _ ?_))
        · rw [take_snoc hx] at hy
          rcases List.mem_append.1 hy with hy | hy
          · exact hno y hy
          · rw [List.mem_singleton.1 hy]; exact hpx
    · rw [List.take_of_length_le (by omega)] at hno
      rw [idxG_f hno]
      repeat' (first
          | with_reducible refine T.seq ?_
          | with_reducible refine T.block ?_
          | with_reducible refine T.region ?_
          | with_reducible refine T.skip ?_
          | with_reducible refine T.scope ?_
          | with_reducible refine T.label ?_
          | with_reducible refine scopeQ_n ?_
          | with_reducible refine scopeQ_r ?_
          | with_reducible refine scopeQ_x ?_
          | with_reducible refine T.ret ?_
          | with_reducible refine T.exit ?_
          | with_reducible refine seqQ_n ?_
          | with_reducible refine seqQ_x ?_
          | with_reducible refine seqQ_r ?_
          | with_reducible refine blockQ_n ?_
          | with_reducible refine blockQ_r ?_
          | with_reducible refine blockQ_x ?_
          | ((with_reducible refine g_blkx ?_); refine blockQ_y rfl ?_)
          | with_reducible refine loopQ_x ?_
          | with_reducible refine loopQ_r ?_
          | with_reducible refine joinQ_r ?_
          | with_reducible refine joinQ_x ?_
          | ((with_reducible refine g_cond ?_); (first | refine T.cond_t rfl ?_ | refine T.cond_f rfl ?_ | (refine T.cond_s rfl ?_ ?_ <;> intro hc)))
          | with_reducible refine TL_nil ?_
          | with_reducible refine TS_nil ?_
          | ((with_reducible refine TL_y' ?hy ?hd ?_); (case hy => rfl); (case hd => rfl))
          | with_reducible refine TL_e ?_
          | ((with_reducible refine g_TL ?_); (first | refine TL_gy' rfl rfl rfl rfl ?_ | refine TL_gn rfl rfl rfl ?_ | refine TL_gu rfl rfl rfl ?_ | refine TL_ge rfl rfl ?_ | refine TL_gn0 rfl rfl ?_))
          | ((with_reducible refine g_TS ?_); (first | refine TS_y rfl rfl ?_ | refine TS_e rfl ?_ | refine TS_gy rfl rfl rfl rfl ?_ | refine TS_gn rfl rfl rfl rfl ?_ | refine TS_gu rfl rfl rfl rfl ?_ | refine TS_ge rfl rfl rfl ?_ | refine TS_gne rfl rfl rfl rfl ?_ | refine TS_gue rfl rfl rfl rfl ?_ | refine TS_gne0 rfl rfl rfl ?_))
          | ((with_reducible refine TSand ?hd ?_); (case hd => (repeat (first | exact List.nil_sublist _ | refine List.Sublist.cons_cons _ ?_ | refine List.Sublist.cons _ ?_))))
          | ((with_reducible refine TBand ?hd ?_); (case hd => (repeat (first | exact List.nil_sublist _ | refine List.Sublist.cons_cons _ ?_ | refine List.Sublist.cons _ ?_))))
          | ((with_reducible refine g_TB ?_); (first | with_reducible refine TB_run ?_ | refine TB_y rfl rfl ?_ | refine TB_b rfl rfl ?_ ?_ | refine TB_e rfl ?_))
          | ((with_reducible refine is_move ?_); refine ⟨_, Yl_move rfl, ?_⟩)
          | ((with_reducible refine is_assign ?_); refine ⟨_, Yl_assign rfl, ?_⟩)
          | ((with_reducible refine is_load ?_); (first
          | ((refine' ⟨_, Yl_load_old rfl ?q1 hb List.not_mem_nil ?q2, ?_⟩); (case q1 => exact one_of rfl); (case q2 => rfl))
          | ((refine' ⟨_, Yl_load_blk rfl ?q1 ?q2 ?q3, ?_⟩); (case q1 => exact one_of rfl); (case q2 => (repeat (first | exact .head _ | apply List.Mem.tail))); (case q3 => rfl))
          | ((refine' ⟨_, Yl_loadA_blk rfl ?q1 ?q2, ?_⟩); (case q1 => (repeat (first | exact .head _ | apply List.Mem.tail))); (case q2 => exact agg_of rfl))
          | ((refine' ⟨_, Yl_load_blk rfl ?q1 ?q2 ?q3, ?_⟩); (case q1 => exact one_of rfl); (case q2 => (repeat (first | exact .head _ | apply List.Mem.tail))); (case q3 => assumption))
          | ((refine' ⟨_, Yl_load_rd rfl ?q1 ?q2 List.not_mem_nil ?q3, ?_⟩); (case q1 => exact one_of rfl); (case q2 => assumption); (case q3 => assumption))
          | ((refine' ⟨_, Yl_load_row rfl ?q1 ?q2 ?q3, ?_⟩); (case q1 => exact one_of rfl); (case q2 => (repeat (first | exact .head _ | apply List.Mem.tail))); (case q3 => assumption))
          | ((refine' ⟨_, Yl_loadA_rd rfl ?qa ?qb List.not_mem_nil ?ql ?qc, ?_⟩); (case qa => exact agg_of rfl); (case qb => assumption); (case qc => assumption); (case ql => rfl))
          | ((refine' ⟨_, Yl_loadA_row rfl ?qa ?qb ?ql ?qc, ?_⟩); (case qa => exact agg_of rfl); (case qb => (repeat (first | exact .head _ | apply List.Mem.tail))); (case qc => assumption); (case ql => rfl))))
          | ((with_reducible refine is_idx ?_); (first
          | ((refine' ⟨_, Yl_index rfl rfl ?q1 ?q2 ?q3 (Rd.some_ ?q4 ?q5), ?_⟩); (case q1 => exact und_of rfl); (case q2 => exact siz_of rfl); (case q3 => omega); (case q4 => assumption); (case q5 => omega))
          | ((refine' ⟨_, Yl_index_row rfl rfl ?q1 ?q2 ?q3 ?q4, ?_⟩); (case q1 => exact und_of rfl); (case q2 => exact siz_of rfl); (case q3 => omega); (case q4 => (repeat (first | exact .head _ | apply List.Mem.tail))))
          | ((refine' ⟨_, Yl_index rfl rfl ?q1 ?q2 ?q3 rfl, ?_⟩); (case q1 => exact und_of rfl); (case q2 => exact siz_of rfl); (case q3 => omega))
          | ((refine' ⟨_, Yl_index (j := 0) rfl rfl ?q1 ?q2 ?q3 (Rd.some_ ?q4 ?q5), ?_⟩); (case q1 => exact und_of rfl); (case q2 => exact siz_of rfl); (case q3 => omega); (case q4 => assumption); (case q5 => omega))
          | ((refine' ⟨_, Yl_index_row (j := 0) rfl rfl ?q1 ?q2 ?q3 ?q4, ?_⟩); (case q1 => exact und_of rfl); (case q2 => exact siz_of rfl); (case q3 => omega); (case q4 => (repeat (first | exact .head _ | apply List.Mem.tail))))
          | ((refine' ⟨_, Yl_indexI rfl rfl ?q1 ?q2 ?q3 ?q4 (Rd.some_ ?q5 ?q6), ?_⟩); (case q1 => exact und_of rfl); (case q2 => exact siz_of rfl); (case q3 => omega); (case q4 => omega); (case q5 => assumption); (case q6 => omega))))
          | ((with_reducible refine is_len ?_); (first | ((refine' ⟨_, Yl_len_slice rfl ?q1, ?_⟩); (case q1 => exact und_of rfl)) | ((refine' ⟨_, Yl_len_string rfl ?q1, ?_⟩); (case q1 => exact und_of rfl))))
          | ((with_reducible refine is_b_lss ?_); (first | ((refine' ⟨_, Yl_lss_t rfl rfl ?q1, ?_⟩); (case q1 => omega)) | ((refine' ⟨_, Yl_lss_f rfl rfl ?q1, ?_⟩); (case q1 => omega)) | (refine sp_lss rfl rfl ?_ ?_ <;> intro hc)))
          | ((with_reducible refine is_b_add ?_); (first | ((refine' ⟨_, Yl_add rfl rfl ?q1 ?q2, ?_⟩); (case q1 => omega); (case q2 => omega)) | ((refine' ⟨_, Yl_add8 rfl rfl ?q1 ?q2, ?_⟩); (case q1 => omega); (case q2 => omega))))
          | ((with_reducible refine ie_callv ?_); (first | refine Ef_callVP rfl rfl rfl hen (fun w1 hp => hf1 w1 (hp.weaken (List.nil_sublist _))) ?_))
          | (fail; (first | ((fail_if_success have := b1); intro b1) | ((fail_if_success have := b2); intro b2) | ((fail_if_success have := b3); intro b3) | ((fail_if_success have := b4); intro b4) | ((fail_if_success have := b5); intro b5) | ((fail_if_success have := b6); intro b6) | ((fail_if_success have := b7); intro b7) | ((fail_if_success have := b8); intro b8) | ((fail_if_success have := b9); intro b9) | ((fail_if_success have := b10); intro b10) | ((fail_if_success have := b11); intro b11) | ((fail_if_success have := b12); intro b12)))
          | (fail; (first | ((fail_if_success have := A1); intro A1 c1) | ((fail_if_success have := A2); intro A2 c2) | ((fail_if_success have := A3); intro A3 c3) | ((fail_if_success have := A4); intro A4 c4) | ((fail_if_success have := A5); intro A5 c5) | ((fail_if_success have := A6); intro A6 c6) | ((fail_if_success have := A7); intro A7 c7)))
          | refine Ef_y rfl rfl ?_)
      exact ret_n [] (res1 rfl rfl) (List.nil_sublist _) ⟨rfl, rfl⟩
theorem containsf_c (w : World) (hf : ∀ w', Hp w [] [] w' → ∀ x ∈ m, Sp Try.prog fid ([.agg (gE x).toArray] ++ lb.toList) w' [] fun v N => v = .bool (p x) ∧ N = []) (hrb : Rd w B lenb 3 (m.flatMap gE)) (hlb : m.length = lenb) (hleb : lenb ≤ 9223372036854775807) :
    Sp Try.prog 25 [.slice B lenb capb, .func (.func fid) #[] lb] w [] fun v N => v = .bool (m.any p) ∧ N = [] := by
  have hi := idxG_iff p m
  refine Sp.enter (n := Try.f25.ntmps) Try.func25 rfl rfl rfl (Hp.refl w) ?_
  repeat' (first
      | with_reducible refine T.seq ?_
      | with_reducible refine T.block ?_
      | with_reducible refine T.region ?_
      | with_reducible refine T.skip ?_
      | with_reducible refine T.scope ?_
      | with_reducible refine T.label ?_
      | with_reducible refine scopeQ_n ?_
      | with_reducible refine scopeQ_r ?_
      | with_reducible refine scopeQ_x ?_
      | with_reducible refine T.ret ?_
      | with_reducible refine T.exit ?_
      | with_reducible refine seqQ_n ?_
      | with_reducible refine seqQ_x ?_
      | with_reducible refine seqQ_r ?_
      | with_reducible refine blockQ_n ?_
      | with_reducible refine blockQ_r ?_
      | with_reducible refine blockQ_x ?_
      | ((with_reducible refine g_blkx ?_); refine blockQ_y rfl ?_)
      | with_reducible refine loopQ_x ?_
      | with_reducible refine loopQ_r ?_
      | with_reducible refine joinQ_r ?_
      | with_reducible refine joinQ_x ?_
      | ((with_reducible refine g_cond ?_); (first | refine T.cond_t rfl ?_ | refine T.cond_f rfl ?_ | (refine T.cond_s rfl ?_ ?_ <;> intro hc)))
      | with_reducible refine TL_nil ?_
      | with_reducible refine TS_nil ?_
      | ((with_reducible refine TL_y' ?hy ?hd ?_); (case hy => rfl); (case hd => rfl))
      | with_reducible refine TL_e ?_
      | ((with_reducible refine g_TL ?_); (first | refine TL_gy' rfl rfl rfl rfl ?_ | refine TL_gn rfl rfl rfl ?_ | refine TL_gu rfl rfl rfl ?_ | refine TL_ge rfl rfl ?_ | refine TL_gn0 rfl rfl ?_))
      | ((with_reducible refine g_TS ?_); (first | refine TS_y rfl rfl ?_ | refine TS_e rfl ?_ | refine TS_gy rfl rfl rfl rfl ?_ | refine TS_gn rfl rfl rfl rfl ?_ | refine TS_gu rfl rfl rfl rfl ?_ | refine TS_ge rfl rfl rfl ?_ | refine TS_gne rfl rfl rfl rfl ?_ | refine TS_gue rfl rfl rfl rfl ?_ | refine TS_gne0 rfl rfl rfl ?_))
      | ((with_reducible refine TSand ?hd ?_); (case hd => (repeat (first | exact List.nil_sublist _ | refine List.Sublist.cons_cons _ ?_ | refine List.Sublist.cons _ ?_))))
      | ((with_reducible refine TBand ?hd ?_); (case hd => (repeat (first | exact List.nil_sublist _ | refine List.Sublist.cons_cons _ ?_ | refine List.Sublist.cons _ ?_))))
      | ((with_reducible refine g_TB ?_); (first | with_reducible refine TB_run ?_ | refine TB_y rfl rfl ?_ | refine TB_b rfl rfl ?_ ?_ | refine TB_e rfl ?_))
      | ((with_reducible refine is_move ?_); refine ⟨_, Yl_move rfl, ?_⟩)
      | ((with_reducible refine is_assign ?_); refine ⟨_, Yl_assign rfl, ?_⟩)
      | ((with_reducible refine is_b_geq ?_); (first | ((refine' ⟨_, Yl_geq_t rfl rfl ?q1, ?_⟩); (case q1 => omega)) | ((refine' ⟨_, Yl_geq_f rfl rfl ?q1, ?_⟩); (case q1 => omega)) | (refine sp_geq rfl rfl ?_ ?_ <;> intro hc)))
      | ((with_reducible refine ie_callf ?_); (first   | ((with_reducible refine g_call 28 ?_); (first | refine Ef_callP rfl rfl ent_28 (fun w1 hp => indexf_c fid lb p B lenb capb m hen w1 (fun w' hp' x hx => hf w' (hp'.after hp) x hx) (hp.rd hrb fun _ => List.not_mem_nil) hlb hleb) ?_))))
      | (fail; (first | ((fail_if_success have := b1); intro b1) | ((fail_if_success have := b2); intro b2) | ((fail_if_success have := b3); intro b3) | ((fail_if_success have := b4); intro b4) | ((fail_if_success have := b5); intro b5) | ((fail_if_success have := b6); intro b6) | ((fail_if_success have := b7); intro b7) | ((fail_if_success have := b8); intro b8) | ((fail_if_success have := b9); intro b9) | ((fail_if_success have := b10); intro b10) | ((fail_if_success have := b11); intro b11) | ((fail_if_success have := b12); intro b12)))
      | (fail; (first | ((fail_if_success have := A1); intro A1 c1) | ((fail_if_success have := A2); intro A2 c2) | ((fail_if_success have := A3); intro A3 c3) | ((fail_if_success have := A4); intro A4 c4) | ((fail_if_success have := A5); intro A5 c5) | ((fail_if_success have := A6); intro A6 c6) | ((fail_if_success have := A7); intro A7 c7)))
      | refine Ef_y rfl rfl ?_)
  · exact ret_n [] (res1 rfl rfl) (List.nil_sublist _) ⟨by rw [hi.1 (by assumption)], rfl⟩
  · exact ret_n [] (res1 rfl rfl) (List.nil_sublist _) ⟨by rw [show m.any p = false from Bool.eq_false_iff.2 fun h => absurd (hi.2 h) (by assumption)], rfl⟩
end

section
variable (A : Option Addr) (len cap : Nat) (l : List Int)
theorem any1_c (b : Nat) (g : G) (w : World) (hb : w.heap[b]? = some (.cells #[.slice A len cap] 22 (0, 0))) (hr : Rd w A len 1 (l.flatMap (eI .i64))) (hl : l.length = len) (hle : len ≤ 9223372036854775807) :
    Sp Try.prog 26 ([.agg (gE g).toArray] ++ #[Value.pointer (some ⟨b, 0, none⟩)].toList) w [] fun v N => v = .bool (decide (g.2.2 ∈ l)) ∧ N = [] := by
  refine Sp.enter (n := 8) Try.func26 rfl rfl rfl (Hp.refl w) ?_
  repeat' (first
      | with_reducible refine T.seq ?_
      | with_reducible refine T.block ?_
      | with_reducible refine T.region ?_
      | with_reducible refine T.skip ?_
      | with_reducible refine T.scope ?_
      | with_reducible refine T.label ?_
      | with_reducible refine scopeQ_n ?_
      | with_reducible refine scopeQ_r ?_
      | with_reducible refine scopeQ_x ?_
      | with_reducible refine T.ret ?_
      | with_reducible refine T.exit ?_
      | with_reducible refine seqQ_n ?_
      | with_reducible refine seqQ_x ?_
      | with_reducible refine seqQ_r ?_
      | with_reducible refine blockQ_n ?_
      | with_reducible refine blockQ_r ?_
      | with_reducible refine blockQ_x ?_
      | ((with_reducible refine g_blkx ?_); refine blockQ_y rfl ?_)
      | with_reducible refine loopQ_x ?_
      | with_reducible refine loopQ_r ?_
      | with_reducible refine joinQ_r ?_
      | with_reducible refine joinQ_x ?_
      | ((with_reducible refine g_cond ?_); (first | refine T.cond_t rfl ?_ | refine T.cond_f rfl ?_ | (refine T.cond_s rfl ?_ ?_ <;> intro hc)))
      | with_reducible refine TL_nil ?_
      | with_reducible refine TS_nil ?_
      | ((with_reducible refine TL_y' ?hy ?hd ?_); (case hy => rfl); (case hd => rfl))
      | with_reducible refine TL_e ?_
      | ((with_reducible refine g_TL ?_); (first | refine TL_gy' rfl rfl rfl rfl ?_ | refine TL_gn rfl rfl rfl ?_ | refine TL_gu rfl rfl rfl ?_ | refine TL_ge rfl rfl ?_ | refine TL_gn0 rfl rfl ?_))
      | ((with_reducible refine g_TS ?_); (first | refine TS_y rfl rfl ?_ | refine TS_e rfl ?_ | refine TS_gy rfl rfl rfl rfl ?_ | refine TS_gn rfl rfl rfl rfl ?_ | refine TS_gu rfl rfl rfl rfl ?_ | refine TS_ge rfl rfl rfl ?_ | refine TS_gne rfl rfl rfl rfl ?_ | refine TS_gue rfl rfl rfl rfl ?_ | refine TS_gne0 rfl rfl rfl ?_))
      | ((with_reducible refine TSand ?hd ?_); (case hd => (repeat (first | exact List.nil_sublist _ | refine List.Sublist.cons_cons _ ?_ | refine List.Sublist.cons _ ?_))))
      | ((with_reducible refine TBand ?hd ?_); (case hd => (repeat (first | exact List.nil_sublist _ | refine List.Sublist.cons_cons _ ?_ | refine List.Sublist.cons _ ?_))))
      | ((with_reducible refine g_TB ?_); (first | with_reducible refine TB_run ?_ | refine TB_y rfl rfl ?_ | refine TB_b rfl rfl ?_ ?_ | refine TB_e rfl ?_))
      | ((with_reducible refine is_assign ?_); refine ⟨_, Yl_assign rfl, ?_⟩)
      | ((with_reducible refine is_fld ?_); (first | ((refine' ⟨_, Yl_fld_ad rfl ?q1, ?_⟩); (case q1 => exact fld_of rfl rfl)) | ((refine' ⟨_, Yl_fld_blk0 rfl ?q1, ?_⟩); (case q1 => exact fld_of rfl rfl)) | ((refine' ⟨_, Yl_fld_blk rfl ?q1, ?_⟩); (case q1 => exact fld_of rfl rfl))))
      | ((with_reducible refine is_load ?_); (first
      | ((refine' ⟨_, Yl_load_old rfl ?q1 hb List.not_mem_nil ?q2, ?_⟩); (case q1 => exact one_of rfl); (case q2 => rfl))
      | ((refine' ⟨_, Yl_load_blk rfl ?q1 ?q2 ?q3, ?_⟩); (case q1 => exact one_of rfl); (case q2 => (repeat (first | exact .head _ | apply List.Mem.tail))); (case q3 => rfl))
      | ((refine' ⟨_, Yl_loadA_blk rfl ?q1 ?q2, ?_⟩); (case q1 => (repeat (first | exact .head _ | apply List.Mem.tail))); (case q2 => exact agg_of rfl))
      | ((refine' ⟨_, Yl_load_blk rfl ?q1 ?q2 ?q3, ?_⟩); (case q1 => exact one_of rfl); (case q2 => (repeat (first | exact .head _ | apply List.Mem.tail))); (case q3 => assumption))
      | ((refine' ⟨_, Yl_load_rd rfl ?q1 ?q2 List.not_mem_nil ?q3, ?_⟩); (case q1 => exact one_of rfl); (case q2 => assumption); (case q3 => assumption))
      | ((refine' ⟨_, Yl_load_row rfl ?q1 ?q2 ?q3, ?_⟩); (case q1 => exact one_of rfl); (case q2 => (repeat (first | exact .head _ | apply List.Mem.tail))); (case q3 => assumption))
      | ((refine' ⟨_, Yl_loadA_rd rfl ?qa ?qb List.not_mem_nil ?ql ?qc, ?_⟩); (case qa => exact agg_of rfl); (case qb => assumption); (case qc => assumption); (case ql => rfl))
      | ((refine' ⟨_, Yl_loadA_row rfl ?qa ?qb ?ql ?qc, ?_⟩); (case qa => exact agg_of rfl); (case qb => (repeat (first | exact .head _ | apply List.Mem.tail))); (case qc => assumption); (case ql => rfl))))
      | ((with_reducible refine ie_callf ?_); (first | ((with_reducible refine g_call 15 ?_); (first | refine Ef_callP rfl rfl ent_15 (fun w hp => has_c A len cap l g.2.2 w (hp.rd hr fun _ => List.not_mem_nil) hl hle) ?_))))
      | ((first | ((with_reducible refine ie_box ?_); (first | refine Ef_boxA rfl rfl ?_ | refine Ef_box1 rfl rfl rfl ?_))); (first | ((fail_if_success have := b1); intro b1) | ((fail_if_success have := b2); intro b2) | ((fail_if_success have := b3); intro b3) | ((fail_if_success have := b4); intro b4) | ((fail_if_success have := b5); intro b5) | ((fail_if_success have := b6); intro b6) | ((fail_if_success have := b7); intro b7) | ((fail_if_success have := b8); intro b8) | ((fail_if_success have := b9); intro b9) | ((fail_if_success have := b10); intro b10) | ((fail_if_success have := b11); intro b11) | ((fail_if_success have := b12); intro b12)))
      | (fail; (first | ((fail_if_success have := A1); intro A1 c1) | ((fail_if_success have := A2); intro A2 c2) | ((fail_if_success have := A3); intro A3 c3) | ((fail_if_success have := A4); intro A4 c4) | ((fail_if_success have := A5); intro A5 c5) | ((fail_if_success have := A6); intro A6 c6) | ((fail_if_success have := A7); intro A7 c7)))
      | refine Ef_y rfl rfl ?_)
  exact ret_n [] (res1 rfl rfl) (List.nil_sublist _) ⟨rfl, rfl⟩
theorem any_c (B : Option Addr) (lenb capb : Nat) (m : List G) (w : World) (hr : Rd w A len 1 (l.flatMap (eI .i64))) (hl : l.length = len) (hle : len ≤ 9223372036854775807) (hrb : Rd w B lenb 3 (m.flatMap gE)) (hlb : m.length = lenb) (hleb : lenb ≤ 9223372036854775807) :
    Sp Try.prog 17 [.slice A len cap, .slice B lenb capb] w [] fun v N => v = .bool (m.any fun g => decide (g.2.2 ∈ l)) ∧ N = [] := by
  refine Sp.enter (n := 8) Try.func17 rfl rfl rfl (Hp.refl w) ?_
  repeat' (first
      | with_reducible refine T.seq ?_
      | with_reducible refine T.block ?_
      | with_reducible refine T.region ?_
      | with_reducible refine T.skip ?_
      | with_reducible refine T.scope ?_
      | with_reducible refine T.label ?_
      | with_reducible refine scopeQ_n ?_
      | with_reducible refine scopeQ_r ?_
      | with_reducible refine scopeQ_x ?_
      | with_reducible refine T.ret ?_
      | with_reducible refine T.exit ?_
      | with_reducible refine seqQ_n ?_
      | with_reducible refine seqQ_x ?_
      | with_reducible refine seqQ_r ?_
      | with_reducible refine blockQ_n ?_
      | with_reducible refine blockQ_r ?_
      | with_reducible refine blockQ_x ?_
      | ((with_reducible refine g_blkx ?_); refine blockQ_y rfl ?_)
      | with_reducible refine loopQ_x ?_
      | with_reducible refine loopQ_r ?_
      | with_reducible refine joinQ_r ?_
      | with_reducible refine joinQ_x ?_
      | ((with_reducible refine g_cond ?_); (first | refine T.cond_t rfl ?_ | refine T.cond_f rfl ?_ | (refine T.cond_s rfl ?_ ?_ <;> intro hc)))
      | with_reducible refine TL_nil ?_
      | with_reducible refine TS_nil ?_
      | ((with_reducible refine TL_y' ?hy ?hd ?_); (case hy => rfl); (case hd => rfl))
      | with_reducible refine TL_e ?_
      | ((with_reducible refine g_TL ?_); (first | refine TL_gy' rfl rfl rfl rfl ?_ | refine TL_gn rfl rfl rfl ?_ | refine TL_gu rfl rfl rfl ?_ | refine TL_ge rfl rfl ?_ | refine TL_gn0 rfl rfl ?_))
      | ((with_reducible refine g_TS ?_); (first | refine TS_y rfl rfl ?_ | refine TS_e rfl ?_ | refine TS_gy rfl rfl rfl rfl ?_ | refine TS_gn rfl rfl rfl rfl ?_ | refine TS_gu rfl rfl rfl rfl ?_ | refine TS_ge rfl rfl rfl ?_ | refine TS_gne rfl rfl rfl rfl ?_ | refine TS_gue rfl rfl rfl rfl ?_ | refine TS_gne0 rfl rfl rfl ?_))
      | ((with_reducible refine TSand ?hd ?_); (case hd => (repeat (first | exact List.nil_sublist _ | refine List.Sublist.cons_cons _ ?_ | refine List.Sublist.cons _ ?_))))
      | ((with_reducible refine TBand ?hd ?_); (case hd => (repeat (first | exact List.nil_sublist _ | refine List.Sublist.cons_cons _ ?_ | refine List.Sublist.cons _ ?_))))
      | ((with_reducible refine g_TB ?_); (first | with_reducible refine TB_run ?_ | refine TB_y rfl rfl ?_ | refine TB_b rfl rfl ?_ ?_ | refine TB_e rfl ?_))
      | ((with_reducible refine is_move ?_); refine ⟨_, Yl_move rfl, ?_⟩)
      | ((with_reducible refine is_assign ?_); refine ⟨_, Yl_assign rfl, ?_⟩)
      | ((with_reducible refine is_mkf ?_); refine ⟨_, Yl_mkf rfl, ?_⟩)
      | ((with_reducible refine ie_callf ?_); (first    | ((with_reducible refine g_call 25 ?_); (first | ((refine' Ef_callP rfl rfl ent_25 (fun w1 hp => containsf_c 26 #[.pointer (some ⟨b1, 0, none⟩)] (fun g => decide (g.2.2 ∈ l)) B lenb capb m ent_26 w1 (fun w' hp' x _ => any1_c A len cap l b1 x w' (hp'.keep_blk hp ?q1) (hp'.keep_rd hp hr) hl hle) (hp.rd hrb fun _ => List.not_mem_nil) hlb hleb) ?_); (case q1 => (repeat (first | exact .head _ | apply List.Mem.tail))))))))
      | ((first | ((with_reducible refine ie_box ?_); (first | refine Ef_boxA rfl rfl ?_ | refine Ef_box1 rfl rfl rfl ?_))); (first | ((fail_if_success have := b1); intro b1) | ((fail_if_success have := b2); intro b2) | ((fail_if_success have := b3); intro b3) | ((fail_if_success have := b4); intro b4) | ((fail_if_success have := b5); intro b5) | ((fail_if_success have := b6); intro b6) | ((fail_if_success have := b7); intro b7) | ((fail_if_success have := b8); intro b8) | ((fail_if_success have := b9); intro b9) | ((fail_if_success have := b10); intro b10) | ((fail_if_success have := b11); intro b11) | ((fail_if_success have := b12); intro b12)))
      | (fail; (first | ((fail_if_success have := A1); intro A1 c1) | ((fail_if_success have := A2); intro A2 c2) | ((fail_if_success have := A3); intro A3 c3) | ((fail_if_success have := A4); intro A4 c4) | ((fail_if_success have := A5); intro A5 c5) | ((fail_if_success have := A6); intro A6 c6) | ((fail_if_success have := A7); intro A7 c7)))
      | refine Ef_y rfl rfl ?_)
  exact ret_n [] (res1 rfl rfl) (List.nil_sublist _) ⟨rfl, rfl⟩
theorem rany_c (B : Option Addr) (lenb capb : Nat) (m : List G) (w : World) (hr : Rd w A len 1 (l.flatMap (eI .i64))) (hl : l.length = len) (hle : len ≤ 9223372036854775807) (hrb : Rd w B lenb 3 (m.flatMap gE)) (hlb : m.length = lenb) (hleb : lenb ≤ 9223372036854775807) :
    Sp Try.prog 18 [.slice A len cap, .slice B lenb capb] w [] fun v N => v = .bool (m.any fun g => decide (g.2.2 ∈ l)) ∧ N = [] := by
  refine Sp.enter (n := 19) Try.func18 rfl rfl rfl (Hp.refl w) ?_
  repeat' (first
      | with_reducible refine T.seq ?_
      | with_reducible refine T.block ?_
      | with_reducible refine T.region ?_
      | with_reducible refine T.skip ?_
      | with_reducible refine T.scope ?_
      | with_reducible refine T.label ?_
      | with_reducible refine scopeQ_n ?_
      | with_reducible refine scopeQ_r ?_
      | with_reducible refine scopeQ_x ?_
      | with_reducible refine T.ret ?_
      | with_reducible refine T.exit ?_
      | with_reducible refine seqQ_n ?_
      | with_reducible refine seqQ_x ?_
      | with_reducible refine seqQ_r ?_
      | with_reducible refine blockQ_n ?_
      | with_reducible refine blockQ_r ?_
      | with_reducible refine blockQ_x ?_
      | ((with_reducible refine g_blkx ?_); refine blockQ_y rfl ?_)
      | with_reducible refine loopQ_x ?_
      | with_reducible refine loopQ_r ?_
      | with_reducible refine joinQ_r ?_
      | with_reducible refine joinQ_x ?_
      | ((with_reducible refine g_cond ?_); (first | refine T.cond_t rfl ?_ | refine T.cond_f rfl ?_ | (refine T.cond_s rfl ?_ ?_ <;> intro hc)))
      | with_reducible refine TL_nil ?_
      | with_reducible refine TS_nil ?_
      | ((with_reducible refine TL_y' ?hy ?hd ?_); (case hy => rfl); (case hd => rfl))
      | with_reducible refine TL_e ?_
      | ((with_reducible refine g_TL ?_); (first | refine TL_gy' rfl rfl rfl rfl ?_ | refine TL_gn rfl rfl rfl ?_ | refine TL_gu rfl rfl rfl ?_ | refine TL_ge rfl rfl ?_ | refine TL_gn0 rfl rfl ?_))
      | ((with_reducible refine g_TS ?_); (first | refine TS_y rfl rfl ?_ | refine TS_e rfl ?_ | refine TS_gy rfl rfl rfl rfl ?_ | refine TS_gn rfl rfl rfl rfl ?_ | refine TS_gu rfl rfl rfl rfl ?_ | refine TS_ge rfl rfl rfl ?_ | refine TS_gne rfl rfl rfl rfl ?_ | refine TS_gue rfl rfl rfl rfl ?_ | refine TS_gne0 rfl rfl rfl ?_))
      | ((with_reducible refine TSand ?hd ?_); (case hd => (repeat (first | exact List.nil_sublist _ | refine List.Sublist.cons_cons _ ?_ | refine List.Sublist.cons _ ?_))))
      | ((with_reducible refine TBand ?hd ?_); (case hd => (repeat (first | exact List.nil_sublist _ | refine List.Sublist.cons_cons _ ?_ | refine List.Sublist.cons _ ?_))))
      | ((with_reducible refine g_TB ?_); (first | with_reducible refine TB_run ?_ | refine TB_y rfl rfl ?_ | refine TB_b rfl rfl ?_ ?_ | refine TB_e rfl ?_))
      | ((with_reducible refine is_move ?_); refine ⟨_, Yl_move rfl, ?_⟩)
      | ((with_reducible refine is_assign ?_); refine ⟨_, Yl_assign rfl, ?_⟩)
      | ((with_reducible refine is_fld ?_); (first | ((refine' ⟨_, Yl_fld_ad rfl ?q1, ?_⟩); (case q1 => exact fld_of rfl rfl)) | ((refine' ⟨_, Yl_fld_blk0 rfl ?q1, ?_⟩); (case q1 => exact fld_of rfl rfl)) | ((refine' ⟨_, Yl_fld_blk rfl ?q1, ?_⟩); (case q1 => exact fld_of rfl rfl))))
      | ((with_reducible refine is_load ?_); (first
      | ((refine' ⟨_, Yl_load_old rfl ?q1 hb List.not_mem_nil ?q2, ?_⟩); (case q1 => exact one_of rfl); (case q2 => rfl))
      | ((refine' ⟨_, Yl_load_blk rfl ?q1 ?q2 ?q3, ?_⟩); (case q1 => exact one_of rfl); (case q2 => (repeat (first | exact .head _ | apply List.Mem.tail))); (case q3 => rfl))
      | ((refine' ⟨_, Yl_loadA_blk rfl ?q1 ?q2, ?_⟩); (case q1 => (repeat (first | exact .head _ | apply List.Mem.tail))); (case q2 => exact agg_of rfl))
      | ((refine' ⟨_, Yl_load_blk rfl ?q1 ?q2 ?q3, ?_⟩); (case q1 => exact one_of rfl); (case q2 => (repeat (first | exact .head _ | apply List.Mem.tail))); (case q3 => assumption))
      | ((refine' ⟨_, Yl_load_rd rfl ?q1 ?q2 List.not_mem_nil ?q3, ?_⟩); (case q1 => exact one_of rfl); (case q2 => assumption); (case q3 => assumption))
      | ((refine' ⟨_, Yl_load_row rfl ?q1 ?q2 ?q3, ?_⟩); (case q1 => exact one_of rfl); (case q2 => (repeat (first | exact .head _ | apply List.Mem.tail))); (case q3 => assumption))
      | ((refine' ⟨_, Yl_loadA_rd rfl ?qa ?qb List.not_mem_nil ?ql ?qc, ?_⟩); (case qa => exact agg_of rfl); (case qb => assumption); (case qc => assumption); (case ql => rfl))
      | ((refine' ⟨_, Yl_loadA_row rfl ?qa ?qb ?ql ?qc, ?_⟩); (case qa => exact agg_of rfl); (case qb => (repeat (first | exact .head _ | apply List.Mem.tail))); (case qc => assumption); (case ql => rfl))))
      | ((with_reducible refine is_idx ?_); (first
      | ((refine' ⟨_, Yl_index rfl rfl ?q1 ?q2 ?q3 (Rd.some_ ?q4 ?q5), ?_⟩); (case q1 => exact und_of rfl); (case q2 => exact siz_of rfl); (case q3 => omega); (case q4 => assumption); (case q5 => omega))
      | ((refine' ⟨_, Yl_index_row rfl rfl ?q1 ?q2 ?q3 ?q4, ?_⟩); (case q1 => exact und_of rfl); (case q2 => exact siz_of rfl); (case q3 => omega); (case q4 => (repeat (first | exact .head _ | apply List.Mem.tail))))
      | ((refine' ⟨_, Yl_index rfl rfl ?q1 ?q2 ?q3 rfl, ?_⟩); (case q1 => exact und_of rfl); (case q2 => exact siz_of rfl); (case q3 => omega))
      | ((refine' ⟨_, Yl_index (j := 0) rfl rfl ?q1 ?q2 ?q3 (Rd.some_ ?q4 ?q5), ?_⟩); (case q1 => exact und_of rfl); (case q2 => exact siz_of rfl); (case q3 => omega); (case q4 => assumption); (case q5 => omega))
      | ((refine' ⟨_, Yl_index_row (j := 0) rfl rfl ?q1 ?q2 ?q3 ?q4, ?_⟩); (case q1 => exact und_of rfl); (case q2 => exact siz_of rfl); (case q3 => omega); (case q4 => (repeat (first | exact .head _ | apply List.Mem.tail))))
      | ((refine' ⟨_, Yl_indexI rfl rfl ?q1 ?q2 ?q3 ?q4 (Rd.some_ ?q5 ?q6), ?_⟩); (case q1 => exact und_of rfl); (case q2 => exact siz_of rfl); (case q3 => omega); (case q4 => omega); (case q5 => assumption); (case q6 => omega))))
      | ((with_reducible refine is_len ?_); (first | ((refine' ⟨_, Yl_len_slice rfl ?q1, ?_⟩); (case q1 => exact und_of rfl)) | ((refine' ⟨_, Yl_len_string rfl ?q1, ?_⟩); (case q1 => exact und_of rfl))))
      | ((with_reducible refine is_b_lss ?_); (first | ((refine' ⟨_, Yl_lss_t rfl rfl ?q1, ?_⟩); (case q1 => omega)) | ((refine' ⟨_, Yl_lss_f rfl rfl ?q1, ?_⟩); (case q1 => omega)) | (refine sp_lss rfl rfl ?_ ?_ <;> intro hc)))
      | ((with_reducible refine is_b_add ?_); (first | ((refine' ⟨_, Yl_add rfl rfl ?q1 ?q2, ?_⟩); (case q1 => omega); (case q2 => omega)) | ((refine' ⟨_, Yl_add8 rfl rfl ?q1 ?q2, ?_⟩); (case q1 => omega); (case q2 => omega))))
      | ((with_reducible refine ie_callf ?_); (first  | ((with_reducible refine g_call 16 ?_); (first | refine Ef_callP rfl rfl ent_16 (fun w hp => rhas_v A len cap l x.2.2 true w (hp.rd hr fun _ => List.not_mem_nil) hl hle hpx) ?_ | refine Ef_callP rfl rfl ent_16 (fun w hp => rhas_v A len cap l x.2.2 false w (hp.rd hr fun _ => List.not_mem_nil) hl hle hpx) ?_))))
      | (fail; (first | ((fail_if_success have := b1); intro b1) | ((fail_if_success have := b2); intro b2) | ((fail_if_success have := b3); intro b3) | ((fail_if_success have := b4); intro b4) | ((fail_if_success have := b5); intro b5) | ((fail_if_success have := b6); intro b6) | ((fail_if_success have := b7); intro b7) | ((fail_if_success have := b8); intro b8) | ((fail_if_success have := b9); intro b9) | ((fail_if_success have := b10); intro b10) | ((fail_if_success have := b11); intro b11) | ((fail_if_success have := b12); intro b12)))
      | (fail; (first | ((fail_if_success have := A1); intro A1 c1) | ((fail_if_success have := A2); intro A2 c2) | ((fail_if_success have := A3); intro A3 c3) | ((fail_if_success have := A4); intro A4 c4) | ((fail_if_success have := A5); intro A5 c5) | ((fail_if_success have := A6); intro A6 c6) | ((fail_if_success have := A7); intro A7 c7)))
      | refine Ef_y rfl rfl ?_)
  refine T.loop (α := Nat) (fun i => [(0, .slice A len cap), (1, .slice B lenb capb), (5, .int .i64 (i : Int))]) (fun _ => []) (fun i => i ≤ lenb ∧ ∀ y ∈ m.take i, decide (y.2.2 ∈ l) = false) (fun i => lenb - i) 0 ?_ ?_ ?_ ?_
  · (repeat (first | exact Sub.nil | refine Sub.cons rfl ?_))
  · (repeat (first | exact List.nil_sublist _ | refine List.Sublist.cons_cons _ ?_ | refine List.Sublist.cons _ ?_))
  · exact ⟨Nat.zero_le _, by simp⟩
  · rintro i ⟨hi, hno⟩
    by_cases hlt : i < lenb
    · obtain ⟨x, hx⟩ := some_of_lt (l := m) (i := i) (by omega)
      have e2 : (m.flatMap gE)[i * 3 + 2]? = some (.int .i64 x.2.2) := enc_at gE_len hx (by omega)
      cases hpx : decide (x.2.2 ∈ l) with
      | true =>
        rw [show (m.any fun g => decide (g.2.2 ∈ l)) = true from List.any_eq_true.2 ⟨x, mem_of_some hx, hpx⟩]
        repeat' (first
            | with_reducible refine T.seq ?_
            | with_reducible refine T.block ?_
            | with_reducible refine T.region ?_
            | with_reducible refine T.skip ?_
            | with_reducible refine T.scope ?_
            | with_reducible refine T.label ?_
            | with_reducible refine scopeQ_n ?_
            | with_reducible refine scopeQ_r ?_
            | with_reducible refine scopeQ_x ?_
            | with_reducible refine T.ret ?_
            | with_reducible refine T.exit ?_
            | with_reducible refine seqQ_n ?_
            | with_reducible refine seqQ_x ?_
            | with_reducible refine seqQ_r ?_
            | with_reducible refine blockQ_n ?_
            | with_reducible refine blockQ_r ?_
            | with_reducible refine blockQ_x ?_
            | ((with_reducible refine g_blkx ?_); refine blockQ_y rfl ?_)
            | with_reducible refine loopQ_x ?_
            | with_reducible refine loopQ_r ?_
            | with_reducible refine joinQ_r ?_
            | with_reducible refine joinQ_x ?_
            | ((with_reducible refine g_cond ?_); (first | refine T.cond_t rfl ?_ | refine T.cond_f rfl ?_ | (refine T.cond_s rfl ?_ ?_ <;> intro hc)))
            | with_reducible refine TL_nil ?_
            | with_reducible refine TS_nil ?_
            | ((with_reducible refine TL_y' ?hy ?hd ?_); (case hy => rfl); (case hd => rfl))
            | with_reducible refine TL_e ?_
            | ((with_reducible refine g_TL ?_); (first | refine TL_gy' rfl rfl rfl rfl ?_ | refine TL_gn rfl rfl rfl ?_ | refine TL_gu rfl rfl rfl ?_ | refine TL_ge rfl rfl ?_ | refine TL_gn0 rfl rfl ?_))
            | ((with_reducible refine g_TS ?_); (first | refine TS_y rfl rfl ?_ | refine TS_e rfl ?_ | refine TS_gy rfl rfl rfl rfl ?_ | refine TS_gn rfl rfl rfl rfl ?_ | refine TS_gu rfl rfl rfl rfl ?_ | refine TS_ge rfl rfl rfl ?_ | refine TS_gne rfl rfl rfl rfl ?_ | refine TS_gue rfl rfl rfl rfl ?_ | refine TS_gne0 rfl rfl rfl ?_))
            | ((with_reducible refine TSand ?hd ?_); (case hd => (repeat (first | exact List.nil_sublist _ | refine List.Sublist.cons_cons _ ?_ | refine List.Sublist.cons _ ?_))))
            | ((with_reducible refine TBand ?hd ?_); (case hd => (repeat (first | exact List.nil_sublist _ | refine List.Sublist.cons_cons _ ?_ | refine List.Sublist.cons _ ?_))))
            | ((with_reducible refine g_TB ?_); (first | with_reducible refine TB_run ?_ | refine TB_y rfl rfl ?_ | refine TB_b rfl rfl ?_ ?_ | refine TB_e rfl ?_))
            | ((with_reducible refine is_move ?_); refine ⟨_, Yl_move rfl, ?_⟩)
            | ((with_reducible refine is_assign ?_); refine ⟨_, Yl_assign rfl, ?_⟩)
            | ((with_reducible refine is_fld ?_); (first | ((refine' ⟨_, Yl_fld_ad rfl ?q1, ?_⟩); (case q1 => exact fld_of rfl rfl)) | ((refine' ⟨_, Yl_fld_blk0 rfl ?q1, ?_⟩); (case q1 => exact fld_of rfl rfl)) | ((refine' ⟨_, Yl_fld_blk rfl ?q1, ?_⟩); (case q1 => exact fld_of rfl rfl))))
            | ((with_reducible refine is_load ?_); (first
            | ((refine' ⟨_, Yl_load_old rfl ?q1 hb List.not_mem_nil ?q2, ?_⟩); (case q1 => exact one_of rfl); (case q2 => rfl))
            | ((refine' ⟨_, Yl_load_blk rfl ?q1 ?q2 ?q3, ?_⟩); (case q1 => exact one_of rfl); (case q2 => (repeat (first | exact .head _ | apply List.Mem.tail))); (case q3 => rfl))
            | ((refine' ⟨_, Yl_loadA_blk rfl ?q1 ?q2, ?_⟩); (case q1 => (repeat (first | exact .head _ | apply List.Mem.tail))); (case q2 => exact agg_of rfl))
            | ((refine' ⟨_, Yl_load_blk rfl ?q1 ?q2 ?q3, ?_⟩); (case q1 => exact one_of rfl); (case q2 => (repeat (first | exact .head _ | apply List.Mem.tail))); (case q3 => assumption))
            | ((refine' ⟨_, Yl_load_rd rfl ?q1 ?q2 List.not_mem_nil ?q3, ?_⟩); (case q1 => exact one_of rfl); (case q2 => assumption); (case q3 => assumption))
            | ((refine' ⟨_, Yl_load_row rfl ?q1 ?q2 ?q3, ?_⟩); (case q1 => exact one_of rfl); (case q2 => (repeat (first | exact .head _ | apply List.Mem.tail))); (case q3 => assumption))
            | ((refine' ⟨_, Yl_loadA_rd rfl ?qa ?qb List.not_mem_nil ?ql ?qc, ?_⟩); (case qa => exact agg_of rfl); (case qb => assumption); (case qc => assumption); (case ql => rfl))
            | ((refine' ⟨_, Yl_loadA_row rfl ?qa ?qb ?ql ?qc, ?_⟩); (case qa => exact agg_of rfl); (case qb => (repeat (first | exact .head _ | apply List.Mem.tail))); (case qc => assumption); (case ql => rfl))))
            | ((with_reducible refine is_idx ?_); (first
            | ((refine' ⟨_, Yl_index rfl rfl ?q1 ?q2 ?q3 (Rd.some_ ?q4 ?q5), ?_⟩); (case q1 => exact und_of rfl); (case q2 => exact siz_of rfl); (case q3 => omega); (case q4 => assumption); (case q5 => omega))
            | ((refine' ⟨_, Yl_index_row rfl rfl ?q1 ?q2 ?q3 ?q4, ?_⟩); (case q1 => exact und_of rfl); (case q2 => exact siz_of rfl); (case q3 => omega); (case q4 => (repeat (first | exact .head _ | apply List.Mem.tail))))
            | ((refine' ⟨_, Yl_index rfl rfl ?q1 ?q2 ?q3 rfl, ?_⟩); (case q1 => exact und_of rfl); (case q2 => exact siz_of rfl); (case q3 => omega))
            | ((refine' ⟨_, Yl_index (j := 0) rfl rfl ?q1 ?q2 ?q3 (Rd.some_ ?q4 ?q5), ?_⟩); (case q1 => exact und_of rfl); (case q2 => exact siz_of rfl); (case q3 => omega); (case q4 => assumption); (case q5 => omega))
            | ((refine' ⟨_, Yl_index_row (j := 0) rfl rfl ?q1 ?q2 ?q3 ?q4, ?_⟩); (case q1 => exact und_of rfl); (case q2 => exact siz_of rfl); (case q3 => omega); (case q4 => (repeat (first | exact .head _ | apply List.Mem.tail))))
            | ((refine' ⟨_, Yl_indexI rfl rfl ?q1 ?q2 ?q3 ?q4 (Rd.some_ ?q5 ?q6), ?_⟩); (case q1 => exact und_of rfl); (case q2 => exact siz_of rfl); (case q3 => omega); (case q4 => omega); (case q5 => assumption); (case q6 => omega))))
            | ((with_reducible refine is_len ?_); (first | ((refine' ⟨_, Yl_len_slice rfl ?q1, ?_⟩); (case q1 => exact und_of rfl)) | ((refine' ⟨_, Yl_len_string rfl ?q1, ?_⟩); (case q1 => exact und_of rfl))))
            | ((with_reducible refine is_b_lss ?_); (first | ((refine' ⟨_, Yl_lss_t rfl rfl ?q1, ?_⟩); (case q1 => omega)) | ((refine' ⟨_, Yl_lss_f rfl rfl ?q1, ?_⟩); (case q1 => omega)) | (refine sp_lss rfl rfl ?_ ?_ <;> intro hc)))
            | ((with_reducible refine is_b_add ?_); (first | ((refine' ⟨_, Yl_add rfl rfl ?q1 ?q2, ?_⟩); (case q1 => omega); (case q2 => omega)) | ((refine' ⟨_, Yl_add8 rfl rfl ?q1 ?q2, ?_⟩); (case q1 => omega); (case q2 => omega))))
            | ((with_reducible refine ie_callf ?_); (first  | ((with_reducible refine g_call 16 ?_); (first | refine Ef_callP rfl rfl ent_16 (fun w hp => rhas_v A len cap l x.2.2 true w (hp.rd hr fun _ => List.not_mem_nil) hl hle hpx) ?_ | refine Ef_callP rfl rfl ent_16 (fun w hp => rhas_v A len cap l x.2.2 false w (hp.rd hr fun _ => List.not_mem_nil) hl hle hpx) ?_))))
            | (fail; (first | ((fail_if_success have := b1); intro b1) | ((fail_if_success have := b2); intro b2) | ((fail_if_success have := b3); intro b3) | ((fail_if_success have := b4); intro b4) | ((fail_if_success have := b5); intro b5) | ((fail_if_success have := b6); intro b6) | ((fail_if_success have := b7); intro b7) | ((fail_if_success have := b8); intro b8) | ((fail_if_success have := b9); intro b9) | ((fail_if_success have := b10); intro b10) | ((fail_if_success have := b11); intro b11) | ((fail_if_success have := b12); intro b12)))
            | (fail; (first | ((fail_if_success have := A1); intro A1 c1) | ((fail_if_success have := A2); intro A2 c2) | ((fail_if_success have := A3); intro A3 c3) | ((fail_if_success have := A4); intro A4 c4) | ((fail_if_success have := A5); intro A5 c5) | ((fail_if_success have := A6); intro A6 c6) | ((fail_if_success have := A7); intro A7 c7)))
            | refine Ef_y rfl rfl ?_)
        exact ret_n [] (res1 rfl rfl) (List.nil_sublist _) ⟨rfl, rfl⟩
      | false =>
        repeat' (first
            | with_reducible refine T.seq ?_
            | with_reducible refine T.block ?_
            | with_reducible refine T.region ?_
            | with_reducible refine T.skip ?_
            | with_reducible refine T.scope ?_
            | with_reducible refine T.label ?_
            | with_reducible refine scopeQ_n ?_
            | with_reducible refine scopeQ_r ?_
            | with_reducible refine scopeQ_x ?_
            | with_reducible refine T.ret ?_
            | with_reducible refine T.exit ?_
            | with_reducible refine seqQ_n ?_
            | with_reducible refine seqQ_x ?_
            | with_reducible refine seqQ_r ?_
            | with_reducible refine blockQ_n ?_
            | with_reducible refine blockQ_r ?_
            | with_reducible refine blockQ_x ?_
            | ((with_reducible refine g_blkx ?_); refine blockQ_y rfl ?_)
            | with_reducible refine loopQ_x ?_
            | with_reducible refine loopQ_r ?_
            | with_reducible refine joinQ_r ?_
            | with_reducible refine joinQ_x ?_
            | ((with_reducible refine g_cond ?_); (first | refine T.cond_t rfl ?_ | refine T.cond_f rfl ?_ | (refine T.cond_s rfl ?_ ?_ <;> intro hc)))
            | with_reducible refine TL_nil ?_
            | with_reducible refine TS_nil ?_
            | ((with_reducible refine TL_y' ?hy ?hd ?_); (case hy => rfl); (case hd => rfl))
            | with_reducible refine TL_e ?_
            | ((with_reducible refine g_TL ?_); (first | refine TL_gy' rfl rfl rfl rfl ?_ | refine TL_gn rfl rfl rfl ?_ | refine TL_gu rfl rfl rfl ?_ | refine TL_ge rfl rfl ?_ | refine TL_gn0 rfl rfl ?_))
            | ((with_reducible refine g_TS ?_); (first | refine TS_y rfl rfl ?_ | refine TS_e rfl ?_ | refine TS_gy rfl rfl rfl rfl ?_ | refine TS_gn rfl rfl rfl rfl ?_ | refine TS_gu rfl rfl rfl rfl ?_ | refine TS_ge rfl rfl rfl ?_ | refine TS_gne rfl rfl rfl rfl ?_ | refine TS_gue rfl rfl rfl rfl ?_ | refine TS_gne0 rfl rfl rfl ?_))
            | ((with_reducible refine TSand ?hd ?_); (case hd => (repeat (first | exact List.nil_sublist _ | refine List.Sublist.cons_cons _ ?_ | refine List.Sublist.cons _ ?_))))
            | ((with_reducible refine TBand ?hd ?_); (case hd => (repeat (first | exact List.nil_sublist _ | refine List.Sublist.cons_cons _ ?_ | refine List.Sublist.cons _ ?_))))
            | ((with_reducible refine g_TB ?_); (first | with_reducible refine TB_run ?_ | refine TB_y rfl rfl ?_ | refine TB_b rfl rfl ?_ ?_ | refine TB_e rfl ?_))
            | ((with_reducible refine is_move ?_); refine ⟨_, Yl_move rfl, ?_⟩)
            | ((with_reducible refine is_assign ?_); refine ⟨_, Yl_assign rfl, ?_⟩)
            | ((with_reducible refine is_fld ?_); (first | ((refine' ⟨_, Yl_fld_ad rfl ?q1, ?_⟩); (case q1 => exact fld_of rfl rfl)) | ((refine' ⟨_, Yl_fld_blk0 rfl ?q1, ?_⟩); (case q1 => exact fld_of rfl rfl)) | ((refine' ⟨_, Yl_fld_blk rfl ?q1, ?_⟩); (case q1 => exact fld_of rfl rfl))))
            | ((with_reducible refine is_load ?_); (first
            | ((refine' ⟨_, Yl_load_old rfl ?q1 hb List.not_mem_nil ?q2, ?_⟩); (case q1 => exact one_of rfl); (case q2 => rfl))
            | ((refine' ⟨_, Yl_load_blk rfl ?q1 ?q2 ?q3, ?_⟩); (case q1 => exact one_of rfl); (case q2 => (repeat (first | exact .head _ | apply List.Mem.tail))); (case q3 => rfl))
            | ((refine' ⟨_, Yl_loadA_blk rfl ?q1 ?q2, ?_⟩); (case q1 => (repeat (first | exact .head _ | apply List.Mem.tail))); (case q2 => exact agg_of rfl))
            | ((refine' ⟨_, Yl_load_blk rfl ?q1 ?q2 ?q3, ?_⟩); (case q1 => exact one_of rfl); (case q2 => (repeat (first | exact .head _ | apply List.Mem.tail))); (case q3 => assumption))
            | ((refine' ⟨_, Yl_load_rd rfl ?q1 ?q2 List.not_mem_nil ?q3, ?_⟩); (case q1 => exact one_of rfl); (case q2 => assumption); (case q3 => assumption))
            | ((refine' ⟨_, Yl_load_row rfl ?q1 ?q2 ?q3, ?_⟩); (case q1 => exact one_of rfl); (case q2 => (repeat (first | exact .head _ | apply List.Mem.tail))); (case q3 => assumption))
            | ((refine' ⟨_, Yl_loadA_rd rfl ?qa ?qb List.not_mem_nil ?ql ?qc, ?_⟩); (case qa => exact agg_of rfl); (case qb => assumption); (case qc => assumption); (case ql => rfl))
            | ((refine' ⟨_, Yl_loadA_row rfl ?qa ?qb ?ql ?qc, ?_⟩); (case qa => exact agg_of rfl); (case qb => (repeat (first | exact .head _ | apply List.Mem.tail))); (case qc => assumption); (case ql => rfl))))
            | ((with_reducible refine is_idx ?_); (first
            | ((refine' ⟨_, Yl_index rfl rfl ?q1 ?q2 ?q3 (Rd.some_ ?q4 ?q5), ?_⟩); (case q1 => exact und_of rfl); (case q2 => exact siz_of rfl); (case q3 => omega); (case q4 => assumption); (case q5 => omega))
            | ((refine' ⟨_, Yl_index_row rfl rfl ?q1 ?q2 ?q3 ?q4, ?_⟩); (case q1 => exact und_of rfl); (case q2 => exact siz_of rfl); (case q3 => omega); (case q4 => (repeat (first | exact .head _ | apply List.Mem.tail))))
            | ((refine' ⟨_, Yl_index rfl rfl ?q1 ?q2 ?q3 rfl, ?_⟩); (case q1 => exact und_of rfl); (case q2 => exact siz_of rfl); (case q3 => omega))
            | ((refine' ⟨_, Yl_index (j := 0) rfl rfl ?q1 ?q2 ?q3 (Rd.some_ ?q4 ?q5), ?_⟩); (case q1 => exact und_of rfl); (case q2 => exact siz_of rfl); (case q3 => omega); (case q4 => assumption); (case q5 => omega))
            | ((refine' ⟨_, Yl_index_row (j := 0) rfl rfl ?q1 ?q2 ?q3 ?q4, ?_⟩); (case q1 => exact und_of rfl); (case q2 => exact siz_of rfl); (case q3 => omega); (case q4 => (repeat (first | exact .head _ | apply List.Mem.tail))))
            | ((refine' ⟨_, Yl_indexI rfl rfl ?q1 ?q2 ?q3 ?q4 (Rd.some_ ?q5 ?q6), ?_⟩); (case q1 => exact und_of rfl); (case q2 => exact siz_of rfl); (case q3 => omega); (case q4 => omega); (case q5 => assumption); (case q6 => omega))))
            | ((with_reducible refine is_len ?_); (first | ((refine' ⟨_, Yl_len_slice rfl ?q1, ?_⟩); (case q1 => exact und_of rfl)) | ((refine' ⟨_, Yl_len_string rfl ?q1, ?_⟩); (case q1 => exact und_of rfl))))
            | ((with_reducible refine is_b_lss ?_); (first | ((refine' ⟨_, Yl_lss_t rfl rfl ?q1, ?_⟩); (case q1 => omega)) | ((refine' ⟨_, Yl_lss_f rfl rfl ?q1, ?_⟩); (case q1 => omega)) | (refine sp_lss rfl rfl ?_ ?_ <;> intro hc)))
            | ((with_reducible refine is_b_add ?_); (first | ((refine' ⟨_, Yl_add rfl rfl ?q1 ?q2, ?_⟩); (case q1 => omega); (case q2 => omega)) | ((refine' ⟨_, Yl_add8 rfl rfl ?q1 ?q2, ?_⟩); (case q1 => omega); (case q2 => omega))))
            | ((with_reducible refine ie_callf ?_); (first  | ((with_reducible refine g_call 16 ?_); (first | refine Ef_callP rfl rfl ent_16 (fun w hp => rhas_v A len cap l x.2.2 true w (hp.rd hr fun _ => List.not_mem_nil) hl hle hpx) ?_ | refine Ef_callP rfl rfl ent_16 (fun w hp => rhas_v A len cap l x.2.2 false w (hp.rd hr fun _ => List.not_mem_nil) hl hle hpx) ?_))))
            | (fail; (first | ((fail_if_success have := b1); intro b1) | ((fail_if_success have := b2); intro b2) | ((fail_if_success have := b3); intro b3) | ((fail_if_success have := b4); intro b4) | ((fail_if_success have := b5); intro b5) | ((fail_if_success have := b6); intro b6) | ((fail_if_success have := b7); intro b7) | ((fail_if_success have := b8); intro b8) | ((fail_if_success have := b9); intro b9) | ((fail_if_success have := b10); intro b10) | ((fail_if_success have := b11); intro b11) | ((fail_if_success have := b12); intro b12)))
            | (fail; (first | ((fail_if_success have := A1); intro A1 c1) | ((fail_if_success have := A2); intro A2 c2) | ((fail_if_success have := A3); intro A3 c3) | ((fail_if_success have := A4); intro A4 c4) | ((fail_if_success have := A5); intro A5 c5) | ((fail_if_success have := A6); intro A6 c6) | ((fail_if_success have := A7); intro A7 c7)))
            | refine Ef_y rfl rfl ?_)
        refine loopQ_n (i + 1) ?_ ?_ ⟨by (first | omega | (dsimp only; omega) | (simp; omega)), fun y hy => ?_⟩ (by (first | omega | (dsimp only; omega) | (simp; omega)))
        · (repeat (first | exact Sub.nil | refine Sub.cons rfl ?_))
        · (repeat (first | exact List.nil_sublist _ | refine List.Sublist.cons_cons _ ?_ | refine List.Sublist.cons _ ?_))
        · rw [take_snoc hx] at hy
          rcases List.mem_append.1 hy with hy | hy
          · exact hno y hy
          · rw [List.mem_singleton.1 hy]; exact hpx
    · rw [List.take_of_length_le (by omega)] at hno
      rw [show (m.any fun g => decide (g.2.2 ∈ l)) = false from List.any_eq_false.2 fun y hy => by rw [hno y hy]; simp]
      repeat' (first
          | with_reducible refine T.seq ?_
          | with_reducible refine T.block ?_
          | with_reducible refine T.region ?_
          | with_reducible refine T.skip ?_
          | with_reducible refine T.scope ?_
          | with_reducible refine T.label ?_
          | with_reducible refine scopeQ_n ?_
          | with_reducible refine scopeQ_r ?_
          | with_reducible refine scopeQ_x ?_
          | with_reducible refine T.ret ?_
          | with_reducible refine T.exit ?_
          | with_reducible refine seqQ_n ?_
          | with_reducible refine seqQ_x ?_
          | with_reducible refine seqQ_r ?_
          | with_reducible refine blockQ_n ?_
          | with_reducible refine blockQ_r ?_
          | with_reducible refine blockQ_x ?_
          | ((with_reducible refine g_blkx ?_); refine blockQ_y rfl ?_)
          | with_reducible refine loopQ_x ?_
          | with_reducible refine loopQ_r ?_
          | with_reducible refine joinQ_r ?_
          | with_reducible refine joinQ_x ?_
          | ((with_reducible refine g_cond ?_); (first | refine T.cond_t rfl ?_ | refine T.cond_f rfl ?_ | (refine T.cond_s rfl ?_ ?_ <;> intro hc)))
          | with_reducible refine TL_nil ?_
          | with_reducible refine TS_nil ?_
          | ((with_reducible refine TL_y' ?hy ?hd ?_); (case hy => rfl); (case hd => rfl))
          | with_reducible refine TL_e ?_
          | ((with_reducible refine g_TL ?_); (first | refine TL_gy' rfl rfl rfl rfl ?_ | refine TL_gn rfl rfl rfl ?_ | refine TL_gu rfl rfl rfl ?_ | refine TL_ge rfl rfl ?_ | refine TL_gn0 rfl rfl ?_))
          | ((with_reducible refine g_TS ?_); (first | refine TS_y rfl rfl ?_ | refine TS_e rfl ?_ | refine TS_gy rfl rfl rfl rfl ?_ | refine TS_gn rfl rfl rfl rfl ?_ | refine TS_gu rfl rfl rfl rfl ?_ | refine TS_ge rfl rfl rfl ?_ | refine TS_gne rfl rfl rfl rfl ?_ | refine TS_gue rfl rfl rfl rfl ?_ | refine TS_gne0 rfl rfl rfl ?_))
          | ((with_reducible refine TSand ?hd ?_); (case hd => (repeat (first | exact List.nil_sublist _ | refine List.Sublist.cons_cons _ ?_ | refine List.Sublist.cons _ ?_))))
          | ((with_reducible refine TBand ?hd ?_); (case hd => (repeat (first | exact List.nil_sublist _ | refine List.Sublist.cons_cons _ ?_ | refine List.Sublist.cons _ ?_))))
          | ((with_reducible refine g_TB ?_); (first | with_reducible refine TB_run ?_ | refine TB_y rfl rfl ?_ | refine TB_b rfl rfl ?_ ?_ | refine TB_e rfl ?_))
          | ((with_reducible refine is_move ?_); refine ⟨_, Yl_move rfl, ?_⟩)
          | ((with_reducible refine is_assign ?_); refine ⟨_, Yl_assign rfl, ?_⟩)
          | ((with_reducible refine is_fld ?_); (first | ((refine' ⟨_, Yl_fld_ad rfl ?q1, ?_⟩); (case q1 => exact fld_of rfl rfl)) | ((refine' ⟨_, Yl_fld_blk0 rfl ?q1, ?_⟩); (case q1 => exact fld_of rfl rfl)) | ((refine' ⟨_, Yl_fld_blk rfl ?q1, ?_⟩); (case q1 => exact fld_of rfl rfl))))
          | ((with_reducible refine is_load ?_); (first
          | ((refine' ⟨_, Yl_load_old rfl ?q1 hb List.not_mem_nil ?q2, ?_⟩); (case q1 => exact one_of rfl); (case q2 => rfl))
          | ((refine' ⟨_, Yl_load_blk rfl ?q1 ?q2 ?q3, ?_⟩); (case q1 => exact one_of rfl); (case q2 => (repeat (first | exact .head _ | apply List.Mem.tail))); (case q3 => rfl))
          | ((refine' ⟨_, Yl_loadA_blk rfl ?q1 ?q2, ?_⟩); (case q1 => (repeat (first | exact .head _ | apply List.Mem.tail))); (case q2 => exact agg_of rfl))
          | ((refine' ⟨_, Yl_load_blk rfl ?q1 ?q2 ?q3, ?_⟩); (case q1 => exact one_of rfl); (case q2 => (repeat (first | exact .head _ | apply List.Mem.tail))); (case q3 => assumption))
          | ((refine' ⟨_, Yl_load_rd rfl ?q1 ?q2 List.not_mem_nil ?q3, ?_⟩); (case q1 => exact one_of rfl); (case q2 => assumption); (case q3 => assumption))
          | ((refine' ⟨_, Yl_load_row rfl ?q1 ?q2 ?q3, ?_⟩); (case q1 => exact one_of rfl); (case q2 => (repeat (first | exact .head _ | apply List.Mem.tail))); (case q3 => assumption))
          | ((refine' ⟨_, Yl_loadA_rd rfl ?qa ?qb List.not_mem_nil ?ql ?qc, ?_⟩); (case qa => exact agg_of rfl); (case qb => assumption); (case qc => assumption); (case ql => rfl))
          | ((refine' ⟨_, Yl_loadA_row rfl ?qa ?qb ?ql ?qc, ?_⟩); (case qa => exact agg_of rfl); (case qb => (repeat (first | exact .head _ | apply List.Mem.tail))); (case qc => assumption); (case ql => rfl))))
          | ((with_reducible refine is_idx ?_); (first
          | ((refine' ⟨_, Yl_index rfl rfl ?q1 ?q2 ?q3 (Rd.some_ ?q4 ?q5), ?_⟩); (case q1 => exact und_of rfl); (case q2 => exact siz_of rfl); (case q3 => omega); (case q4 => assumption); (case q5 => omega))
          | ((refine' ⟨_, Yl_index_row rfl rfl ?q1 ?q2 ?q3 ?q4, ?_⟩); (case q1 => exact und_of rfl); (case q2 => exact siz_of rfl); (case q3 => omega); (case q4 => (repeat (first | exact .head _ | apply List.Mem.tail))))
          | ((refine' ⟨_, Yl_index rfl rfl ?q1 ?q2 ?q3 rfl, ?_⟩); (case q1 => exact und_of rfl); (case q2 => exact siz_of rfl); (case q3 => omega))
          | ((refine' ⟨_, Yl_index (j := 0) rfl rfl ?q1 ?q2 ?q3 (Rd.some_ ?q4 ?q5), ?_⟩); (case q1 => exact und_of rfl); (case q2 => exact siz_of rfl); (case q3 => omega); (case q4 => assumption); (case q5 => omega))
          | ((refine' ⟨_, Yl_index_row (j := 0) rfl rfl ?q1 ?q2 ?q3 ?q4, ?_⟩); (case q1 => exact und_of rfl); (case q2 => exact siz_of rfl); (case q3 => omega); (case q4 => (repeat (first | exact .head _ | apply List.Mem.tail))))
          | ((refine' ⟨_, Yl_indexI rfl rfl ?q1 ?q2 ?q3 ?q4 (Rd.some_ ?q5 ?q6), ?_⟩); (case q1 => exact und_of rfl); (case q2 => exact siz_of rfl); (case q3 => omega); (case q4 => omega); (case q5 => assumption); (case q6 => omega))))
          | ((with_reducible refine is_len ?_); (first | ((refine' ⟨_, Yl_len_slice rfl ?q1, ?_⟩); (case q1 => exact und_of rfl)) | ((refine' ⟨_, Yl_len_string rfl ?q1, ?_⟩); (case q1 => exact und_of rfl))))
          | ((with_reducible refine is_b_lss ?_); (first | ((refine' ⟨_, Yl_lss_t rfl rfl ?q1, ?_⟩); (case q1 => omega)) | ((refine' ⟨_, Yl_lss_f rfl rfl ?q1, ?_⟩); (case q1 => omega)) | (refine sp_lss rfl rfl ?_ ?_ <;> intro hc)))
          | ((with_reducible refine is_b_add ?_); (first | ((refine' ⟨_, Yl_add rfl rfl ?q1 ?q2, ?_⟩); (case q1 => omega); (case q2 => omega)) | ((refine' ⟨_, Yl_add8 rfl rfl ?q1 ?q2, ?_⟩); (case q1 => omega); (case q2 => omega))))
          | ((with_reducible refine ie_callf ?_); (first  | ((with_reducible refine g_call 16 ?_); (first | refine Ef_callP rfl rfl ent_16 (fun w hp => rhas_v A len cap l x.2.2 true w (hp.rd hr fun _ => List.not_mem_nil) hl hle hpx) ?_ | refine Ef_callP rfl rfl ent_16 (fun w hp => rhas_v A len cap l x.2.2 false w (hp.rd hr fun _ => List.not_mem_nil) hl hle hpx) ?_))))
          | (fail; (first | ((fail_if_success have := b1); intro b1) | ((fail_if_success have := b2); intro b2) | ((fail_if_success have := b3); intro b3) | ((fail_if_success have := b4); intro b4) | ((fail_if_success have := b5); intro b5) | ((fail_if_success have := b6); intro b6) | ((fail_if_success have := b7); intro b7) | ((fail_if_success have := b8); intro b8) | ((fail_if_success have := b9); intro b9) | ((fail_if_success have := b10); intro b10) | ((fail_if_success have := b11); intro b11) | ((fail_if_success have := b12); intro b12)))
          | (fail; (first | ((fail_if_success have := A1); intro A1 c1) | ((fail_if_success have := A2); intro A2 c2) | ((fail_if_success have := A3); intro A3 c3) | ((fail_if_success have := A4); intro A4 c4) | ((fail_if_success have := A5); intro A5 c5) | ((fail_if_success have := A6); intro A6 c6) | ((fail_if_success have := A7); intro A7 c7)))
          | refine Ef_y rfl rfl ?_)
      exact ret_n [] (res1 rfl rfl) (List.nil_sublist _) ⟨rfl, rfl⟩
end
end Go.Proofs.Ytmiimnlboighmaa
