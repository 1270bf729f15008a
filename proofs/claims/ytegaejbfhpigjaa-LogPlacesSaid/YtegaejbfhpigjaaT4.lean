/- The iterator over copies; what it is collected to; From, At. -/
import Derived.Test.YtegaejbfhpigjaaT3
namespace Go.Proofs.Ytegaejbfhpigjaa
open Go.RowKit
set_option maxRecDepth 20000

section
variable {σ : Type} (ly bt : Nat) (A : Option Addr) (len cap : Nat) (l : List Me) (pr : σ → List Me) (G : σ → List Asrt) (s0 : σ) (w : World)
variable (hbt : w.heap[bt]? = some (.cells #[.slice A len cap] 24 (0, 0))) (hbtN : bt ∉ (G s0).flatMap Asrt.foot) (hr : Rd w A len 5 (l.flatMap mE)) (hrN : 0 < len → (adr A).block ∉ (G s0).flatMap Asrt.foot)
variable (hl : l.length = len) (hle : len ≤ 300) (hin : Ins w l) (hinN : ∀ x ∈ l, 0 < x.1.body.length → (adr x.2.1).block ∉ (G s0).flatMap Asrt.foot) (h5 : ∀ x ∈ l, x.1.body.length ≤ 6000)
variable (hG : Hp w ((G s0).flatMap Asrt.foot) (G s0) w) (NN : Nat) (hNN : (pr s0).length + len ≤ NN) (hY : Yields Try.prog NN ly (fun x : Me => [bA x]) (fun x => .agg (mE x).toArray) pr G)
include hbt hbtN hr hrN hl hle hin hinN h5 hG hNN hY
set_option maxHeartbeats 4000000 in
theorem iter_c : Sp Try.prog 47 [.func (.yield ly) #[] #[], .pointer (some ⟨bt, 0, none⟩)] w ((G s0).flatMap Asrt.foot) fun _ N => ∃ s, (∃ ys, pr s = pr s0 ++ ys ∧ ys.map (·.1) = l.map (·.1)) ∧ N = G s := by
  refine Sp.enter (n := 20) Try.func47 rfl rfl rfl hG ?_
  repeat' (first
      | ((with_reducible refine is_load ?_); (first | ((refine' ⟨_, Yl_load_old rfl ?q1 hbt hbtN rfl, ?_⟩); (case q1 => exact one_of rfl)) | ((refine' ⟨_, Yl_loadA_hp rfl ?qa ?qb ?ql ?qc, ?_⟩); (case qa => exact agg_of rfl); (case qb => (first | exact fun _ hp => hp.rd hr fun _ => hrN)); (case qc => assumption); (case ql => rfl))))
      | ((with_reducible refine is_idx ?_); (first | ((refine' ⟨_, Yl_indexZ (j := i) rfl rfl rfl ?q1 ?q2 ?q3 hA, ?_⟩); (case q1 => exact und_of rfl); (case q2 => exact siz_of rfl); (case q3 => omega))))
      | ((with_reducible refine ie_store ?_); (first | ((refine' Ef_storeA' rfl rfl ?q1 (mE_one _) ?q2 ?q3 ?_); (case q1 => exact siz_of rfl); (case q2 => (first | exact at0 | exact at1 | exact at2 | exact at3 | exact at4 | exact at5 | exact at6)); (case q3 => rfl)) | ((refine' Ef_storeC (C' := (mE (x.1, (A1, c1))).toArray) rfl rfl ?q1 ?q2 ?q3 ?q4 ?q5 ?_); (case q1 => rfl); (case q2 => exact siz_of rfl); (case q3 => (first | exact at0 | exact at1 | exact at2 | exact at3 | exact at4 | exact at5 | exact at6)); (case q4 => exact Nat.le_of_ble_eq_true rfl); (case q5 => rfl))))
      | ((with_reducible refine ie_callf ?_); (first | ((with_reducible refine g_call 48 ?_); (first | (refine Ef_callN rfl rfl ent_48 (fun w hp => clone_c x.2.1 x.1.body.length x.2.2 x.1.body w (hp.rd (hin x hxm) (hinN x hxm)) rfl (h5 x hxm)) ?_; rintro ⟨A1, c1⟩)))))
      | refine w1 ?_
      | (refine w2 ?_ ?_ <;> intro hc)
      | (first | ((refine' ⟨_, Yl_eql_nil rfl rfl ?q1, ?_⟩); (case q1 => exact und_of rfl)))
      | (refine w4 ?_; (intro _))
      | (refine w5 ?_; (first | ((fail_if_success have := A1); intro A1 c1) | intro _ _))
      | refine w3 ?_ ?_
      | fail_if_success skip)
  refine T.loopM (α := Nat × σ) (fun z => [(0, .func (.yield ly) #[] #[]), (5, .slice A len cap), (6, .int .i64 (len : Int)), (7, .int .i64 (z.1 : Int))]) (fun z => G z.2) (fun z => z.1 ≤ len ∧ ∃ ys, pr z.2 = pr s0 ++ ys ∧ ys.map (·.1) = (l.take z.1).map (·.1)) (fun z => len - z.1) (0, s0) ?_ ?_ ?_ ?_
  · (repeat (first | exact Sub.nil | refine Sub.cons rfl ?_))
  · exact fun _ h => h
  · exact ⟨Nat.zero_le _, [], by simp, rfl⟩
  · rintro ⟨i, s⟩ ⟨hi, ys, hys, hym⟩
    dsimp only at hi hys hym ⊢
    by_cases hlt : i < len
    · obtain ⟨x, hx⟩ := some_of_lt (l := l) (i := i) (by omega)
      have hxm := mem_of_some hx
      have hA : A = some (adr A) := hr.some_ (by omega)
      have hrN := hrN (by omega)
      have eA : ∀ j u, (mE x)[j]? = some u → (l.flatMap mE)[i * 5 + j]? = some u := enc_atA mE_len hx
      have oX := fun z => mE_one (x.1, z)
      repeat' (first
          | (with_reducible refine T.regionI (id := 4) ?_)
          | (first
          | ((with_reducible refine is_load ?_); (first | ((refine' ⟨_, Yl_load_old rfl ?q1 hbt hbtN rfl, ?_⟩); (case q1 => exact one_of rfl)) | ((refine' ⟨_, Yl_loadA_hp rfl ?qa ?qb ?ql ?qc, ?_⟩); (case qa => exact agg_of rfl); (case qb => (first | exact fun _ hp => hp.rd hr fun _ => hrN)); (case qc => assumption); (case ql => rfl))))
          | ((with_reducible refine is_idx ?_); (first | ((refine' ⟨_, Yl_indexZ (j := i) rfl rfl rfl ?q1 ?q2 ?q3 hA, ?_⟩); (case q1 => exact und_of rfl); (case q2 => exact siz_of rfl); (case q3 => omega))))
          | ((with_reducible refine ie_store ?_); (first | ((refine' Ef_storeA' rfl rfl ?q1 (mE_one _) ?q2 ?q3 ?_); (case q1 => exact siz_of rfl); (case q2 => (first | exact at0 | exact at1 | exact at2 | exact at3 | exact at4 | exact at5 | exact at6)); (case q3 => rfl)) | ((refine' Ef_storeC (C' := (mE (x.1, (A1, c1))).toArray) rfl rfl ?q1 ?q2 ?q3 ?q4 ?q5 ?_); (case q1 => rfl); (case q2 => exact siz_of rfl); (case q3 => (first | exact at0 | exact at1 | exact at2 | exact at3 | exact at4 | exact at5 | exact at6)); (case q4 => exact Nat.le_of_ble_eq_true rfl); (case q5 => rfl))))
          | ((with_reducible refine ie_callf ?_); (first | ((with_reducible refine g_call 48 ?_); (first | (refine Ef_callN rfl rfl ent_48 (fun w hp => clone_c x.2.1 x.1.body.length x.2.2 x.1.body w (hp.rd (hin x hxm) (hinN x hxm)) rfl (h5 x hxm)) ?_; rintro ⟨A1, c1⟩)))))
          | refine w1 ?_
          | (refine w2 ?_ ?_ <;> intro hc)
          | (first | ((refine' ⟨_, Yl_eql_nil rfl rfl ?q1, ?_⟩); (case q1 => exact und_of rfl)))
          | (refine w4 ?_; (intro _))
          | (refine w5 ?_; (first | ((fail_if_success have := A1); intro A1 c1) | intro _ _))
          | refine w3 ?_ ?_
          | fail_if_success skip))
      refine TLI_y rfl ⟨_, Yl_move rfl, ?_⟩
      refine TLI_y rfl ⟨_, Yl_loadA_blk rfl (by (repeat (first | exact .head _ | apply List.Mem.tail))) (by exact agg_of rfl), ?_⟩
      refine TLI_yield s (x.1, (A1, c1)) [] rfl rfl rfl hY (by have := congrArg List.length hym; simp only [List.length_map, List.length_take] at this; rw [hys, List.length_append]; omega) (fun w hp => by rw [List.append_nil]; exact hp.ofPart (Part.p0 (Part.sub (List.Sublist.cons _ (List.Sublist.refl _))))) fun s' hs' => ?_
      refine TLI_y rfl ⟨_, Yl_not rfl, ?_⟩
      refine TLI_nil ?_
      rw [List.append_nil]
      repeat' (first
          | ((with_reducible refine is_load ?_); (first | ((refine' ⟨_, Yl_load_old rfl ?q1 hbt hbtN rfl, ?_⟩); (case q1 => exact one_of rfl)) | ((refine' ⟨_, Yl_loadA_hp rfl ?qa ?qb ?ql ?qc, ?_⟩); (case qa => exact agg_of rfl); (case qb => (first | exact fun _ hp => hp.rd hr fun _ => hrN)); (case qc => assumption); (case ql => rfl))))
          | ((with_reducible refine is_idx ?_); (first | ((refine' ⟨_, Yl_indexZ (j := i) rfl rfl rfl ?q1 ?q2 ?q3 hA, ?_⟩); (case q1 => exact und_of rfl); (case q2 => exact siz_of rfl); (case q3 => omega))))
          | ((with_reducible refine ie_store ?_); (first | ((refine' Ef_storeA' rfl rfl ?q1 (mE_one _) ?q2 ?q3 ?_); (case q1 => exact siz_of rfl); (case q2 => (first | exact at0 | exact at1 | exact at2 | exact at3 | exact at4 | exact at5 | exact at6)); (case q3 => rfl)) | ((refine' Ef_storeC (C' := (mE (x.1, (A1, c1))).toArray) rfl rfl ?q1 ?q2 ?q3 ?q4 ?q5 ?_); (case q1 => rfl); (case q2 => exact siz_of rfl); (case q3 => (first | exact at0 | exact at1 | exact at2 | exact at3 | exact at4 | exact at5 | exact at6)); (case q4 => exact Nat.le_of_ble_eq_true rfl); (case q5 => rfl))))
          | ((with_reducible refine ie_callf ?_); (first | ((with_reducible refine g_call 48 ?_); (first | (refine Ef_callN rfl rfl ent_48 (fun w hp => clone_c x.2.1 x.1.body.length x.2.2 x.1.body w (hp.rd (hin x hxm) (hinN x hxm)) rfl (h5 x hxm)) ?_; rintro ⟨A1, c1⟩)))))
          | refine w1 ?_
          | (refine w2 ?_ ?_ <;> intro hc)
          | (first | ((refine' ⟨_, Yl_eql_nil rfl rfl ?q1, ?_⟩); (case q1 => exact und_of rfl)))
          | (refine w4 ?_; (intro _))
          | (refine w5 ?_; (first | ((fail_if_success have := A1); intro A1 c1) | intro _ _))
          | refine w3 ?_ ?_
          | fail_if_success skip)
      refine loopH_n (i + 1, s') ?_ (fun _ h => h) ⟨show i + 1 ≤ len by omega, ys ++ [(x.1, (A1, c1))], ?_, ?_⟩ (show len - (i + 1) < len - i by omega)
      · (repeat (first | exact Sub.nil | refine Sub.cons rfl ?_))
      · rw [hs', hys, List.append_assoc]
      · rw [take_snoc hx, List.map_append, List.map_append, hym]; rfl
    · have hil : i = l.length := by omega
      rw [List.take_of_length_le (by omega)] at hym
      repeat' (first
          | ((with_reducible refine is_load ?_); (first | ((refine' ⟨_, Yl_load_old rfl ?q1 hbt hbtN rfl, ?_⟩); (case q1 => exact one_of rfl)) | ((refine' ⟨_, Yl_loadA_hp rfl ?qa ?qb ?ql ?qc, ?_⟩); (case qa => exact agg_of rfl); (case qb => (first | exact fun _ hp => hp.rd hr fun _ => hrN)); (case qc => assumption); (case ql => rfl))))
          | ((with_reducible refine is_idx ?_); (first | ((refine' ⟨_, Yl_indexZ (j := i) rfl rfl rfl ?q1 ?q2 ?q3 hA, ?_⟩); (case q1 => exact und_of rfl); (case q2 => exact siz_of rfl); (case q3 => omega))))
          | ((with_reducible refine ie_store ?_); (first | ((refine' Ef_storeA' rfl rfl ?q1 (mE_one _) ?q2 ?q3 ?_); (case q1 => exact siz_of rfl); (case q2 => (first | exact at0 | exact at1 | exact at2 | exact at3 | exact at4 | exact at5 | exact at6)); (case q3 => rfl)) | ((refine' Ef_storeC (C' := (mE (x.1, (A1, c1))).toArray) rfl rfl ?q1 ?q2 ?q3 ?q4 ?q5 ?_); (case q1 => rfl); (case q2 => exact siz_of rfl); (case q3 => (first | exact at0 | exact at1 | exact at2 | exact at3 | exact at4 | exact at5 | exact at6)); (case q4 => exact Nat.le_of_ble_eq_true rfl); (case q5 => rfl))))
          | ((with_reducible refine ie_callf ?_); (first | ((with_reducible refine g_call 48 ?_); (first | (refine Ef_callN rfl rfl ent_48 (fun w hp => clone_c x.2.1 x.1.body.length x.2.2 x.1.body w (hp.rd (hin x hxm) (hinN x hxm)) rfl (h5 x hxm)) ?_; rintro ⟨A1, c1⟩)))))
          | refine w1 ?_
          | (refine w2 ?_ ?_ <;> intro hc)
          | (first | ((refine' ⟨_, Yl_eql_nil rfl rfl ?q1, ?_⟩); (case q1 => exact und_of rfl)))
          | (refine w4 ?_; (intro _))
          | (refine w5 ?_; (first | ((fail_if_success have := A1); intro A1 c1) | intro _ _))
          | refine w3 ?_ ?_
          | fail_if_success skip)
      exact ret_n (G s) (res0 rfl) (List.Sublist.refl _) ⟨s, ⟨ys, hys, hym⟩, rfl⟩
end
end Go.Proofs.Ytegaejbfhpigjaa
