/- Collect, From, At: what a call of each comes to. -/
import Derived.Test.YtegaejbfhpigjaaT5
namespace Go.Proofs.Ytegaejbfhpigjaa
open Go.RowKit
set_option maxRecDepth 20000

section
variable {P : Program} {n : Nat} {w0 : World} {R : List Nat} {L : List (Nat × Value)} {M : List Asrt} {ty t : TypeId} {x y : Operand}
theorem Yl_sl_lZ {e k len cap l : Nat} {z : Int} {A : Option Addr} {kd : IntKind} {lo : Operand} (hx : evl L x = some (.slice A len cap)) (hl : evl L lo = some (.int kd z)) (hz : z = (l : Int)) (ht : P.underlying t = some (.slice e)) (hs : sizT P e = some k) (h1 : l ≤ len) :
    Yl P n w0 R (.slice t x (some lo) none none) ty L M (.slice (subA A cap l k) (len - l) (cap - l)) := by
  subst hz
  exact Yl_sl_l hx hl ht hs h1
theorem Yl_sl_hZ {e k len cap h : Nat} {z : Int} {A : Option Addr} {kd : IntKind} {hi : Operand} (hx : evl L x = some (.slice A len cap)) (hh : evl L hi = some (.int kd z)) (hz : (h : Int) = z) (ht : P.underlying t = some (.slice e)) (hs : sizT P e = some k) (h1 : h ≤ cap) :
    Yl P n w0 R (.slice t x none (some hi) none) ty L M (.slice A h cap) := by
  subst hz
  exact Yl_sl_h hx hh ht hs h1
end

section
variable (bt : Nat) (A : Option Addr) (len cap : Nat) (l : List Me) (w : World)
variable (hbt : w.heap[bt]? = some (.cells #[.slice A len cap] 24 (0, 0))) (hr : Rd w A len 5 (l.flatMap mE)) (hl : l.length = len) (hle : len ≤ 300) (hin : Ins w l) (h5 : ∀ x ∈ l, x.1.body.length ≤ 6000)
include hbt hr hl hle hin h5
theorem collect_c : Sp Try.prog 38 [.func (.func 47) #[] #[.pointer (some ⟨bt, 0, none⟩)]] w [] fun v N => ∃ y : Hd × List Me, y.2.map (·.1) = l.map (·.1) ∧ v = .slice y.1.1 y.2.length y.1.2 ∧ N = [rM y.2 y.1, bag (y.2.map bA)] := by
  have hag := fun {M : List Asrt} w' (hp : Hp w [] M w') => aseq_c bt A len cap l w' (hp.blk_old hbt List.not_mem_nil) (hp.rd hr fun _ => List.not_mem_nil) hl hle (hp.ins_old hin) h5
  refine Sp.enter (n := 5) Try.func38 rfl rfl rfl (Hp.refl w) ?_
  repeat' (first     | ((with_reducible refine ie_callf ?_); (first | ((with_reducible refine g_call 46 ?_); (first | (refine Ef_callNX rfl rfl ent_46 (fun w hp => hag w hp) ?_; rintro ⟨⟨A1, c1⟩, ms⟩ hms)))))    | refine w1 ?_ | (refine w2 ?_ ?_ <;> intro hc) | (first | ((refine' ⟨_, Yl_sl_lZ (l := j) rfl rfl ?q1 ?q2 ?q3 ?q4, ?_⟩); (case q1 => omega); (case q2 => exact und_of rfl); (case q3 => exact siz_of rfl); (case q4 => omega)) | ((refine' ⟨_, Yl_sl_hZ (h := k) rfl rfl hk ?q1 ?q2 ?q3, ?_⟩); (case q1 => exact und_of rfl); (case q2 => exact siz_of rfl); (case q3 => omega))) | (refine w4 ?_; (intro _)) | (refine w5 ?_; (first | ((fail_if_success have := A1); intro A1 c1) | intro _ _)) | refine w3 ?_ ?_ | fail_if_success skip)
  exact ret_n [rM ms (A1, c1), bag (ms.map bA)] (res1 rfl rfl) (by (repeat (first | exact List.nil_sublist _ | refine List.Sublist.cons_cons _ ?_ | refine List.Sublist.cons _ ?_))) ⟨((A1, c1), ms), hms, rfl, rfl⟩
end

section
variable (pv : Value) (i n : Int) (w : World) (hle : ∀ {M : List Asrt} (w' : World), Hp w [] M w' → Sp Try.prog 15 [pv] w' [] fun v N => v = .int .i64 0 ∧ N = [])
include hle
set_option maxHeartbeats 1000000 in
theorem fromN_c : Sp Try.prog 19 [pv, .int .i64 i, .int .i64 n] w [] fun v N => v = .slice none 0 0 ∧ N = [rM [] (none, 0), bag []] := by
  have hc : i < 1 ∨ (¬ i < 1 ∧ 0 < i) := by omega
  rcases hc with g1 | ⟨g1, g2⟩
  all_goals
    refine Sp.enter (n := 35) Try.func19 rfl rfl rfl (Hp.refl w) ?_
    refine T.mem (fun _ h => h.bagNil) ?_
    refine T.row0 27 5 ?_
    repeat' (first
        | ((with_reducible refine is_load ?_); (first | ((refine' ⟨_, Yl_load_old rfl ?q1 hb List.not_mem_nil rfl, ?_⟩); (case q1 => exact one_of rfl))))
        | ((with_reducible refine ie_callf ?_); (first  | ((with_reducible refine g_call 15 ?_); (first | refine Ef_callP rfl rfl ent_15 (fun w hp => hle w hp) ?_)) | ((with_reducible refine g_call 39 ?_); (first | (refine Ef_callN rfl rfl ent_39 (fun w hp => copies_c _ rfl w) ?_; intro b1))) | ((with_reducible refine g_call 38 ?_); (first | (((refine' Ef_callNX rfl rfl ent_38 (fun w hp => collect_c b1 (subA A cap j 5) k (cap - j) ((l.drop j).take k) w (hp.own _ (.head _)) ((hp.rd hr fun _ => List.not_mem_nil).enc mE_len ?q1 ?q2) hlk ?q3 (fun x hx => hp.in_old (hin x (hsub x hx))) (fun x hx => h5 x (hsub x hx))) ?_); (case q1 => omega); (case q2 => omega); (case q3 => omega)); rintro ⟨⟨A1, c1⟩, ms⟩ hms)))))
        | refine w1 ?_
        | (refine w2 ?_ ?_ <;> intro hc)
        | (first | ((refine' ⟨_, Yl_sl_lZ (l := j) rfl rfl ?q1 ?q2 ?q3 ?q4, ?_⟩); (case q1 => omega); (case q2 => exact und_of rfl); (case q3 => exact siz_of rfl); (case q4 => omega)) | ((refine' ⟨_, Yl_sl_hZ (h := k) rfl rfl hk ?q1 ?q2 ?q3, ?_⟩); (case q1 => exact und_of rfl); (case q2 => exact siz_of rfl); (case q3 => omega)))
        | (refine w4 ?_; (first | ((fail_if_success have := b1); intro b1) | intro _))
        | (refine w5 ?_; (first | ((fail_if_success have := A1); intro A1 c1) | intro _ _))
        | refine w3 ?_ ?_
        | fail_if_success skip)
    exact ret_n [rM [] (none, 0), bag []] (res1 rfl rfl) (by unfold rM; (repeat (first | exact List.nil_sublist _ | refine List.Sublist.cons_cons _ ?_ | refine List.Sublist.cons _ ?_))) ⟨rfl, rfl⟩
end

section
variable (b : Nat) (A : Option Addr) (len cap : Nat) (sy : Int) (l : List Me) (i n : Int) (w : World) (hb : w.heap[b]? = some (.cells (lgC true (.slice A len cap) sy) 50 (0, 0)))
variable (hr : Rd w A len 5 (l.flatMap mE)) (hl : l.length = len) (hcap : len ≤ cap) (hle' : len ≤ 300) (hin : Ins w l) (h5 : ∀ x ∈ l, x.1.body.length ≤ 6000)
include hb hr hl hcap hle' hin h5
set_option maxHeartbeats 2000000 in
theorem from_c : Sp Try.prog 19 [.pointer (some ⟨b, 0, none⟩), .int .i64 i, .int .i64 n] w [] fun v N => ∃ y : Hd × List Me, y.2.map (·.1) = Lg.frm (l.map (·.1)) i n ∧ v = .slice y.1.1 y.2.length y.1.2 ∧ N = [rM y.2 y.1, bag (y.2.map bA)] := by
  have hle := fun {M : List Asrt} w' (hp : Hp w [] M w') => len_v b A len cap sy w' (hp.blk_old hb List.not_mem_nil)
  by_cases hg : i < 1 ∨ (¬ i < 1 ∧ (len : Int) < i) ∨ (¬ i < 1 ∧ ¬ (len : Int) < i ∧ n < 1)
  · have hno : Lg.frm (l.map (·.1)) i n = [] := Lg.frm_no (by rw [List.length_map]; omega)
    rw [hno]
    rcases hg with g1 | ⟨g1, g2⟩ | ⟨g1, g2, g3⟩
    all_goals
      refine Sp.enter (n := 35) Try.func19 rfl rfl rfl (Hp.refl w) ?_
      refine T.mem (fun _ h => h.bagNil) ?_
      refine T.row0 27 5 ?_
      repeat' (first
          | ((with_reducible refine is_load ?_); (first | ((refine' ⟨_, Yl_load_old rfl ?q1 hb List.not_mem_nil rfl, ?_⟩); (case q1 => exact one_of rfl))))
          | ((with_reducible refine ie_callf ?_); (first  | ((with_reducible refine g_call 15 ?_); (first | refine Ef_callP rfl rfl ent_15 (fun w hp => hle w hp) ?_)) | ((with_reducible refine g_call 39 ?_); (first | (refine Ef_callN rfl rfl ent_39 (fun w hp => copies_c _ rfl w) ?_; intro b1))) | ((with_reducible refine g_call 38 ?_); (first | (((refine' Ef_callNX rfl rfl ent_38 (fun w hp => collect_c b1 (subA A cap j 5) k (cap - j) ((l.drop j).take k) w (hp.own _ (.head _)) ((hp.rd hr fun _ => List.not_mem_nil).enc mE_len ?q1 ?q2) hlk ?q3 (fun x hx => hp.in_old (hin x (hsub x hx))) (fun x hx => h5 x (hsub x hx))) ?_); (case q1 => omega); (case q2 => omega); (case q3 => omega)); rintro ⟨⟨A1, c1⟩, ms⟩ hms)))))
          | refine w1 ?_
          | (refine w2 ?_ ?_ <;> intro hc)
          | (first | ((refine' ⟨_, Yl_sl_lZ (l := j) rfl rfl ?q1 ?q2 ?q3 ?q4, ?_⟩); (case q1 => omega); (case q2 => exact und_of rfl); (case q3 => exact siz_of rfl); (case q4 => omega)) | ((refine' ⟨_, Yl_sl_hZ (h := k) rfl rfl hk ?q1 ?q2 ?q3, ?_⟩); (case q1 => exact und_of rfl); (case q2 => exact siz_of rfl); (case q3 => omega)))
          | (refine w4 ?_; (first | ((fail_if_success have := b1); intro b1) | intro _))
          | (refine w5 ?_; (first | ((fail_if_success have := A1); intro A1 c1) | intro _ _))
          | refine w3 ?_ ?_
          | fail_if_success skip)
      exact ret_n [rM [] (none, 0), bag []] (res1 rfl rfl) (by unfold rM; (repeat (first | exact List.nil_sublist _ | refine List.Sublist.cons_cons _ ?_ | refine List.Sublist.cons _ ?_))) ⟨((none, 0), []), rfl, rfl, rfl⟩
  · obtain ⟨j, hj⟩ : ∃ j : Nat, i = (j : Int) + 1 := ⟨(i - 1).toNat, by omega⟩
    obtain ⟨k, hk⟩ : ∃ k : Nat, (k : Int) = min n ((len - j : Nat) : Int) := ⟨(min n ((len - j : Nat) : Int)).toNat, by omega⟩
    have hjl : j < len := by omega
    have g1 : ¬ i < 1 := by omega
    have g2 : ¬ (len : Int) < i := by omega
    have g3 : ¬ n < 1 := by omega
    have hlk : ((l.drop j).take k).length = k := by rw [List.length_take, List.length_drop]; omega
    have hsub : ∀ x ∈ (l.drop j).take k, x ∈ l := fun x hx => List.mem_of_mem_drop (List.mem_of_mem_take hx)
    have hf : Lg.frm (l.map (·.1)) i n = ((l.drop j).take k).map (·.1) := by rw [Lg.frm_map, Lg.frm_yes hj (by omega) (by omega) (by rw [hl]; exact hk)]
    rw [hf]
    refine Sp.enter (n := 35) Try.func19 rfl rfl rfl (Hp.refl w) ?_
    repeat' (first
        | ((with_reducible refine is_load ?_); (first | ((refine' ⟨_, Yl_load_old rfl ?q1 hb List.not_mem_nil rfl, ?_⟩); (case q1 => exact one_of rfl))))
        | ((with_reducible refine ie_callf ?_); (first  | ((with_reducible refine g_call 15 ?_); (first | refine Ef_callP rfl rfl ent_15 (fun w hp => hle w hp) ?_)) | ((with_reducible refine g_call 39 ?_); (first | (refine Ef_callN rfl rfl ent_39 (fun w hp => copies_c _ rfl w) ?_; intro b1))) | ((with_reducible refine g_call 38 ?_); (first | (((refine' Ef_callNX rfl rfl ent_38 (fun w hp => collect_c b1 (subA A cap j 5) k (cap - j) ((l.drop j).take k) w (hp.own _ (.head _)) ((hp.rd hr fun _ => List.not_mem_nil).enc mE_len ?q1 ?q2) hlk ?q3 (fun x hx => hp.in_old (hin x (hsub x hx))) (fun x hx => h5 x (hsub x hx))) ?_); (case q1 => omega); (case q2 => omega); (case q3 => omega)); rintro ⟨⟨A1, c1⟩, ms⟩ hms)))))
        | refine w1 ?_
        | (refine w2 ?_ ?_ <;> intro hc)
        | (first | ((refine' ⟨_, Yl_sl_lZ (l := j) rfl rfl ?q1 ?q2 ?q3 ?q4, ?_⟩); (case q1 => omega); (case q2 => exact und_of rfl); (case q3 => exact siz_of rfl); (case q4 => omega)) | ((refine' ⟨_, Yl_sl_hZ (h := k) rfl rfl hk ?q1 ?q2 ?q3, ?_⟩); (case q1 => exact und_of rfl); (case q2 => exact siz_of rfl); (case q3 => omega)))
        | (refine w4 ?_; (first | ((fail_if_success have := b1); intro b1) | intro _))
        | (refine w5 ?_; (first | ((fail_if_success have := A1); intro A1 c1) | intro _ _))
        | refine w3 ?_ ?_
        | fail_if_success skip)
    exact ret_n [rM ms (A1, c1), bag (ms.map bA)] (res1 rfl rfl) (by (repeat (first | exact List.nil_sublist _ | refine List.Sublist.cons_cons _ ?_ | refine List.Sublist.cons _ ?_))) ⟨((A1, c1), ms), hms, rfl, rfl⟩
end
end Go.Proofs.Ytegaejbfhpigjaa
