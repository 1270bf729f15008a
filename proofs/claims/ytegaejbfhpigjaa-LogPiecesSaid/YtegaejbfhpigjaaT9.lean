/- New, Mark, Cut; the document's Add, Cut; fitted: what a call of each comes to. -/
import Derived.Test.YtegaejbfhpigjaaT8
namespace Go.Proofs.Ytegaejbfhpigjaa
open Go.RowKit
set_option maxRecDepth 20000

section
variable {P : Program} {n : Nat} {w0 : World} {R : List Nat} {L : List (Nat × Value)} {M : List Asrt} {ty t : TypeId} {x y : Operand}
theorem Yl_sl_hmZ {e k len cap h : Nat} {z : Int} {A : Option Addr} {kd kd' : IntKind} {hi mx : Operand} (hx : evl L x = some (.slice A len cap)) (hh : evl L hi = some (.int kd z)) (hm : evl L mx = some (.int kd' z)) (hz : (h : Int) = z) (ht : P.underlying t = some (.slice e)) (hs : sizT P e = some k) (h1 : h ≤ cap) :
    Yl P n w0 R (.slice t x none (some hi) (some mx)) ty L M (.slice A h h) := by
  subst hz
  exact Yl_sl_hm hx hh hm ht hs (Nat.le_refl _) h1
end

theorem z_build50 (q : Bool) (w : World) : (Instr.build 50 #[(0, .bool q)]).run Try.prog w = .ok (.agg (lgC q (.slice none 0 0) 0)) w := by kernel_rfl
theorem o_build50 (w : World) : (Instr.build 50 #[]).run Try.prog w = .ok (.agg (lgC false (.slice none 0 0) 0)) w := by kernel_rfl
theorem o_build36 (w : World) : (Instr.build 36 #[]).run Try.prog w = .ok (.agg (lrC (.slice none 0 0) 0)) w := by kernel_rfl

/-- The document's log. -/
abbrev yL (b : Nat) (z : Hd) (l : List Me) (sy : Int) : List Asrt := [.blk b (.cells (lrC (.slice z.1 l.length z.2) sy) 36 (0, 0)), rM l z, bag (l.map bA)]

theorem new_c (w : World) : Sp Try.prog 13 [] w [] fun v N => ∃ b : Nat, v = .pointer (some ⟨b, 0, none⟩) ∧ N = xL b (none, 0) [] 0 := by
  refine Sp.mem (Res := fun v N => ∃ b : Nat, v = .pointer (some ⟨b, 0, none⟩) ∧ N = [.blk b (.cells (lgC true (.slice none 0 0) 0) 50 (0, 0)), .row 27 5 (.slice none 0 0) 0 [], bag []]) ?_ (fun v N ⟨b, h1, h2⟩ => ⟨_, fun w' hp => by subst h2; exact hp.rowLr (i := 1) (l := []) rfl, b, h1, rfl⟩)
  refine Sp.enter (n := 3) Try.func13 rfl rfl rfl (Hp.refl w) ?_
  refine T.mem (fun _ h => h.bagNil) ?_
  refine T.row0 27 5 ?_
  repeat' (first   | ((with_reducible refine is_build ?_); (first | refine ⟨_, Yl_build rfl (z_build50 true), ?_⟩))    | (first | ((((refine' Ef_appG_row (news := mE _) rfl rfl rfl ?q1 ?q2 ?q3 (mE_one _) ?q4 ?q5 ?_); (case q1 => exact app_of rfl); (case q2 => (first | exact at0 | exact at1 | exact at2 | exact at3 | exact at4 | exact at5 | exact at6)); (case q3 => (repeat (first | exact .head _ | apply List.Mem.tail))); (case q4 => omega); (case q5 => omega))); (intro _ _)))  | refine w1 ?_ | (refine w2 ?_ ?_ <;> intro hc) | (first | ((refine' ⟨_, Yl_sl_hmZ (h := k) rfl rfl rfl hkn ?q1 ?q2 ?q3, ?_⟩); (case q1 => exact und_of rfl); (case q2 => exact siz_of rfl); (case q3 => omega)) | ((refine' ⟨_, Yl_sl_hZ (h := k) rfl rfl hkn ?q1 ?q2 ?q3, ?_⟩); (case q1 => exact und_of rfl); (case q2 => exact siz_of rfl); (case q3 => omega))) | (refine w4 ?_; (first | ((fail_if_success have := b1); intro b1) | intro _)) | (refine w5 ?_; (intro _ _)) | refine w3 ?_ ?_ | fail_if_success skip)
  exact ret_n [.blk b1 (.cells (lgC true (.slice none 0 0) 0) 50 (0, 0)), .row 27 5 (.slice none 0 0) 0 [], bag []] (res1 rfl rfl) (by (repeat (first | exact List.nil_sublist _ | refine List.Sublist.cons_cons _ ?_ | refine List.Sublist.cons _ ?_))) ⟨b1, rfl, rfl⟩

section
variable (b : Nat) (z : Hd) (l : List Me) (sy : Int) (w : World) (R : List Nat) (hp : Hp w R (xL b z l sy) w)
include hp
theorem mark_c : Sp Try.prog 29 [.pointer (some ⟨b, 0, none⟩)] w R fun v N => v = .int .i64 0 ∧ N = xL b z l l.length := by
  obtain ⟨C', hC⟩ : ∃ C', C' = lgC true (.slice z.1 l.length z.2) l.length := ⟨_, rfl⟩
  refine Sp.enter (n := 13) Try.func29 rfl rfl rfl hp ?_
  subst hC
  repeat' (first
      | ((with_reducible refine ie_store ?_); (first | ((refine' Ef_storeA' rfl rfl ?q1 (mE_one _) ?q2 ?q3 ?_); (case q1 => exact siz_of rfl); (case q2 => (first | exact at0 | exact at1 | exact at2 | exact at3 | exact at4 | exact at5 | exact at6)); (case q3 => rfl)) | ((refine' Ef_storeC (C' := C') rfl rfl ?q1 ?q2 ?q3 ?q4 ?q5 ?_); (case q1 => rfl); (case q2 => exact siz_of rfl); (case q3 => (first | exact at0 | exact at1 | exact at2 | exact at3 | exact at4 | exact at5 | exact at6)); (case q4 => exact Nat.le_of_ble_eq_true rfl); (case q5 => rfl))))
      | ((with_reducible refine ie_callf ?_); (first | ((with_reducible refine g_call 37 ?_); (first | ((refine' Ef_callP rfl rfl ent_37 (fun w hp => none1_v w b true (.slice z.1 l.length z.2) sy (hp.blkOf ?q1)) ?_); (case q1 => (repeat (first | exact .head _ | apply List.Mem.tail))))))))
      | (first | ((((refine' Ef_appG_row (news := mE _) rfl rfl rfl ?q1 ?q2 ?q3 (mE_one _) ?q4 ?q5 ?_); (case q1 => exact app_of rfl); (case q2 => (first | exact at0 | exact at1 | exact at2 | exact at3 | exact at4 | exact at5 | exact at6)); (case q3 => (repeat (first | exact .head _ | apply List.Mem.tail))); (case q4 => omega); (case q5 => omega))); (intro _ _)))
      | refine w1 ?_
      | (refine w2 ?_ ?_ <;> intro hc)
      | (first | ((refine' ⟨_, Yl_sl_hmZ (h := k) rfl rfl rfl hkn ?q1 ?q2 ?q3, ?_⟩); (case q1 => exact und_of rfl); (case q2 => exact siz_of rfl); (case q3 => omega)) | ((refine' ⟨_, Yl_sl_hZ (h := k) rfl rfl hkn ?q1 ?q2 ?q3, ?_⟩); (case q1 => exact und_of rfl); (case q2 => exact siz_of rfl); (case q3 => omega)))
      | (refine w4 ?_; (intro _))
      | (refine w5 ?_; (intro _ _))
      | refine w3 ?_ ?_
      | fail_if_success skip)
  exact ret_n (xL b z l l.length) (res1 rfl rfl) (by (repeat (first | exact List.nil_sublist _ | refine List.Sublist.cons_cons _ ?_ | refine List.Sublist.cons _ ?_))) ⟨rfl, rfl⟩
set_option maxHeartbeats 2000000 in
theorem cut_c (n : Int) : Sp Try.prog 30 [.pointer (some ⟨b, 0, none⟩), .int .i64 n] w R fun v N => ∃ y : Hd × List Me, y.2.map (·.1) = (Lg.cut (l.map (·.1)) sy n).1.1 ∧ v = .int .i64 (Lg.cut (l.map (·.1)) sy n).2 ∧ N = xL b y.1 y.2 (Lg.cut (l.map (·.1)) sy n).1.2 := by
  have hcap := hp.lrCap (l := l) (z := z) (by (repeat (first | exact .head _ | apply List.Mem.tail)))
  unfold Lg.cut
  rw [List.length_map]
  by_cases hg : n < 0 ∨ (¬ n < 0 ∧ (l.length : Int) < n)
  · rw [if_pos (by omega)]
    rcases hg with g1 | ⟨g1, g2⟩
    all_goals
      refine Sp.enter (n := 39) Try.func30 rfl rfl rfl hp ?_
      repeat' (first
          | ((with_reducible refine ie_store ?_); (first | ((refine' Ef_storeA' rfl rfl ?q1 (mE_one _) ?q2 ?q3 ?_); (case q1 => exact siz_of rfl); (case q2 => (first | exact at0 | exact at1 | exact at2 | exact at3 | exact at4 | exact at5 | exact at6)); (case q3 => rfl)) | ((refine' Ef_storeC (C' := C') rfl rfl ?q1 ?q2 ?q3 ?q4 ?q5 ?_); (case q1 => rfl); (case q2 => exact siz_of rfl); (case q3 => (first | exact at0 | exact at1 | exact at2 | exact at3 | exact at4 | exact at5 | exact at6)); (case q4 => exact Nat.le_of_ble_eq_true rfl); (case q5 => rfl))))
          | ((with_reducible refine ie_callf ?_); (first | ((with_reducible refine g_call 37 ?_); (first | ((refine' Ef_callP rfl rfl ent_37 (fun w hp => none1_v w b true (.slice z.1 l.length z.2) sy (hp.blkOf ?q1)) ?_); (case q1 => (repeat (first | exact .head _ | apply List.Mem.tail))))))))
          | (first | ((((refine' Ef_appG_row (news := mE _) rfl rfl rfl ?q1 ?q2 ?q3 (mE_one _) ?q4 ?q5 ?_); (case q1 => exact app_of rfl); (case q2 => (first | exact at0 | exact at1 | exact at2 | exact at3 | exact at4 | exact at5 | exact at6)); (case q3 => (repeat (first | exact .head _ | apply List.Mem.tail))); (case q4 => omega); (case q5 => omega))); (intro _ _)))
          | refine w1 ?_
          | (refine w2 ?_ ?_ <;> intro hc)
          | (first | ((refine' ⟨_, Yl_sl_hmZ (h := k) rfl rfl rfl hkn ?q1 ?q2 ?q3, ?_⟩); (case q1 => exact und_of rfl); (case q2 => exact siz_of rfl); (case q3 => omega)) | ((refine' ⟨_, Yl_sl_hZ (h := k) rfl rfl hkn ?q1 ?q2 ?q3, ?_⟩); (case q1 => exact und_of rfl); (case q2 => exact siz_of rfl); (case q3 => omega)))
          | (refine w4 ?_; (intro _))
          | (refine w5 ?_; (intro _ _))
          | refine w3 ?_ ?_
          | fail_if_success skip)
      exact ret_n (xL b z l sy) (res1 rfl rfl) (by (repeat (first | exact List.nil_sublist _ | refine List.Sublist.cons_cons _ ?_ | refine List.Sublist.cons _ ?_))) ⟨(z, l), rfl, rfl, rfl⟩
  · have g1 : ¬ n < 0 := by omega
    have g2 : ¬ (l.length : Int) < n := by omega
    rw [if_neg (by omega)]
    obtain ⟨k, hkn⟩ : ∃ k : Nat, (k : Int) = n := ⟨n.toNat, by omega⟩
    have hk : k ≤ l.length := by omega
    have hlk : (l.take k).length = k := by rw [List.length_take]; omega
    refine Sp.mem (Res := fun v N => v = .int .i64 0 ∧ N = [.blk b (.cells (lgC true (.slice z.1 k k) (min sy n)) 50 (0, 0)), lr l z, bag (l.map bA)]) ?_ (fun v N ⟨h1, h2⟩ => ⟨xL b (z.1, k) (l.take k) (min sy n), fun w' hp => ?_, ((z.1, k), l.take k), ?_, h1, rfl⟩)
    · refine Sp.enter (n := 39) Try.func30 rfl rfl rfl hp ?_
      obtain ⟨C', hC⟩ : ∃ C', C' = lgC true (.slice z.1 k k) sy := ⟨_, rfl⟩
      repeat' (first
          | ((with_reducible refine ie_store ?_); (first | ((refine' Ef_storeA' rfl rfl ?q1 (mE_one _) ?q2 ?q3 ?_); (case q1 => exact siz_of rfl); (case q2 => (first | exact at0 | exact at1 | exact at2 | exact at3 | exact at4 | exact at5 | exact at6)); (case q3 => rfl)) | ((refine' Ef_storeC (C' := C') rfl rfl ?q1 ?q2 ?q3 ?q4 ?q5 ?_); (case q1 => rfl); (case q2 => exact siz_of rfl); (case q3 => (first | exact at0 | exact at1 | exact at2 | exact at3 | exact at4 | exact at5 | exact at6)); (case q4 => exact Nat.le_of_ble_eq_true rfl); (case q5 => rfl))))
          | ((with_reducible refine ie_callf ?_); (first | ((with_reducible refine g_call 37 ?_); (first | ((refine' Ef_callP rfl rfl ent_37 (fun w hp => none1_v w b true (.slice z.1 l.length z.2) sy (hp.blkOf ?q1)) ?_); (case q1 => (repeat (first | exact .head _ | apply List.Mem.tail))))))))
          | (first | ((((refine' Ef_appG_row (news := mE _) rfl rfl rfl ?q1 ?q2 ?q3 (mE_one _) ?q4 ?q5 ?_); (case q1 => exact app_of rfl); (case q2 => (first | exact at0 | exact at1 | exact at2 | exact at3 | exact at4 | exact at5 | exact at6)); (case q3 => (repeat (first | exact .head _ | apply List.Mem.tail))); (case q4 => omega); (case q5 => omega))); (intro _ _)))
          | refine w1 ?_
          | (refine w2 ?_ ?_ <;> intro hc)
          | (first | ((refine' ⟨_, Yl_sl_hmZ (h := k) rfl rfl rfl hkn ?q1 ?q2 ?q3, ?_⟩); (case q1 => exact und_of rfl); (case q2 => exact siz_of rfl); (case q3 => omega)) | ((refine' ⟨_, Yl_sl_hZ (h := k) rfl rfl hkn ?q1 ?q2 ?q3, ?_⟩); (case q1 => exact und_of rfl); (case q2 => exact siz_of rfl); (case q3 => omega)))
          | (refine w4 ?_; (intro _))
          | (refine w5 ?_; (intro _ _))
          | refine w3 ?_ ?_
          | fail_if_success skip)
      exact ret_n [.blk b (.cells (lgC true (.slice z.1 k k) (min sy n)) 50 (0, 0)), lr l z, bag (l.map bA)] (res1 rfl rfl) (by (repeat (first | exact List.nil_sublist _ | refine List.Sublist.cons_cons _ ?_ | refine List.Sublist.cons _ ?_))) ⟨rfl, rfl⟩
    · subst h2
      have h3 := hp.lrCut (i := 1) rfl hk
      have h4 := (h3.ofPart (M' := [bag (l.map bA), .blk b (.cells (lgC true (.slice z.1 k k) (min sy n)) 50 (0, 0)), lr (l.take k) (z.1, k)]) (by (repeat (first | exact Part.nil | refine Part.p0 ?_ | refine Part.p1 ?_ | refine Part.p2 ?_ | refine Part.p3 ?_ | refine Part.p4 ?_ | refine Part.p5 ?_ | refine Part.p6 ?_)))).bagSub (l2 := (l.take k).map bA) (List.Sublist.map _ (List.take_sublist _ _))
      unfold xL
      rw [hlk]
      exact h4.ofPart (by (repeat (first | exact Part.nil | refine Part.p0 ?_ | refine Part.p1 ?_ | refine Part.p2 ?_ | refine Part.p3 ?_ | refine Part.p4 ?_ | refine Part.p5 ?_ | refine Part.p6 ?_)))
    · have e1 : n.toNat = k := by omega
      rw [e1, List.map_take]
end
end Go.Proofs.Ytegaejbfhpigjaa
