/- Law: a net takes just so many packets: what a call comes to. -/
import Derived.Test.YtdbpnolpgkcjiaaT6
namespace Go.Proofs.Ytdbpnolpgkcjiaa
open Go.RowKit Go.Conc

theorem len_one {l ns : List Pk} {y : List UInt8} (h : ns.map (·.1) = [y]) : (l ++ ns).length = l.length + 1 := by
  have h1 : ns.length = 1 := by have := congrArg List.length h; simpa using this
  rw [List.length_append, h1]

set_option maxHeartbeats 8000000 in
theorem full_law (k : Int) (w : World) : Sp Try.prog 3 [.int .i64 k] w [] fun v N => v = .bool true ∧ N = [] := by
  by_cases hk : 4090 ≤ k ∧ k ≤ 4100
  · obtain ⟨hk1, hk2⟩ := hk
    refine Sp.enter (n := 47) Try.func3 rfl rfl rfl (Hp.refl w) ?_
    refine T.mem (fun _ h => h.bagNil) ?_
    repeat' (first
        | ((with_reducible refine ie_callf ?_); (first
        | ((with_reducible refine g_call 9 ?_); (first | (refine Ef_callN rfl rfl ent_9 (fun w _ => new_c w) ?_; rintro ⟨b, c⟩)))
        | ((with_reducible refine g_call 10 ?_); (first
        | (((refine' Ef_callW [false, true, true] rfl rfl ent_10 rfl rfl rfl (fun w hp hp2 => send_c b c w _ l hp2 (some ⟨b1, 0, none⟩) 1 [([], (none, 0))] (hp.rowOf ?q1) (hp.apartS [false, true, true] rfl rfl (A := .row 38 1 (.slice (some ⟨b1, 0, none⟩) 1 1) 1 [.slice none 0 0]) ?q2 (.head _)) (fun x hx => by rw [List.mem_singleton.1 hx]; exact Rd.nil) (fun x hx h => by rw [List.mem_singleton.1 hx] at h; cases h) (fun x hx => by rw [List.mem_singleton.1 hx]; exact Nat.zero_le _) hroom) ?_); (case q1 => (repeat (first | exact .head _ | apply List.Mem.tail))); (case q2 => (repeat (first | exact .head _ | apply List.Mem.tail)))); rintro ns hns)
        | (((refine' Ef_callS [false, true, true] rfl rfl ent_10 rfl rfl rfl (fun w hp => sendF_c b c w _ l hfull (hp.hand [false, true, true] rfl) (some ⟨b1, 0, none⟩) 1 ([], (none, 0)) (hp.rowOf ?q1) (hp.apartS [false, true, true] rfl rfl (A := .row 38 1 (.slice (some ⟨b1, 0, none⟩) 1 1) 1 [.slice none 0 0]) ?q2 (.head _)) Rd.nil (fun h => by cases h) (Nat.zero_le _)) ?_); (case q1 => (repeat (first | exact .head _ | apply List.Mem.tail))); (case q2 => (repeat (first | exact .head _ | apply List.Mem.tail)))); rintro _ _ ⟨rfl, rfl⟩)))
        | ((with_reducible refine g_call 11 ?_); (first | (refine Ef_callX (φ := fun ns : List Pk => ns.map (·.1) = [x0.1]) [true, true, true] rfl rfl ent_11 rfl rfl rfl (fun w hp => double_c b c w _ l hp h5 3 hroom2 x0 hx0) ?_; rintro ns hns; have hlx := len_one (l := l) hns) | refine Ef_callT [true, true, true] rfl rfl ent_11 rfl rfl rfl (fun w hp => doubleF_c b c w _ l hfull2 hp h5 3 hle x0 hx0) ?_))
        | ((with_reducible refine g_call 12 ?_); (first | refine Ef_callT [true, true] rfl rfl ent_12 rfl rfl rfl (fun w hp => len_c b c w _ _ hp) ?_))))
        | refine w1 ?_
        | (refine w2 ?_ ?_ <;> intro hc)
        | (refine w4 ?_; (first | ((fail_if_success have := b1); intro b1) | intro _))
        | (refine w5 ?_; (intro _ _))
        | refine w3 ?_ ?_
        | fail_if_success skip)
    refine T.loopM (α := Nat × List Pk) (fun z => [(0, .int .i64 k), (3, .pointer (some ⟨b, 0, none⟩)), (4, .int .i64 (z.1 : Int))]) (fun z => [nO b c, chA c z.2, bag (z.2.map bP)])
      (fun z => (z.1 : Int) ≤ k ∧ z.2.length = min z.1 4096 ∧ ∀ p ∈ z.2, p.1.length ≤ 6000) (fun z => k.toNat - z.1) (0, []) ?_ ?_ ?_ ?_
    · (repeat (first | exact Sub.nil | refine Sub.cons rfl ?_))
    · exact fun _ h => h.ofPart (by (repeat (first | exact Part.nil | refine Part.p0 ?_ | refine Part.p1 ?_ | refine Part.p2 ?_ | refine Part.p3 ?_ | refine Part.p4 ?_ | refine Part.p5 ?_ | refine Part.p6 ?_)))
    · exact ⟨by dsimp only; omega, by simp, fun x hx => by cases hx⟩
    · rintro ⟨i, l⟩ ⟨hi, hl, h5⟩
      dsimp only at hi hl h5 ⊢
      by_cases hlt : (i : Int) < k
      · by_cases hf : i < 4096
        · have hroom : l.length + 1 ≤ 4096 := by omega
          repeat' (first
              | ((with_reducible refine ie_callf ?_); (first
              | ((with_reducible refine g_call 9 ?_); (first | (refine Ef_callN rfl rfl ent_9 (fun w _ => new_c w) ?_; rintro ⟨b, c⟩)))
              | ((with_reducible refine g_call 10 ?_); (first
              | (((refine' Ef_callW [false, true, true] rfl rfl ent_10 rfl rfl rfl (fun w hp hp2 => send_c b c w _ l hp2 (some ⟨b1, 0, none⟩) 1 [([], (none, 0))] (hp.rowOf ?q1) (hp.apartS [false, true, true] rfl rfl (A := .row 38 1 (.slice (some ⟨b1, 0, none⟩) 1 1) 1 [.slice none 0 0]) ?q2 (.head _)) (fun x hx => by rw [List.mem_singleton.1 hx]; exact Rd.nil) (fun x hx h => by rw [List.mem_singleton.1 hx] at h; cases h) (fun x hx => by rw [List.mem_singleton.1 hx]; exact Nat.zero_le _) hroom) ?_); (case q1 => (repeat (first | exact .head _ | apply List.Mem.tail))); (case q2 => (repeat (first | exact .head _ | apply List.Mem.tail)))); rintro ns hns)
              | (((refine' Ef_callS [false, true, true] rfl rfl ent_10 rfl rfl rfl (fun w hp => sendF_c b c w _ l hfull (hp.hand [false, true, true] rfl) (some ⟨b1, 0, none⟩) 1 ([], (none, 0)) (hp.rowOf ?q1) (hp.apartS [false, true, true] rfl rfl (A := .row 38 1 (.slice (some ⟨b1, 0, none⟩) 1 1) 1 [.slice none 0 0]) ?q2 (.head _)) Rd.nil (fun h => by cases h) (Nat.zero_le _)) ?_); (case q1 => (repeat (first | exact .head _ | apply List.Mem.tail))); (case q2 => (repeat (first | exact .head _ | apply List.Mem.tail)))); rintro _ _ ⟨rfl, rfl⟩)))
              | ((with_reducible refine g_call 11 ?_); (first | (refine Ef_callX (φ := fun ns : List Pk => ns.map (·.1) = [x0.1]) [true, true, true] rfl rfl ent_11 rfl rfl rfl (fun w hp => double_c b c w _ l hp h5 3 hroom2 x0 hx0) ?_; rintro ns hns; have hlx := len_one (l := l) hns) | refine Ef_callT [true, true, true] rfl rfl ent_11 rfl rfl rfl (fun w hp => doubleF_c b c w _ l hfull2 hp h5 3 hle x0 hx0) ?_))
              | ((with_reducible refine g_call 12 ?_); (first | refine Ef_callT [true, true] rfl rfl ent_12 rfl rfl rfl (fun w hp => len_c b c w _ _ hp) ?_))))
              | refine w1 ?_
              | (refine w2 ?_ ?_ <;> intro hc)
              | (refine w4 ?_; (first | ((fail_if_success have := b1); intro b1) | intro _))
              | (refine w5 ?_; (intro _ _))
              | refine w3 ?_ ?_
              | fail_if_success skip)
          refine loopH_n (i + 1, l ++ ns) ?_ (fun w' h => ?_) ⟨show ((i + 1 : Nat) : Int) ≤ k by omega, ?_, ?_⟩ (show k.toNat - (i + 1) < k.toNat - i by omega)
          · (repeat (first | exact Sub.nil | refine Sub.cons rfl ?_))
          · dsimp only
            rw [List.map_append]
            exact ((h.ofPart (M' := [bag (l.map bP), bag (ns.map bP), nO b c, chA c (l ++ ns)]) (by (repeat (first | exact Part.nil | refine Part.p0 ?_ | refine Part.p1 ?_ | refine Part.p2 ?_ | refine Part.p3 ?_ | refine Part.p4 ?_ | refine Part.p5 ?_ | refine Part.p6 ?_)))).bagApp).ofPart (by (repeat (first | exact Part.nil | refine Part.p0 ?_ | refine Part.p1 ?_ | refine Part.p2 ?_ | refine Part.p3 ?_ | refine Part.p4 ?_ | refine Part.p5 ?_ | refine Part.p6 ?_)))
          · have h1 : ns.length = 1 := by have := congrArg List.length hns; simpa using this
            dsimp only
            rw [List.length_append]; omega
          · intro p hp
            rcases List.mem_append.1 hp with hp | hp
            · exact h5 p hp
            · have h1 : p.1 ∈ ns.map (·.1) := List.mem_map.2 ⟨p, hp, rfl⟩
              rw [hns] at h1
              have h2 : p.1 = [] := by simpa using h1
              rw [h2]; exact Nat.zero_le _
        · have hfull : 4096 ≤ l.length := by omega
          have hroom : True := trivial
          repeat' (first
              | ((with_reducible refine ie_callf ?_); (first
              | ((with_reducible refine g_call 9 ?_); (first | (refine Ef_callN rfl rfl ent_9 (fun w _ => new_c w) ?_; rintro ⟨b, c⟩)))
              | ((with_reducible refine g_call 10 ?_); (first
              | (((refine' Ef_callW [false, true, true] rfl rfl ent_10 rfl rfl rfl (fun w hp hp2 => send_c b c w _ l hp2 (some ⟨b1, 0, none⟩) 1 [([], (none, 0))] (hp.rowOf ?q1) (hp.apartS [false, true, true] rfl rfl (A := .row 38 1 (.slice (some ⟨b1, 0, none⟩) 1 1) 1 [.slice none 0 0]) ?q2 (.head _)) (fun x hx => by rw [List.mem_singleton.1 hx]; exact Rd.nil) (fun x hx h => by rw [List.mem_singleton.1 hx] at h; cases h) (fun x hx => by rw [List.mem_singleton.1 hx]; exact Nat.zero_le _) hroom) ?_); (case q1 => (repeat (first | exact .head _ | apply List.Mem.tail))); (case q2 => (repeat (first | exact .head _ | apply List.Mem.tail)))); rintro ns hns)
              | (((refine' Ef_callS [false, true, true] rfl rfl ent_10 rfl rfl rfl (fun w hp => sendF_c b c w _ l hfull (hp.hand [false, true, true] rfl) (some ⟨b1, 0, none⟩) 1 ([], (none, 0)) (hp.rowOf ?q1) (hp.apartS [false, true, true] rfl rfl (A := .row 38 1 (.slice (some ⟨b1, 0, none⟩) 1 1) 1 [.slice none 0 0]) ?q2 (.head _)) Rd.nil (fun h => by cases h) (Nat.zero_le _)) ?_); (case q1 => (repeat (first | exact .head _ | apply List.Mem.tail))); (case q2 => (repeat (first | exact .head _ | apply List.Mem.tail)))); rintro _ _ ⟨rfl, rfl⟩)))
              | ((with_reducible refine g_call 11 ?_); (first | (refine Ef_callX (φ := fun ns : List Pk => ns.map (·.1) = [x0.1]) [true, true, true] rfl rfl ent_11 rfl rfl rfl (fun w hp => double_c b c w _ l hp h5 3 hroom2 x0 hx0) ?_; rintro ns hns; have hlx := len_one (l := l) hns) | refine Ef_callT [true, true, true] rfl rfl ent_11 rfl rfl rfl (fun w hp => doubleF_c b c w _ l hfull2 hp h5 3 hle x0 hx0) ?_))
              | ((with_reducible refine g_call 12 ?_); (first | refine Ef_callT [true, true] rfl rfl ent_12 rfl rfl rfl (fun w hp => len_c b c w _ _ hp) ?_))))
              | refine w1 ?_
              | (refine w2 ?_ ?_ <;> intro hc)
              | (refine w4 ?_; (first | ((fail_if_success have := b1); intro b1) | intro _))
              | (refine w5 ?_; (intro _ _))
              | refine w3 ?_ ?_
              | fail_if_success skip)
          refine loopH_n (i + 1, l) ?_ (fun w' h => h.ofPart (by (repeat (first | exact Part.nil | refine Part.p0 ?_ | refine Part.p1 ?_ | refine Part.p2 ?_ | refine Part.p3 ?_ | refine Part.p4 ?_ | refine Part.p5 ?_ | refine Part.p6 ?_)))) ⟨show ((i + 1 : Nat) : Int) ≤ k by omega, by dsimp only; omega, h5⟩ (show k.toNat - (i + 1) < k.toNat - i by omega)
          (repeat (first | exact Sub.nil | refine Sub.cons rfl ?_))
      · have hle : l.length ≤ 4096 := by omega
        obtain ⟨x0, hx0⟩ := some_of_lt (l := l) (i := plc 3 l.length) (plc_lt (by omega))
        have hcs : (4096 ≤ k ∧ 4096 ≤ l.length) ∨ (k = 4095 ∧ l.length = 4095) ∨ (k < 4095 ∧ l.length < 4095) := by omega
        rcases hcs with ⟨g1, hfull2⟩ | ⟨g1, hfull2⟩ | ⟨g1, hfull2⟩
        · have hroom2 : True := trivial
          repeat' (first
              | ((with_reducible refine ie_callf ?_); (first
              | ((with_reducible refine g_call 9 ?_); (first | (refine Ef_callN rfl rfl ent_9 (fun w _ => new_c w) ?_; rintro ⟨b, c⟩)))
              | ((with_reducible refine g_call 10 ?_); (first
              | (((refine' Ef_callW [false, true, true] rfl rfl ent_10 rfl rfl rfl (fun w hp hp2 => send_c b c w _ l hp2 (some ⟨b1, 0, none⟩) 1 [([], (none, 0))] (hp.rowOf ?q1) (hp.apartS [false, true, true] rfl rfl (A := .row 38 1 (.slice (some ⟨b1, 0, none⟩) 1 1) 1 [.slice none 0 0]) ?q2 (.head _)) (fun x hx => by rw [List.mem_singleton.1 hx]; exact Rd.nil) (fun x hx h => by rw [List.mem_singleton.1 hx] at h; cases h) (fun x hx => by rw [List.mem_singleton.1 hx]; exact Nat.zero_le _) hroom) ?_); (case q1 => (repeat (first | exact .head _ | apply List.Mem.tail))); (case q2 => (repeat (first | exact .head _ | apply List.Mem.tail)))); rintro ns hns)
              | (((refine' Ef_callS [false, true, true] rfl rfl ent_10 rfl rfl rfl (fun w hp => sendF_c b c w _ l hfull (hp.hand [false, true, true] rfl) (some ⟨b1, 0, none⟩) 1 ([], (none, 0)) (hp.rowOf ?q1) (hp.apartS [false, true, true] rfl rfl (A := .row 38 1 (.slice (some ⟨b1, 0, none⟩) 1 1) 1 [.slice none 0 0]) ?q2 (.head _)) Rd.nil (fun h => by cases h) (Nat.zero_le _)) ?_); (case q1 => (repeat (first | exact .head _ | apply List.Mem.tail))); (case q2 => (repeat (first | exact .head _ | apply List.Mem.tail)))); rintro _ _ ⟨rfl, rfl⟩)))
              | ((with_reducible refine g_call 11 ?_); (first | (refine Ef_callX (φ := fun ns : List Pk => ns.map (·.1) = [x0.1]) [true, true, true] rfl rfl ent_11 rfl rfl rfl (fun w hp => double_c b c w _ l hp h5 3 hroom2 x0 hx0) ?_; rintro ns hns; have hlx := len_one (l := l) hns) | refine Ef_callT [true, true, true] rfl rfl ent_11 rfl rfl rfl (fun w hp => doubleF_c b c w _ l hfull2 hp h5 3 hle x0 hx0) ?_))
              | ((with_reducible refine g_call 12 ?_); (first | refine Ef_callT [true, true] rfl rfl ent_12 rfl rfl rfl (fun w hp => len_c b c w _ _ hp) ?_))))
              | refine w1 ?_
              | (refine w2 ?_ ?_ <;> intro hc)
              | (refine w4 ?_; (first | ((fail_if_success have := b1); intro b1) | intro _))
              | (refine w5 ?_; (intro _ _))
              | refine w3 ?_ ?_
              | fail_if_success skip)
          exact ret_n [] (res1 rfl rfl) (List.nil_sublist _) ⟨rfl, rfl⟩
        · have hroom2 : l.length + 1 ≤ 4096 := by omega
          repeat' (first
              | ((with_reducible refine ie_callf ?_); (first
              | ((with_reducible refine g_call 9 ?_); (first | (refine Ef_callN rfl rfl ent_9 (fun w _ => new_c w) ?_; rintro ⟨b, c⟩)))
              | ((with_reducible refine g_call 10 ?_); (first
              | (((refine' Ef_callW [false, true, true] rfl rfl ent_10 rfl rfl rfl (fun w hp hp2 => send_c b c w _ l hp2 (some ⟨b1, 0, none⟩) 1 [([], (none, 0))] (hp.rowOf ?q1) (hp.apartS [false, true, true] rfl rfl (A := .row 38 1 (.slice (some ⟨b1, 0, none⟩) 1 1) 1 [.slice none 0 0]) ?q2 (.head _)) (fun x hx => by rw [List.mem_singleton.1 hx]; exact Rd.nil) (fun x hx h => by rw [List.mem_singleton.1 hx] at h; cases h) (fun x hx => by rw [List.mem_singleton.1 hx]; exact Nat.zero_le _) hroom) ?_); (case q1 => (repeat (first | exact .head _ | apply List.Mem.tail))); (case q2 => (repeat (first | exact .head _ | apply List.Mem.tail)))); rintro ns hns)
              | (((refine' Ef_callS [false, true, true] rfl rfl ent_10 rfl rfl rfl (fun w hp => sendF_c b c w _ l hfull (hp.hand [false, true, true] rfl) (some ⟨b1, 0, none⟩) 1 ([], (none, 0)) (hp.rowOf ?q1) (hp.apartS [false, true, true] rfl rfl (A := .row 38 1 (.slice (some ⟨b1, 0, none⟩) 1 1) 1 [.slice none 0 0]) ?q2 (.head _)) Rd.nil (fun h => by cases h) (Nat.zero_le _)) ?_); (case q1 => (repeat (first | exact .head _ | apply List.Mem.tail))); (case q2 => (repeat (first | exact .head _ | apply List.Mem.tail)))); rintro _ _ ⟨rfl, rfl⟩)))
              | ((with_reducible refine g_call 11 ?_); (first | (refine Ef_callX (φ := fun ns : List Pk => ns.map (·.1) = [x0.1]) [true, true, true] rfl rfl ent_11 rfl rfl rfl (fun w hp => double_c b c w _ l hp h5 3 hroom2 x0 hx0) ?_; rintro ns hns; have hlx := len_one (l := l) hns) | refine Ef_callT [true, true, true] rfl rfl ent_11 rfl rfl rfl (fun w hp => doubleF_c b c w _ l hfull2 hp h5 3 hle x0 hx0) ?_))
              | ((with_reducible refine g_call 12 ?_); (first | refine Ef_callT [true, true] rfl rfl ent_12 rfl rfl rfl (fun w hp => len_c b c w _ _ hp) ?_))))
              | refine w1 ?_
              | (refine w2 ?_ ?_ <;> intro hc)
              | (refine w4 ?_; (first | ((fail_if_success have := b1); intro b1) | intro _))
              | (refine w5 ?_; (intro _ _))
              | refine w3 ?_ ?_
              | fail_if_success skip)
          exact ret_n [] (res1 rfl rfl) (List.nil_sublist _) ⟨rfl, rfl⟩
        · have hroom2 : l.length + 1 ≤ 4096 := by omega
          repeat' (first
              | ((with_reducible refine ie_callf ?_); (first
              | ((with_reducible refine g_call 9 ?_); (first | (refine Ef_callN rfl rfl ent_9 (fun w _ => new_c w) ?_; rintro ⟨b, c⟩)))
              | ((with_reducible refine g_call 10 ?_); (first
              | (((refine' Ef_callW [false, true, true] rfl rfl ent_10 rfl rfl rfl (fun w hp hp2 => send_c b c w _ l hp2 (some ⟨b1, 0, none⟩) 1 [([], (none, 0))] (hp.rowOf ?q1) (hp.apartS [false, true, true] rfl rfl (A := .row 38 1 (.slice (some ⟨b1, 0, none⟩) 1 1) 1 [.slice none 0 0]) ?q2 (.head _)) (fun x hx => by rw [List.mem_singleton.1 hx]; exact Rd.nil) (fun x hx h => by rw [List.mem_singleton.1 hx] at h; cases h) (fun x hx => by rw [List.mem_singleton.1 hx]; exact Nat.zero_le _) hroom) ?_); (case q1 => (repeat (first | exact .head _ | apply List.Mem.tail))); (case q2 => (repeat (first | exact .head _ | apply List.Mem.tail)))); rintro ns hns)
              | (((refine' Ef_callS [false, true, true] rfl rfl ent_10 rfl rfl rfl (fun w hp => sendF_c b c w _ l hfull (hp.hand [false, true, true] rfl) (some ⟨b1, 0, none⟩) 1 ([], (none, 0)) (hp.rowOf ?q1) (hp.apartS [false, true, true] rfl rfl (A := .row 38 1 (.slice (some ⟨b1, 0, none⟩) 1 1) 1 [.slice none 0 0]) ?q2 (.head _)) Rd.nil (fun h => by cases h) (Nat.zero_le _)) ?_); (case q1 => (repeat (first | exact .head _ | apply List.Mem.tail))); (case q2 => (repeat (first | exact .head _ | apply List.Mem.tail)))); rintro _ _ ⟨rfl, rfl⟩)))
              | ((with_reducible refine g_call 11 ?_); (first | (refine Ef_callX (φ := fun ns : List Pk => ns.map (·.1) = [x0.1]) [true, true, true] rfl rfl ent_11 rfl rfl rfl (fun w hp => double_c b c w _ l hp h5 3 hroom2 x0 hx0) ?_; rintro ns hns; have hlx := len_one (l := l) hns) | refine Ef_callT [true, true, true] rfl rfl ent_11 rfl rfl rfl (fun w hp => doubleF_c b c w _ l hfull2 hp h5 3 hle x0 hx0) ?_))
              | ((with_reducible refine g_call 12 ?_); (first | refine Ef_callT [true, true] rfl rfl ent_12 rfl rfl rfl (fun w hp => len_c b c w _ _ hp) ?_))))
              | refine w1 ?_
              | (refine w2 ?_ ?_ <;> intro hc)
              | (refine w4 ?_; (first | ((fail_if_success have := b1); intro b1) | intro _))
              | (refine w5 ?_; (intro _ _))
              | refine w3 ?_ ?_
              | fail_if_success skip)
          exact ret_n [] (res1 rfl rfl) (List.nil_sublist _) ⟨rfl, rfl⟩
  · have h2 : k < 4090 ∨ (¬ k < 4090 ∧ 4100 < k) := by omega
    rcases h2 with h2 | ⟨h2, h3⟩
    all_goals
      refine Sp.enter (n := 47) Try.func3 rfl rfl rfl (Hp.refl w) ?_
      repeat' (first
          | ((with_reducible refine ie_callf ?_); (first
          | ((with_reducible refine g_call 9 ?_); (first | (refine Ef_callN rfl rfl ent_9 (fun w _ => new_c w) ?_; rintro ⟨b, c⟩)))
          | ((with_reducible refine g_call 10 ?_); (first
          | (((refine' Ef_callW [false, true, true] rfl rfl ent_10 rfl rfl rfl (fun w hp hp2 => send_c b c w _ l hp2 (some ⟨b1, 0, none⟩) 1 [([], (none, 0))] (hp.rowOf ?q1) (hp.apartS [false, true, true] rfl rfl (A := .row 38 1 (.slice (some ⟨b1, 0, none⟩) 1 1) 1 [.slice none 0 0]) ?q2 (.head _)) (fun x hx => by rw [List.mem_singleton.1 hx]; exact Rd.nil) (fun x hx h => by rw [List.mem_singleton.1 hx] at h; cases h) (fun x hx => by rw [List.mem_singleton.1 hx]; exact Nat.zero_le _) hroom) ?_); (case q1 => (repeat (first | exact .head _ | apply List.Mem.tail))); (case q2 => (repeat (first | exact .head _ | apply List.Mem.tail)))); rintro ns hns)
          | (((refine' Ef_callS [false, true, true] rfl rfl ent_10 rfl rfl rfl (fun w hp => sendF_c b c w _ l hfull (hp.hand [false, true, true] rfl) (some ⟨b1, 0, none⟩) 1 ([], (none, 0)) (hp.rowOf ?q1) (hp.apartS [false, true, true] rfl rfl (A := .row 38 1 (.slice (some ⟨b1, 0, none⟩) 1 1) 1 [.slice none 0 0]) ?q2 (.head _)) Rd.nil (fun h => by cases h) (Nat.zero_le _)) ?_); (case q1 => (repeat (first | exact .head _ | apply List.Mem.tail))); (case q2 => (repeat (first | exact .head _ | apply List.Mem.tail)))); rintro _ _ ⟨rfl, rfl⟩)))
          | ((with_reducible refine g_call 11 ?_); (first | (refine Ef_callX (φ := fun ns : List Pk => ns.map (·.1) = [x0.1]) [true, true, true] rfl rfl ent_11 rfl rfl rfl (fun w hp => double_c b c w _ l hp h5 3 hroom2 x0 hx0) ?_; rintro ns hns; have hlx := len_one (l := l) hns) | refine Ef_callT [true, true, true] rfl rfl ent_11 rfl rfl rfl (fun w hp => doubleF_c b c w _ l hfull2 hp h5 3 hle x0 hx0) ?_))
          | ((with_reducible refine g_call 12 ?_); (first | refine Ef_callT [true, true] rfl rfl ent_12 rfl rfl rfl (fun w hp => len_c b c w _ _ hp) ?_))))
          | refine w1 ?_
          | (refine w2 ?_ ?_ <;> intro hc)
          | (refine w4 ?_; (first | ((fail_if_success have := b1); intro b1) | intro _))
          | (refine w5 ?_; (intro _ _))
          | refine w3 ?_ ?_
          | fail_if_success skip)
      exact ret_n [] (res1 rfl rfl) (List.nil_sublist _) ⟨rfl, rfl⟩
end Go.Proofs.Ytdbpnolpgkcjiaa
