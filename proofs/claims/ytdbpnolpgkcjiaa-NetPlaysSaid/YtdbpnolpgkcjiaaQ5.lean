/- The statement on NetPlays: the law comes to true for every input, and the input reads as it did. -/
import Derived.Test.YtdbpnolpgkcjiaaL10
import Derived.Test.YtdbpnolpgkcjiaaLt
import Derived.WalkKit
import Derived.ProofKit
import Derived.OpenShut
import Derived.ShutString
import Derived.ChangeOld
import Derived.Below
import Derived.Test.YtdbpnolpgkcjiaaRows
import Derived.Test.YtdbpnolpgkcjiaaRead
import Derived.Test.YtdbpnolpgkcjiaaReadZ
namespace Go.Proofs.Ytdbpnolpgkcjiaa.netPlaysDone
open Go.ChangeShapes Go.WideShapes Go.ChangeAt Go.RowKit
set_option linter.unusedVariables false

theorem own : ownKnob Try.prog.godebug = none := by kernel_rfl
theorem laidOut : laidOutB Try.prog = true := by kernel_rfl

set_option maxRecDepth 100000 in
set_option maxHeartbeats 2000000 in
theorem lifted (os : Os) (started : os.Started) (H : Type) (enc : TypeId × Value → H) :
    ReturnsInHanded {} Try.checked os 5 .any (Rows.netPlaysSpec.pre6 enc Try.prog Try.f5 Rows.netPlaysRow.domain false) (Rows.netPlaysSpec.post enc Try.prog Try.f5 false true false false) := by
  refine returnsInHanded_of_change_sized (C := Try.checked) own started (by kernel_rfl) Try.func5
    (ChangeSpec.witness6 (enc := enc) (C := Try.checked) false ⟨#[], #[.slice none 0 0], []⟩ 8 (by kernel_rfl) (by kernel_rfl) (by kernel_rfl) (by kernel_rfl)) ?_
  intro W base args ds gs before hval0 hW hcnd hwt _
  have hval : ∀ (j : Nat) t v, Try.f5.params[j]? = some t → args[j]? = some v → Value.okWide Try.prog W .any base t v := hval0
  have hW' := hW
  obtain ⟨p, q, hA0, hV, rfl, hfz, hnd⟩ := hW
  have hA : DataW.TrodAll enc Try.prog W 0 (fun _ => true) true Try.f5.params.toList args.toList ds p := hA0
  rw [Try.params5] at hA hval
  obtain ⟨v0, vs0, d0, ds0, p0, q0, hargs, rfl, rfl, h0, r0⟩ := trodAll_cons hA
  obtain ⟨rfl, rfl, rfl⟩ := trodAll_nil r0
  obtain rfl : args = #[v0] := by cases args; simp_all
  obtain ⟨rfl, rfl⟩ := trodVars_none hV
  obtain ⟨A0, len0, cap0, xs0, rfl, lc0, cm0, rd0, is0⟩ := ar_sl Try.underlying33 (hval 0 33 v0 rfl rfl) (is_arg (sh := .sl (.pair (.int .i64) (.pair (.int .i64) (.pair (.sl (.sl (.int .u8))) (.unit))))) (by kernel_rfl) h0)
  obtain ⟨lz0, xz0, rz0, iy0⟩ := byz_sl (isy_arg (sh := .sl (.pair (.int .i64) (.pair (.int .i64) (.pair (.sl (.sl (.int .u8))) (.unit))))) 0 hwt (by rw [Try.params5]; rfl) rfl (by kernel_rfl) h0)
  clear hA0 hval0
  obtain ⟨l0, hl0, rfl, hi0, hk0, hp0⟩ := yacts_of rz0 iy0
  subst hl0
  have lzz : l0.length ≤ 140737488355328 := by have h : l0.length * 1 ≤ 140737488355328 := lz0; omega
  have hkz : ∀ a ∈ l0, a.l.length ≤ 140737488355328 := fun a h => by have := hk0 a h; omega
  refine (playsG_law A0 cap0 l0 W rz0 hi0 lzz hkz hp0 hk0).run.mono fun e W' ⟨v, N, he, ⟨hv, _⟩, hp⟩ => ?_
  subst hv he
  have bel := hp.below
  exact ⟨_, rfl, _, _, _, [], _, [], hW', trodAll_mk1 (shut_bool Try.underlying4 _), (trodAll_cons_mk (Below.trod laidOut (by kernel_rfl) (of_decide_eq_true (by kernel_rfl)) h0 bel (arg_lt h0)) trodAll_mk0), rfl, bel.frame _, fun h => by cases h⟩

theorem over : Rows.netPlaysRow.holds Try.pinned (OpenSpec.ofChange Rows.netPlaysSpec) :=
  OpenClaim.holds_of_wide 5 Try.f5 rfl rfl rfl rfl rfl rfl rfl ⟨rfl, rfl, rfl, rfl, rfl⟩ rfl rfl rfl rfl rfl (by kernel_rfl) Try.func5 (by kernel_rfl)
    (of_decide_eq_true (by kernel_rfl)) (by unfold Func.isWrapper; first | (rw [if_pos (by decide +kernel)]; kernel_rfl) | (rw [if_neg (by decide +kernel)]; exact ⟨rfl, rfl⟩))
    (fun os started H enc _ => lifted os started H enc)

/-- The statement. -/
theorem proved : Rows.NetPlaysSaid := over
end Go.Proofs.Ytdbpnolpgkcjiaa.netPlaysDone
