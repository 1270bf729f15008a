/- The statement on NetNil: the law comes to true for every input, and the input reads as it did. -/
import Derived.Test.YtdbpnolpgkcjiaaL4
import Derived.Test.YtdbpnolpgkcjiaaLr
import Derived.WalkKit
import Derived.ProofKit
import Derived.OpenShut
import Derived.ShutString
import Derived.ChangeOld
import Derived.Below
import Derived.Test.YtdbpnolpgkcjiaaRows
import Derived.Test.YtdbpnolpgkcjiaaRead
import Derived.Test.YtdbpnolpgkcjiaaReadZ
namespace Go.Proofs.Ytdbpnolpgkcjiaa.netNilDone
open Go.ChangeShapes Go.WideShapes Go.ChangeAt Go.RowKit
set_option linter.unusedVariables false

theorem own : ownKnob Try.prog.godebug = none := by kernel_rfl
theorem laidOut : laidOutB Try.prog = true := by kernel_rfl

set_option maxRecDepth 100000 in
set_option maxHeartbeats 2000000 in
theorem lifted (os : Os) (started : os.Started) (H : Type) (enc : TypeId × Value → H) :
    ReturnsInHanded {} Try.checked os 4 .any (Rows.netNilSpec.pre6 enc Try.prog Try.f4 Rows.netNilRow.domain false) (Rows.netNilSpec.post enc Try.prog Try.f4 false true false false) := by
  refine returnsInHanded_of_change_sized (C := Try.checked) own started (by kernel_rfl) Try.func4
    (ChangeSpec.witness6 (enc := enc) (C := Try.checked) false ⟨#[], #[.agg #[.int .i64 0, .int .i64 0, .slice none 0 0]], []⟩ 8 (by kernel_rfl) (by kernel_rfl) (by kernel_rfl) (by kernel_rfl)) ?_
  intro W base args ds gs before hval0 hW hcnd hwt _
  have hval : ∀ (j : Nat) t v, Try.f4.params[j]? = some t → args[j]? = some v → Value.okWide Try.prog W .any base t v := hval0
  have hW' := hW
  obtain ⟨p, q, hA0, hV, rfl, hfz, hnd⟩ := hW
  have hA : DataW.TrodAll enc Try.prog W 0 (fun _ => true) true Try.f4.params.toList args.toList ds p := hA0
  rw [Try.params4] at hA hval
  obtain ⟨v0, vs0, d0, ds0, p0, q0, hargs, rfl, rfl, h0, r0⟩ := trodAll_cons hA
  obtain ⟨rfl, rfl, rfl⟩ := trodAll_nil r0
  obtain rfl : args = #[v0] := by cases args; simp_all
  obtain ⟨rfl, rfl⟩ := trodVars_none hV
  obtain ⟨cs0, rfl, is0⟩ := ar_st Try.underlying31 (hval 0 31 v0 rfl rfl) (is_arg (sh := .pair (.int .i64) (.pair (.int .i64) (.pair (.sl (.sl (.int .u8))) (.unit)))) (by kernel_rfl) h0)
  have iy0 := iz_st (isz_arg (sh := .pair (.int .i64) (.pair (.int .i64) (.pair (.sl (.sl (.int .u8))) (.unit)))) 0 hwt (by rw [Try.params4]; rfl) rfl (by kernel_rfl) h0)
  clear hA0 hval0
  obtain ⟨a0, rfl, ha0, hk0, _⟩ := act_of iy0
  refine (nil_law a0 W ha0 hk0).run.mono fun e W' ⟨v, N, he, ⟨hv, _⟩, hp⟩ => ?_
  subst hv he
  have bel := hp.below
  exact ⟨_, rfl, _, _, _, [], _, [], hW', trodAll_mk1 (shut_bool Try.underlying4 _), (trodAll_cons_mk (Below.trod laidOut (by kernel_rfl) (of_decide_eq_true (by kernel_rfl)) h0 bel (arg_lt h0)) trodAll_mk0), rfl, bel.frame _, fun h => by cases h⟩

theorem over : Rows.netNilRow.holds Try.pinned (OpenSpec.ofChange Rows.netNilSpec) :=
  OpenClaim.holds_of_wide 4 Try.f4 rfl rfl rfl rfl rfl rfl rfl ⟨rfl, rfl, rfl, rfl, rfl⟩ rfl rfl rfl rfl rfl (by kernel_rfl) Try.func4 (by kernel_rfl)
    (of_decide_eq_true (by kernel_rfl)) (by unfold Func.isWrapper; first | (rw [if_pos (by decide +kernel)]; kernel_rfl) | (rw [if_neg (by decide +kernel)]; exact ⟨rfl, rfl⟩))
    (fun os started H enc _ => lifted os started H enc)

/-- The statement. -/
theorem proved : Rows.NetNilSaid := over
end Go.Proofs.Ytdbpnolpgkcjiaa.netNilDone
