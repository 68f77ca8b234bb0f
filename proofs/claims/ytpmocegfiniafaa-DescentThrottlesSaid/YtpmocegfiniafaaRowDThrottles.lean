/- DescentThrottles: for every input the law returns true, and each argument reads behind the call as it read before. No condition beyond the given statement's. -/
import Derived.Test.YtpmocegfiniafaaRows
import Derived.Test.YtpmocegfiniafaaKw
import Derived.Test.YtpmocegfiniafaaQn
namespace Go.Proofs.Ytpmocegfiniafaa.descentThrottles
set_option linter.unusedSimpArgs false
set_option linter.unusedVariables false
open Go.ChangeShapes Go.WideShapes Go.ChangeAt Go.RowKit

theorem own : ownKnob Try.prog.godebug = none := by kernel_rfl

set_option maxRecDepth 100000 in
theorem lifted (os : Os) (started : os.Started) (H : Type) (enc : TypeId × Value → H) :
    ReturnsInHanded {} Try.checked os 6 .any (Rows.descentThrottlesSpec.pre6 enc Try.prog Try.f6 Rows.descentThrottlesRow.domain false) (Rows.descentThrottlesSpec.post enc Try.prog Try.f6 false true false false) := by
  refine returnsInHanded_of_change (C := Try.checked) own started (by kernel_rfl) Try.func6
    (ChangeSpec.witness6 (enc := enc) (C := Try.checked) false ⟨#[], #[.agg #[.int .u16 0, .int .u16 0, .int .u16 0, .int .u16 0, .int .u16 0, .int .u16 0, .int .u16 0, .int .u16 0], .agg #[.int .u16 0, .int .u16 0], .agg #[.int .u16 0, .int .u16 0]], []⟩ 8 (by kernel_rfl) (by kernel_rfl) (by kernel_rfl) (by kernel_rfl)) ?_
  intro W base args ds gs before hval0 hW hcnd _
  have hval : ∀ (j : Nat) t v, Try.f6.params[j]? = some t → args[j]? = some v → Value.okWide Try.prog W .any base t v := hval0
  have hW' := hW
  obtain ⟨p, q, hA0, hV, rfl, hfz, hnd⟩ := hW
  have hA : DataW.TrodAll enc Try.prog W 0 (fun _ => true) true Try.f6.params.toList args.toList ds p := hA0
  rw [Try.params6] at hA hval
  obtain ⟨v0, vs0, d0, ds0, p0, q0, hargs, rfl, rfl, h0, r0⟩ := trodAll_cons hA
  obtain ⟨v1, vs1, d1, ds1, p1, q1, rfl, rfl, rfl, h1, r1⟩ := trodAll_cons r0
  obtain ⟨v2, vs2, d2, ds2, p2, q2, rfl, rfl, rfl, h2, r2⟩ := trodAll_cons r1
  obtain ⟨rfl, rfl, rfl⟩ := trodAll_nil r2
  obtain rfl : args = #[v0, v1, v2] := by cases args; simp_all
  obtain ⟨rfl, rfl⟩ := trodVars_none hV
  obtain ⟨a0_0, a0_1, a0_2, a0_3, a0_4, a0_5, a0_6, a0_7, rfl, rfl, ⟨la0_0, ua0_0⟩, ⟨la0_1, ua0_1⟩, ⟨la0_2, ua0_2⟩, ⟨la0_3, ua0_3⟩, ⟨la0_4, ua0_4⟩, ⟨la0_5, ua0_5⟩, ⟨la0_6, ua0_6⟩, ⟨la0_7, ua0_7⟩⟩ := open_engine (hval 0 49 v0 rfl rfl) h0
  obtain ⟨a1_0, a1_1, rfl, rfl, ⟨la1_0, ua1_0⟩, ⟨la1_1, ua1_1⟩⟩ := open_dbl (hval 1 25 v1 rfl rfl) h1
  obtain ⟨a2_0, a2_1, rfl, rfl, ⟨la2_0, ua2_0⟩, ⟨la2_1, ua2_1⟩⟩ := open_dbl (hval 2 25 v2 rfl rfl) h2
  clear hA0 hval0
  simp only [List.append_nil] at hW'
  refine (throttles_law a0_0 a0_1 a0_2 a0_3 a0_4 a0_5 a0_6 a0_7 a1_0 a1_1 a2_0 a2_1 la0_0 ua0_0 la0_1 ua0_1 la0_2 ua0_2 la0_3 ua0_3 la0_4 ua0_4 la0_5 ua0_5 la0_6 ua0_6 la0_7 ua0_7 la1_0 ua1_0 la1_1 ua1_1 la2_0 ua2_0 la2_1 ua2_1 W).mono fun e W' ⟨he, hg⟩ => ?_
  subst he
  exact ⟨_, rfl, _, _, _, [], [], [], hW', (trodAll_cons_mk (shut_bool Try.underlying4 _) trodAll_mk0), (trodAll_cons_mk (stays (by kernel_rfl) (of_decide_eq_true (by kernel_rfl)) h0) (trodAll_cons_mk (stays (by kernel_rfl) (of_decide_eq_true (by kernel_rfl)) h1) (trodAll_cons_mk (stays (by kernel_rfl) (of_decide_eq_true (by kernel_rfl)) h2) trodAll_mk0))), rfl, hg.frame _, fun h => by cases h⟩

theorem over : Rows.descentThrottlesRow.holds Try.pinned (OpenSpec.ofChange Rows.descentThrottlesSpec) :=
  OpenClaim.holds_of_wide 6 Try.f6 rfl rfl rfl rfl rfl rfl rfl ⟨rfl, rfl, rfl, rfl, rfl⟩ rfl rfl rfl rfl rfl (by kernel_rfl) Try.func6 (by kernel_rfl)
    (of_decide_eq_true (by kernel_rfl)) (by unfold Func.isWrapper; first | (rw [if_pos (by decide +kernel)]; kernel_rfl) | (rw [if_neg (by decide +kernel)]; exact ⟨rfl, rfl⟩))
    (fun os started H enc _ => lifted os started H enc)

/-- The given statement. -/
theorem proved : Rows.DescentThrottlesSaid :=
  over
#print axioms proved
end Go.Proofs.Ytpmocegfiniafaa.descentThrottles
