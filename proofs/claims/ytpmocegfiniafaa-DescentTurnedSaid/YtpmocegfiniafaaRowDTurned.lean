/- DescentTurned: for every input the law returns true, and each argument reads behind the call as it read before. No condition beyond the given statement's. -/
import Derived.Test.YtpmocegfiniafaaRows
import Derived.Test.YtpmocegfiniafaaKw
import Derived.Test.YtpmocegfiniafaaQv
namespace Go.Proofs.Ytpmocegfiniafaa.descentTurned
set_option linter.unusedSimpArgs false
set_option linter.unusedVariables false
open Go.ChangeShapes Go.WideShapes Go.ChangeAt Go.RowKit

theorem own : ownKnob Try.prog.godebug = none := by kernel_rfl

set_option maxRecDepth 100000 in
theorem lifted (os : Os) (started : os.Started) (H : Type) (enc : TypeId × Value → H) :
    ReturnsInHanded {} Try.checked os 9 .any (Rows.descentTurnedSpec.pre6 enc Try.prog Try.f9 Rows.descentTurnedRow.domain false) (Rows.descentTurnedSpec.post enc Try.prog Try.f9 false true false false) := by
  refine returnsInHanded_of_change (C := Try.checked) own started (by kernel_rfl) Try.func9
    (ChangeSpec.witness6 (enc := enc) (C := Try.checked) false ⟨#[], #[.agg #[.int .u16 0, .int .u16 0, .int .u16 0, .int .u16 0, .int .u16 0, .int .u16 0, .int .u16 0, .int .u16 0, .int .u16 0, .int .u16 0, .int .u16 0, .int .u16 0], .agg #[.int .u16 0, .int .u16 0, .int .u16 0, .int .u16 0, .int .u16 0, .int .u16 0, .int .u16 0, .int .u16 0, .int .u16 0, .int .u16 0, .int .u16 0, .int .u16 0, .int .u16 0, .int .u16 0]], []⟩ 8 (by kernel_rfl) (by kernel_rfl) (by kernel_rfl) (by kernel_rfl)) ?_
  intro W base args ds gs before hval0 hW hcnd _
  have hval : ∀ (j : Nat) t v, Try.f9.params[j]? = some t → args[j]? = some v → Value.okWide Try.prog W .any base t v := hval0
  have hW' := hW
  obtain ⟨p, q, hA0, hV, rfl, hfz, hnd⟩ := hW
  have hA : DataW.TrodAll enc Try.prog W 0 (fun _ => true) true Try.f9.params.toList args.toList ds p := hA0
  rw [Try.params9] at hA hval
  obtain ⟨v0, vs0, d0, ds0, p0, q0, hargs, rfl, rfl, h0, r0⟩ := trodAll_cons hA
  obtain ⟨v1, vs1, d1, ds1, p1, q1, rfl, rfl, rfl, h1, r1⟩ := trodAll_cons r0
  obtain ⟨rfl, rfl, rfl⟩ := trodAll_nil r1
  obtain rfl : args = #[v0, v1] := by cases args; simp_all
  obtain ⟨rfl, rfl⟩ := trodVars_none hV
  obtain ⟨a0_0, a0_1, a0_2, a0_3, a0_4, a0_5, a0_6, a0_7, a0_8, a0_9, a0_10, a0_11, rfl, rfl, ⟨la0_0, ua0_0⟩, ⟨la0_1, ua0_1⟩, ⟨la0_2, ua0_2⟩, ⟨la0_3, ua0_3⟩, ⟨la0_4, ua0_4⟩, ⟨la0_5, ua0_5⟩, ⟨la0_6, ua0_6⟩, ⟨la0_7, ua0_7⟩, ⟨la0_8, ua0_8⟩, ⟨la0_9, ua0_9⟩, ⟨la0_10, ua0_10⟩, ⟨la0_11, ua0_11⟩⟩ := open_state (hval 0 29 v0 rfl rfl) h0
  obtain ⟨a1_0, a1_1, a1_2, a1_3, a1_4, a1_5, a1_6, a1_7, a1_8, a1_9, a1_10, a1_11, a1_12, a1_13, rfl, rfl, ⟨la1_0, ua1_0⟩, ⟨la1_1, ua1_1⟩, ⟨la1_2, ua1_2⟩, ⟨la1_3, ua1_3⟩, ⟨la1_4, ua1_4⟩, ⟨la1_5, ua1_5⟩, ⟨la1_6, ua1_6⟩, ⟨la1_7, ua1_7⟩, ⟨la1_8, ua1_8⟩, ⟨la1_9, ua1_9⟩, ⟨la1_10, ua1_10⟩, ⟨la1_11, ua1_11⟩, ⟨la1_12, ua1_12⟩, ⟨la1_13, ua1_13⟩⟩ := open_target (hval 1 31 v1 rfl rfl) h1
  clear hA0 hval0
  simp only [List.append_nil] at hW'
  refine (turned_law a0_0 a0_1 a0_2 a0_3 a0_4 a0_5 a0_6 a0_7 a0_8 a0_9 a0_10 a0_11 a1_0 a1_1 a1_2 a1_3 a1_4 a1_5 a1_6 a1_7 a1_8 a1_9 a1_10 a1_11 a1_12 a1_13 la0_0 ua0_0 la0_1 ua0_1 la0_2 ua0_2 la0_3 ua0_3 la0_4 ua0_4 la0_5 ua0_5 la0_6 ua0_6 la0_7 ua0_7 la0_8 ua0_8 la0_9 ua0_9 la0_10 ua0_10 la0_11 ua0_11 la1_0 ua1_0 la1_1 ua1_1 la1_2 ua1_2 la1_3 ua1_3 la1_4 ua1_4 la1_5 ua1_5 la1_6 ua1_6 la1_7 ua1_7 la1_8 ua1_8 la1_9 ua1_9 la1_10 ua1_10 la1_11 ua1_11 la1_12 ua1_12 la1_13 ua1_13 W).mono fun e W' ⟨he, hg⟩ => ?_
  subst he
  exact ⟨_, rfl, _, _, _, [], [], [], hW', (trodAll_cons_mk (shut_bool Try.underlying4 _) trodAll_mk0), (trodAll_cons_mk (stays (by kernel_rfl) (of_decide_eq_true (by kernel_rfl)) h0) (trodAll_cons_mk (stays (by kernel_rfl) (of_decide_eq_true (by kernel_rfl)) h1) trodAll_mk0)), rfl, hg.frame _, fun h => by cases h⟩

theorem over : Rows.descentTurnedRow.holds Try.pinned (OpenSpec.ofChange Rows.descentTurnedSpec) :=
  OpenClaim.holds_of_wide 9 Try.f9 rfl rfl rfl rfl rfl rfl rfl ⟨rfl, rfl, rfl, rfl, rfl⟩ rfl rfl rfl rfl rfl (by kernel_rfl) Try.func9 (by kernel_rfl)
    (of_decide_eq_true (by kernel_rfl)) (by unfold Func.isWrapper; first | (rw [if_pos (by decide +kernel)]; kernel_rfl) | (rw [if_neg (by decide +kernel)]; exact ⟨rfl, rfl⟩))
    (fun os started H enc _ => lifted os started H enc)

/-- The given statement. -/
theorem proved : Rows.DescentTurnedSaid :=
  over
#print axioms proved
end Go.Proofs.Ytpmocegfiniafaa.descentTurned
