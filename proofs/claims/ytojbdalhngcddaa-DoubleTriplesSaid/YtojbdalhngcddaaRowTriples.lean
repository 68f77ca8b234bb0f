/- DoubleTriples: for every input the law returns true, and each argument reads behind the call as it read before. No condition beyond the given statement's. -/
import Derived.Test.YtojbdalhngcddaaRows
import Derived.Test.YtojbdalhngcddaaKb
import Derived.Test.YtojbdalhngcddaaLe
namespace Go.Proofs.Ytojbdalhngcddaa.doubleTriples
set_option linter.unusedSimpArgs false
set_option linter.unusedVariables false
open Go.ChangeShapes Go.WideShapes Go.ChangeAt Go.RowKit

theorem own : ownKnob Try.prog.godebug = none := by kernel_rfl

set_option maxRecDepth 100000 in
theorem lifted (os : Os) (started : os.Started) (H : Type) (enc : TypeId × Value → H) :
    ReturnsInHanded {} Try.checked os 9 .any (Rows.doubleTriplesSpec.pre6 enc Try.prog Try.f9 Rows.doubleTriplesRow.domain false) (Rows.doubleTriplesSpec.post enc Try.prog Try.f9 false true false false) := by
  refine returnsInHanded_of_change (C := Try.checked) own started (by kernel_rfl) Try.func9
    (ChangeSpec.witness6 (enc := enc) (C := Try.checked) false ⟨#[], #[.agg #[.int .u16 0, .int .u16 0], .agg #[.int .u16 0, .int .u16 0, .int .u16 0], .agg #[.int .u16 0, .int .u16 0, .int .u16 0]], []⟩ 8 (by kernel_rfl) (by kernel_rfl) (by kernel_rfl) (by kernel_rfl)) ?_
  intro W base args ds gs before hval0 hW hcnd _
  have hval : ∀ (j : Nat) t v, Try.f9.params[j]? = some t → args[j]? = some v → Value.okWide Try.prog W .any base t v := hval0
  have hW' := hW
  obtain ⟨p, q, hA0, hV, rfl, hfz, hnd⟩ := hW
  have hA : DataW.TrodAll enc Try.prog W 0 (fun _ => true) true Try.f9.params.toList args.toList ds p := hA0
  rw [Try.params9] at hA hval
  obtain ⟨v0, vs0, d0, ds0, p0, q0, hargs, rfl, rfl, h0, r0⟩ := trodAll_cons hA
  obtain ⟨v1, vs1, d1, ds1, p1, q1, rfl, rfl, rfl, h1, r1⟩ := trodAll_cons r0
  obtain ⟨v2, vs2, d2, ds2, p2, q2, rfl, rfl, rfl, h2, r2⟩ := trodAll_cons r1
  obtain ⟨rfl, rfl, rfl⟩ := trodAll_nil r2
  obtain rfl : args = #[v0, v1, v2] := by cases args; simp_all
  obtain ⟨rfl, rfl⟩ := trodVars_none hV
  obtain ⟨a0_0, a0_1, rfl, rfl, ⟨la0_0, ua0_0⟩, ⟨la0_1, ua0_1⟩⟩ := open_dbl (hval 0 25 v0 rfl rfl) h0
  obtain ⟨a1_0, a1_1, a1_2, rfl, rfl, ⟨la1_0, ua1_0⟩, ⟨la1_1, ua1_1⟩, ⟨la1_2, ua1_2⟩⟩ := open_tri (hval 1 44 v1 rfl rfl) h1
  obtain ⟨a2_0, a2_1, a2_2, rfl, rfl, ⟨la2_0, ua2_0⟩, ⟨la2_1, ua2_1⟩, ⟨la2_2, ua2_2⟩⟩ := open_tri (hval 2 44 v2 rfl rfl) h2
  clear hA0 hval0
  simp only [List.append_nil] at hW'
  refine (triples_law a0_0 a0_1 a1_0 a1_1 a1_2 a2_0 a2_1 a2_2 la0_0 ua0_0 la0_1 ua0_1 la1_0 ua1_0 la1_1 ua1_1 la1_2 ua1_2 la2_0 ua2_0 la2_1 ua2_1 la2_2 ua2_2 W).mono fun e W' ⟨he, hg⟩ => ?_
  subst he
  exact ⟨_, rfl, _, _, _, [], [], [], hW', (trodAll_cons_mk (shut_bool Try.underlying4 _) trodAll_mk0), (trodAll_cons_mk (stays (by kernel_rfl) (of_decide_eq_true (by kernel_rfl)) h0) (trodAll_cons_mk (stays (by kernel_rfl) (of_decide_eq_true (by kernel_rfl)) h1) (trodAll_cons_mk (stays (by kernel_rfl) (of_decide_eq_true (by kernel_rfl)) h2) trodAll_mk0))), rfl, hg.frame _, fun h => by cases h⟩

theorem over : Rows.doubleTriplesRow.holds Try.pinned (OpenSpec.ofChange Rows.doubleTriplesSpec) :=
  OpenClaim.holds_of_wide 9 Try.f9 rfl rfl rfl rfl rfl rfl rfl ⟨rfl, rfl, rfl, rfl, rfl⟩ rfl rfl rfl rfl rfl (by kernel_rfl) Try.func9 (by kernel_rfl)
    (of_decide_eq_true (by kernel_rfl)) (by unfold Func.isWrapper; first | (rw [if_pos (by decide +kernel)]; kernel_rfl) | (rw [if_neg (by decide +kernel)]; exact ⟨rfl, rfl⟩))
    (fun os started H enc _ => lifted os started H enc)

/-- The given statement. -/
theorem proved : Rows.DoubleTriplesSaid :=
  over
#print axioms proved
end Go.Proofs.Ytojbdalhngcddaa.doubleTriples
