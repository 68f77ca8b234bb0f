/- AlignTurns: for every input the law returns true, and each argument reads behind the call as it read before, where the table of coefficients reads as the program's text lays it (the card ties it). No condition beyond the given statement's. -/
import Derived.Test.YtbbhppjamighdaaDoorRows
import Derived.Test.YtbbhppjamighdaaDoorCards
import Derived.Test.YtbbhppjamighdaaDoorTie
import Derived.Test.YtbbhppjamighdaaDoorSg
import Derived.ProofKit
import Derived.LaidMore
import Derived.OpenShut
import Derived.Stop.Joined
import Derived.SevenTiedAt
import Derived.Test.YtbbhppjamighdaaDoorKv
import Derived.Test.YtbbhppjamighdaaDoorAl
namespace Go.Proofs.YtbbhppjamighdaaDoor.alignTurns
set_option linter.unusedSimpArgs false
set_option linter.unusedVariables false
open Go.ChangeShapes Go.WideShapes Go.ChangeAt Go.WideMaps Go.WideElems Go.RowKit

theorem own : ownKnob Tryd.prog.godebug = none := by kernel_rfl

set_option maxRecDepth 100000 in
theorem lifted (os : Os) (started : os.Started) (H : Type) (enc : TypeId × Value → H) :
    ReturnsInHanded {} Tryd.checked os 8 .any (fun w args => (Rows.alignTurnsSpec.pre enc Tryd.prog Tryd.f8 [] false w args ∧ laidMetH Tryd.prog laidL w) ∧ sizedMet enc Tryd.prog Tryd.f8 (OpenSpec.ofChange Rows.alignTurnsSpec) false w args)
      (Rows.alignTurnsSpec.post enc Tryd.prog Tryd.f8 false true false false) := by
  refine returnsInHanded_of_change_and (C := Tryd.checked) (X := fun w _ => laidMetH Tryd.prog laidL w) (fun _ _ _ hh h => h.of_heap hh) own started (by kernel_rfl) Tryd.func8
    (ChangeSpec.witness_shaped (enc := enc) (C := Tryd.checked) (os := os) (X := fun w _ => laidMetH Tryd.prog laidL w) false (World.doorLaid Tryd.prog 400 os) #[.int .i64 0, .agg #[.int .u16 0, .int .u16 0], .agg #[.int .u16 0, .int .u16 0, .int .u16 0, .int .u16 0, .int .u16 0, .int .u16 0, .int .u16 0, .int .u16 0, .int .u16 0, .int .u16 0, .int .u16 0, .int .u16 0, .int .u16 0, .int .u16 0, .int .u16 0, .int .u16 0, .int .u16 0, .int .u16 0], .agg #[.int .u16 0, .int .u16 0, .int .u16 0, .int .u16 0, .int .u16 0, .int .u16 0]] 8 rfl (World.shaped_of_RefB (by kernel_rfl) (by kernel_rfl)) (by kernel_rfl) (by kernel_rfl) (by kernel_rfl) (door_met os _)) ?_
  intro W base args ds gs before hval0 hW _ _ hL _
  have hval : ∀ (j : Nat) t v, Tryd.f8.params[j]? = some t → args[j]? = some v → Value.okWide Tryd.prog W .any base t v := hval0
  have hW' := hW
  obtain ⟨p, q, hA0, hV, rfl, hfz, hnd⟩ := hW
  have hA : DataW.TrodAll enc Tryd.prog W 0 (fun _ => true) true Tryd.f8.params.toList args.toList ds p := hA0
  rw [Tryd.params8] at hA hval
  obtain ⟨v0, vs0, d0, ds0, p0, q0, hargs, rfl, rfl, h0, r0⟩ := trodAll_cons hA
  obtain ⟨v1, vs1, d1, ds1, p1, q1, rfl, rfl, rfl, h1, r1⟩ := trodAll_cons r0
  obtain ⟨v2, vs2, d2, ds2, p2, q2, rfl, rfl, rfl, h2, r2⟩ := trodAll_cons r1
  obtain ⟨v3, vs3, d3, ds3, p3, q3, rfl, rfl, rfl, h3, r3⟩ := trodAll_cons r2
  obtain ⟨rfl, rfl, rfl⟩ := trodAll_nil r3
  obtain rfl : args = #[v0, v1, v2, v3] := by cases args; simp_all
  obtain ⟨rfl, rfl⟩ := trodVars_none hV
  obtain ⟨a0, rfl, rfl, rfl, w0⟩ := open_int Tryd.underlying3 (hval 0 3 v0 rfl rfl) h0
  have bd0 := bounds_i64 w0
  obtain ⟨a1_0, a1_1, rfl, rfl, ⟨la1_0, ua1_0⟩, ⟨la1_1, ua1_1⟩⟩ := open_dbl (hval 1 25 v1 rfl rfl) h1
  obtain ⟨a2_0, a2_1, a2_2, a2_3, a2_4, a2_5, a2_6, a2_7, a2_8, a2_9, a2_10, a2_11, a2_12, a2_13, a2_14, a2_15, a2_16, a2_17, rfl, rfl, ⟨la2_0, ua2_0⟩, ⟨la2_1, ua2_1⟩, ⟨la2_2, ua2_2⟩, ⟨la2_3, ua2_3⟩, ⟨la2_4, ua2_4⟩, ⟨la2_5, ua2_5⟩, ⟨la2_6, ua2_6⟩, ⟨la2_7, ua2_7⟩, ⟨la2_8, ua2_8⟩, ⟨la2_9, ua2_9⟩, ⟨la2_10, ua2_10⟩, ⟨la2_11, ua2_11⟩, ⟨la2_12, ua2_12⟩, ⟨la2_13, ua2_13⟩, ⟨la2_14, ua2_14⟩, ⟨la2_15, ua2_15⟩, ⟨la2_16, ua2_16⟩, ⟨la2_17, ua2_17⟩⟩ := open_mat (hval 2 29 v2 rfl rfl) h2
  obtain ⟨a3_0, a3_1, a3_2, a3_3, a3_4, a3_5, rfl, rfl, ⟨la3_0, ua3_0⟩, ⟨la3_1, ua3_1⟩, ⟨la3_2, ua3_2⟩, ⟨la3_3, ua3_3⟩, ⟨la3_4, ua3_4⟩, ⟨la3_5, ua3_5⟩⟩ := open_vec (hval 3 27 v3 rfl rfl) h3
  clear hA0 hval0
  simp only [List.append_nil] at hW'
  refine (turns_law34 a0 a1_0 a1_1 a2_0 a2_1 a2_2 a2_3 a2_4 a2_5 a2_6 a2_7 a2_8 a2_9 a2_10 a2_11 a2_12 a2_13 a2_14 a2_15 a2_16 a2_17 a3_0 a3_1 a3_2 a3_3 a3_4 a3_5 la1_0 ua1_0 la1_1 ua1_1 la2_0 ua2_0 la2_1 ua2_1 la2_2 ua2_2 la2_3 ua2_3 la2_4 ua2_4 la2_5 ua2_5 la2_6 ua2_6 la2_7 ua2_7 la2_8 ua2_8 la2_9 ua2_9 la2_10 ua2_10 la2_11 ua2_11 la2_12 ua2_12 la2_13 ua2_13 la2_14 ua2_14 la2_15 ua2_15 la2_16 ua2_16 la2_17 ua2_17 la3_0 ua3_0 la3_1 ua3_1 la3_2 ua3_2 la3_3 ua3_3 la3_4 ua3_4 la3_5 ua3_5 bd0.1 bd0.2 W (of_laid hL)).mono fun e W' ⟨he, hg⟩ => ?_
  subst he
  exact ⟨_, rfl, _, _, _, [], [], [], hW', (trodAll_cons_mk (shut_bool Tryd.underlying4 _) trodAll_mk0), (trodAll_cons_mk (shut_int Tryd.underlying3 w0) (trodAll_cons_mk (stays (by kernel_rfl) (of_decide_eq_true (by kernel_rfl)) h1) (trodAll_cons_mk (stays (by kernel_rfl) (of_decide_eq_true (by kernel_rfl)) h2) (trodAll_cons_mk (stays (by kernel_rfl) (of_decide_eq_true (by kernel_rfl)) h3) trodAll_mk0)))), rfl, hg.frame _, fun h => by cases h⟩

theorem over : Rows.alignTurnsRow.holds Tryd.pinned (OpenSpec.ofChange Rows.alignTurnsSpec) :=
  OpenClaim.holds_of_wide 8 Tryd.f8 rfl rfl rfl rfl rfl rfl rfl ⟨rfl, rfl, rfl, rfl, rfl⟩ rfl rfl rfl rfl rfl (by kernel_rfl) Tryd.func8 (by kernel_rfl)
    (of_decide_eq_true (by kernel_rfl)) (by unfold Func.isWrapper; first | (rw [if_pos (by decide +kernel)]; kernel_rfl) | (rw [if_neg (by decide +kernel)]; exact ⟨rfl, rfl⟩))
    (fun os started H enc _ => lifted os started H enc)

/-- The card's tie. -/
def card : Claim7 := Rows.alignTurnsCard
theorem proved : Rows.AlignTurnsCardSaid :=
  Claim7.holds_tied_plain_at .later [] [.data] true (true, "eb1325b6ebbbcb92b330cd611406bf64526252fdffc4cd1aed32e50e98e5489a") false
    over (fun _ h => by cases h) (by kernel_rfl) (fun _ h => by cases h) alignTurns_row_tie rfl ⟨rfl, rfl⟩ (by kernel_rfl) rfl
    (fun f fn hf hfn => by
      obtain rfl : f = 8 := Option.some.inj ((show Tryd.prog.funcNamed "perilune/perilunelaw34.AlignTurns" = some 8 by kernel_rfl).symm.trans hf) |>.symm
      obtain rfl : fn = Tryd.f8 := (Option.some.inj (Tryd.func8.symm.trans hfn)).symm
      exact ⟨by kernel_rfl, fun j t ht => by
        rw [Tryd.params8] at ht
        have hm : t ∈ [3, 25, 29, 27] := by simpa using Array.mem_of_getElem? ht
        have hall : ([3, 25, 29, 27].all fun u => !Tryd.prog.wantsStandIn u) = true := by kernel_rfl
        exact (show Tryd.prog.wantsStandIn t = false by simpa using List.all_eq_true.1 hall t hm)⟩)
    (by kernel_rfl)
#print axioms proved
end Go.Proofs.YtbbhppjamighdaaDoor.alignTurns
