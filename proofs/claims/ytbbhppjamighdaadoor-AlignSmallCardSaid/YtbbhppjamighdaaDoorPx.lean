/- For a small angle, twice its sine times 1 / (2 pi) is the angle within 8192 units. No Go in it. -/
import Derived.Test.YtbbhppjamighdaaDoorPr
import Derived.Test.YtbbhppjamighdaaDoorFa
namespace Go.Proofs.YtbbhppjamighdaaDoor
set_option linter.unusedSimpArgs false
set_option linter.unusedVariables false
open Go.RowKit

/-- Eight times 1 / (2 pi) times the polynomial of the sine, less the angle. -/
def qP : List Int := padd (pscale 341782640 sP) [0, -10086913586276986678343434265636765134100413253239154346994763111486904773503285916522052161250538404046496765518544896]
theorem qP_size : pabs qP 16777216 ≤ 271983537940372668794852361538629735075883542960340557812366792538132900312742601453100614475959517526709738785442044575744 := by decide +kernel
theorem sP_small : pabs sP 16777216 ≤ 495935987972107732389679744175503359773879868182090179530215143010158268985758384444759718353763561105468686705098752 := by decide +kernel
/-- For a small angle. -/
theorem small_turn (u : Int) (h0 : -4194304 ≤ u) (h1 : u ≤ 4194304) :
    (-134217727 ≤ sinv u ∧ sinv u ≤ 134217727) ∧ -8192 ≤ mulv (sinv u + sinv u) 42722830 - u ∧ mulv (sinv u + sinv u) 42722830 - u ≤ 8192 := by
  have e : red u = u := by unfold red red1; (repeat' split) <;> omega
  have e1 : sinv u = sinq u := by unfold sinv; rw [e]
  rw [e1]
  have n := sine_near u (by omega) (by omega)
  have a := ev_le qP (4 * u) 16777216 (by omega) (by omega) (by omega)
  have b := ev_le sP (4 * u) 16777216 (by omega) (by omega) (by omega)
  have c := qP_size
  have d := sP_small
  have f : ev qP (4 * u) = 341782640 * ev sP (4 * u) - 10086913586276986678343434265636765134100413253239154346994763111486904773503285916522052161250538404046496765518544896 * (4 * u) := by
    unfold qP; rw [ev_padd, ev_pscale]; simp only [ev]; omega
  rw [f] at a
  generalize ev sP (4 * u) = E at *
  generalize sinq u = s at *
  have m := rnd_near ((s + s) * 42722830) 268435456 (by omega)
  unfold mulv
  generalize rnd ((s + s) * 42722830) 268435456 = R at *
  refine ⟨⟨?_, ?_⟩, ?_, ?_⟩ <;> omega
end Go.Proofs.YtbbhppjamighdaaDoor
