/- The table of coefficients as the given rows lay it: what that gives the walks; the door's own heap meets it. -/
import Derived.Test.YtbbhppjamighdaaDoorRows
import Derived.Test.YtbbhppjamighdaaDoorFs
import Derived.ProofKit
import Derived.LaidMore
import Derived.OpenShut
import Derived.Stop.Joined
namespace Go.Proofs.YtbbhppjamighdaaDoor
set_option linter.unusedSimpArgs false
set_option linter.unusedVariables false
open Go.ChangeShapes Go.WideShapes Go.ChangeAt Go.WideMaps Go.WideElems Go.RowKit

abbrev laidL : List (String × DataW Unit) := [("perilune/fixed.sines", Rows.laid_perilune_fixed_sines)]
theorem gSines : Tryd.prog.globalNamed "perilune/fixed.sines" = some 0 := by kernel_rfl
theorem tSines : (Tryd.prog.globals[0]?).map (·.type) = some 84 := by kernel_rfl
theorem uSines : Tryd.prog.underlying 84 = some (.array 7 2) := by kernel_rfl
theorem uI64 : Tryd.prog.underlying 2 = some (.int .i64) := by kernel_rfl
theorem cSines : Tryd.prog.cellsOf 84 = 7 := by kernel_rfl
theorem cI64 : Tryd.prog.cellsOf 2 = 1 := by kernel_rfl
/-- The door's own heap meets the condition. -/
theorem door_met (os : Os) (args : Array Value) : laidMetH Tryd.prog laidL ((World.doorLaid Tryd.prog 400 os).forCall (fun _ _ => 0) ⟨#[], args, []⟩).memory :=
  laidMetH_of_parts3 (fuel := 8) (laidMet_of_run' 8 (by kernel_rfl) (by kernel_rfl)) (by kernel_rfl) (by kernel_rfl)
theorem sized_of_cell {w : World} {b o : Nat} {v : Value} (h : w.cell? ⟨b, o, none⟩ = some v) : b < w.heap.size := by
  rcases Nat.lt_or_ge b w.heap.size with c | c
  · exact c
  · exfalso
    have e : w.heap[b]? = none := Array.getElem?_eq_none c
    simp [World.cell?, e] at h
/-- What the condition gives the walks. -/
theorem of_laid {W : World} (h : laidMetH Tryd.prog laidL W) : Sines W := by
  rw [MakeChecks.laidMetH_plain _ _ _ (by kernel_rfl)] at h
  obtain ⟨ps, ⟨g0, t0, cs0, f0, p0, q0, hg0, ht0, hv0, hd0, _⟩, _, _⟩ := h
  obtain rfl := Option.some.inj (gSines.symm.trans hg0)
  obtain rfl := Option.some.inj (tSines.symm.trans ht0)
  have hv := fun i => World.var?_cell hg0 hv0 i
  obtain ⟨xs, m1, _, hx1, hlen, hn, hel⟩ := DataW.trod_array uSines hd0
  rw [cI64] at hel
  rw [cSines] at hlen
  obtain ⟨l0⟩ := cs0
  simp only [Prod.mk.injEq, DataW.agg.injEq] at hx1
  have hx := hx1.1
  clear hx1 hd0 hv0
  match l0, hlen with
  | [c0, c1, c2, c3, c4, c5, c6], _ =>
    match xs, hn with
    | [x0, x1, x2, x3, x4, x5, x6], _ =>
      simp only [Rows.laid_perilune_fixed_sines, List.map_cons, List.map_nil, DataW.agg.injEq, List.cons.injEq, and_true] at hx
      obtain ⟨y0, y1, y2, y3, y4, y5, y6⟩ := hx
      obtain ⟨k0, e0, a0, _⟩ := DataW.trod_int uI64 (hel 0 (by decide))
      simp at e0 a0
      rw [a0] at y0
      simp at y0
      obtain ⟨k1, e1, a1, _⟩ := DataW.trod_int uI64 (hel 1 (by decide))
      simp at e1 a1
      rw [a1] at y1
      simp at y1
      obtain ⟨k2, e2, a2, _⟩ := DataW.trod_int uI64 (hel 2 (by decide))
      simp at e2 a2
      rw [a2] at y2
      simp at y2
      obtain ⟨k3, e3, a3, _⟩ := DataW.trod_int uI64 (hel 3 (by decide))
      simp at e3 a3
      rw [a3] at y3
      simp at y3
      obtain ⟨k4, e4, a4, _⟩ := DataW.trod_int uI64 (hel 4 (by decide))
      simp at e4 a4
      rw [a4] at y4
      simp at y4
      obtain ⟨k5, e5, a5, _⟩ := DataW.trod_int uI64 (hel 5 (by decide))
      simp at e5 a5
      rw [a5] at y5
      simp at y5
      obtain ⟨k6, e6, a6, _⟩ := DataW.trod_int uI64 (hel 6 (by decide))
      simp at e6 a6
      rw [a6] at y6
      simp at y6
      have h0 := hv 0
      simp at h0
      refine ⟨?_, ?_, ?_, ?_, ?_, ?_, ?_, sized_of_cell h0⟩
      · have h := hv 0
        simp at h
        rw [h, e0, ← y0]
      · have h := hv 1
        simp at h
        rw [h, e1, ← y1]
      · have h := hv 2
        simp at h
        rw [h, e2, ← y2]
      · have h := hv 3
        simp at h
        rw [h, e3, ← y3]
      · have h := hv 4
        simp at h
        rw [h, e4, ← y4]
      · have h := hv 5
        simp at h
        rw [h, e5, ← y5]
      · have h := hv 6
        simp at h
        rw [h, e6, ← y6]
end Go.Proofs.YtbbhppjamighdaaDoor
