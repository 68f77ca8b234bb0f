/- Contracts of package double on triples over this translation. -/
import Derived.Test.YtccnflemopajcaaDoorDa
namespace Go.Proofs.YtccnflemopajcaaDoor
set_option linter.unusedSimpArgs false
set_option linter.unusedVariables false
open Go.RowKit

set_option maxHeartbeats 400000 in
theorem triple_neg (v : Int) (h0 : -4398046511103 ≤ v) (h1 : v < 0) (w : World) :
    Calls Tryd.prog 48 #[.int .i64 v] w fun e w' => e = .returned (.agg #[.int .u16 (th (v)), .int .u16 (tm (v)), .int .u16 (lo (v))]) ∧ Below w.heap.size w w' := by
  have e0 : -v / 16384 / 16384 % 16384 = -v / 268435456 := by omega
  have e2 : lo v = 32767 - -v % 16384 := by unfold lo; rw [if_pos h1]
  have e3 : tm v = 32767 - -v / 16384 % 16384 := by unfold tm; rw [if_pos h1]
  have e4 : th v = 32767 - -v / 268435456 := by unfold th; rw [if_pos h1]
  go_enter Tryd.func48, Tryd.ntmps48
  go_wp2_with fail
  refine (digits_neg v (by omega) h1 _).mono ?_
  rintro _ _ ⟨rfl, rfl⟩
  go_wp2_with fail
  refine (digit_neg _ _ (-v) (by omega) (by omega) _ (by go_simp) (by go_simp) (by go_simp) (by omega)).mono ?_
  rintro _ _ ⟨rfl, rfl⟩
  go_wp2_with fail
  refine (digit_neg _ _ (-v / 16384) (by omega) (by omega) _ (by go_simp) (by go_simp) (by go_simp) (by omega)).mono ?_
  rintro _ _ ⟨rfl, rfl⟩
  go_wp2_with fail
  refine (digit_neg _ _ (-v / 16384 / 16384) (by omega) (by omega) _ (by go_simp) (by go_simp) (by go_simp) (by omega)).mono ?_
  rintro _ _ ⟨rfl, rfl⟩
  go_wp2_with fail
  refine bodyPost_ret (v := (.agg #[.int .u16 (th (v)), .int .u16 (tm (v)), .int .u16 (lo (v))])) (by simp [results, Tryd.results48, go_sem, e2, e3, e4, e0]) rfl ⟨rfl, ?_⟩
  exact (by repeat' (first | (with_reducible exact Below.refl _ _) | (with_reducible refine bl_set ?_ _ ?_) | (with_reducible refine bl_alloc ?_ _) | (with_reducible refine bl_drew ?_) | (with_reducible refine bl_via (by with_reducible assumption) ?_) | (with_reducible assumption) | omega | (simp only []; omega) | (simp; omega)))

set_option maxHeartbeats 400000 in
theorem triple_pos (v : Int) (h0 : 0 ≤ v) (h1 : v ≤ 4398046511103) (w : World) :
    Calls Tryd.prog 48 #[.int .i64 v] w fun e w' => e = .returned (.agg #[.int .u16 (th (v)), .int .u16 (tm (v)), .int .u16 (lo (v))]) ∧ Below w.heap.size w w' := by
  have e0 : v / 16384 / 16384 % 16384 = v / 268435456 := by omega
  have e2 : lo v = v % 16384 := by unfold lo; rw [if_neg (by omega)]
  have e3 : tm v = v / 16384 % 16384 := by unfold tm; rw [if_neg (by omega)]
  have e4 : th v = v / 268435456 := by unfold th; rw [if_neg (by omega)]
  go_enter Tryd.func48, Tryd.ntmps48
  go_wp2_with fail
  refine (digits_pos v (by omega) (by omega) _).mono ?_
  rintro _ _ ⟨rfl, rfl⟩
  go_wp2_with fail
  refine (digit_pos _ _ v (by omega) (by omega) _ (by go_simp) (by go_simp) (by go_simp) (by omega)).mono ?_
  rintro _ _ ⟨rfl, rfl⟩
  go_wp2_with fail
  refine (digit_pos _ _ (v / 16384) (by omega) (by omega) _ (by go_simp) (by go_simp) (by go_simp) (by omega)).mono ?_
  rintro _ _ ⟨rfl, rfl⟩
  go_wp2_with fail
  refine (digit_pos _ _ (v / 16384 / 16384) (by omega) (by omega) _ (by go_simp) (by go_simp) (by go_simp) (by omega)).mono ?_
  rintro _ _ ⟨rfl, rfl⟩
  go_wp2_with fail
  refine bodyPost_ret (v := (.agg #[.int .u16 (th (v)), .int .u16 (tm (v)), .int .u16 (lo (v))])) (by simp [results, Tryd.results48, go_sem, e2, e3, e4, e0]) rfl ⟨rfl, ?_⟩
  exact (by repeat' (first | (with_reducible exact Below.refl _ _) | (with_reducible refine bl_set ?_ _ ?_) | (with_reducible refine bl_alloc ?_ _) | (with_reducible refine bl_drew ?_) | (with_reducible refine bl_via (by with_reducible assumption) ?_) | (with_reducible assumption) | omega | (simp only []; omega) | (simp; omega)))

theorem triple_any (v : Int) (h0 : -4398046511103 ≤ v) (h1 : v ≤ 4398046511103) (w : World) :
    Calls Tryd.prog 48 #[.int .i64 v] w fun e w' => e = .returned (.agg #[.int .u16 (th (v)), .int .u16 (tm (v)), .int .u16 (lo (v))]) ∧ Below w.heap.size w w' := by
  by_cases h : v < 0
  · exact triple_neg v h0 h w
  · exact triple_pos v (by omega) h1 w

set_option maxHeartbeats 400000 in
theorem maketri_in (v : Int) (h0 : -4398046511103 ≤ v) (h1 : v ≤ 4398046511103) (w : World) :
    Calls Tryd.prog 36 #[.int .i64 v] w fun e w' => e = .returned (.tuple #[(.agg #[.int .u16 (th (v)), .int .u16 (tm (v)), .int .u16 (lo (v))]), .int .i64 0]) ∧ Below w.heap.size w w' := by
  have ho := outb_in v 4398046511103 h0 h1
  go_enter Tryd.func36, Tryd.ntmps36
  go_wp2_with fail
  refine (bounded_any v 4398046511103 (by omega) (by omega) _).mono ?_
  rintro _ _ ⟨rfl, rfl⟩
  go_wp2_with fail
  refine (triple_any v h0 h1 _).mono ?_
  rintro _ r1 ⟨rfl, hbr1⟩
  obtain ⟨hcr1, hfr1⟩ := bcell hbr1
  have hzr1 := hbr1.size
  try simp only [World.size_alloc, World.size_setCell, World.size_drew] at hzr1
  have hlr1w0 : w.heap.size < r1.heap.size := by omega
  go_wp2
  refine bodyPost_ret (v := .tuple #[(.agg #[.int .u16 (th (v)), .int .u16 (tm (v)), .int .u16 (lo (v))]), .int .i64 0]) (by simp [results, Tryd.results36, go_sem, *]) rfl ⟨rfl, ?_⟩; exact (by repeat' (first | (with_reducible exact Below.refl _ _) | (with_reducible refine bl_set ?_ _ ?_) | (with_reducible refine bl_alloc ?_ _) | (with_reducible refine bl_drew ?_) | (with_reducible refine bl_via (by with_reducible assumption) ?_) | (with_reducible assumption) | omega | (simp only []; omega) | (simp; omega)))

set_option maxHeartbeats 400000 in
theorem maketri_out (v : Int) (ho : outb v 4398046511103 = true) (w : World) :
    Calls Tryd.prog 36 #[.int .i64 v] w fun e w' => e = .returned (.tuple #[(.agg #[.int .u16 (0), .int .u16 (0), .int .u16 (0)]), .int .i64 3]) ∧ Below w.heap.size w w' := by
  go_enter Tryd.func36, Tryd.ntmps36
  go_wp2_with fail
  refine (bounded_any v 4398046511103 (by omega) (by omega) _).mono ?_
  rintro _ _ ⟨rfl, rfl⟩
  go_wp2
  refine bodyPost_ret (v := .tuple #[(.agg #[.int .u16 (0), .int .u16 (0), .int .u16 (0)]), .int .i64 3]) (by simp [results, Tryd.results36, go_sem, *]) rfl ⟨rfl, ?_⟩; exact (by repeat' (first | (with_reducible exact Below.refl _ _) | (with_reducible refine bl_set ?_ _ ?_) | (with_reducible refine bl_alloc ?_ _) | (with_reducible refine bl_drew ?_) | (with_reducible refine bl_via (by with_reducible assumption) ?_) | (with_reducible assumption) | omega | (simp only []; omega) | (simp; omega)))




end Go.Proofs.YtccnflemopajcaaDoor
