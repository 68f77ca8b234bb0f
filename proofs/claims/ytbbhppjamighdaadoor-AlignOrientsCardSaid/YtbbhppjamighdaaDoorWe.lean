/- Contracts of the reference of layer 17: Times, Transpose. -/
import Derived.Test.YtbbhppjamighdaaDoorWa
import Derived.Test.YtbbhppjamighdaaDoorVf
namespace Go.Proofs.YtbbhppjamighdaaDoor
set_option linter.unusedSimpArgs false
set_option linter.unusedVariables false
open Go.RowKit

theorem rdot_w (a b c d e f a' b' c' d' e' f' : Int) (Wa : W16 a) (Wb : W16 b) (Wc : W16 c) (Wd : W16 d) (We : W16 e) (Wf : W16 f) (Wa' : W16 a') (Wb' : W16 b') (Wc' : W16 c') (Wd' : W16 d') (We' : W16 e') (Wf' : W16 f') (w : World) :
    Calls Tryd.prog 21 #[(.agg #[.int .u16 (a), .int .u16 (b), .int .u16 (c), .int .u16 (d), .int .u16 (e), .int .u16 (f)]), (.agg #[.int .u16 (a'), .int .u16 (b'), .int .u16 (c'), .int .u16 (d'), .int .u16 (e'), .int .u16 (f')])] w fun r w' =>
      r = .returned (.tuple #[(.agg #[.int .u16 (hi (sat (rnd (dot (val a b) (val c d) (val e f) (val a' b') (val c' d') (val e' f')) 268435456) 268435455)), .int .u16 (lo (sat (rnd (dot (val a b) (val c d) (val e f) (val a' b') (val c' d') (val e' f')) 268435456) 268435455))]), .bool (outb (rnd (dot (val a b) (val c d) (val e f) (val a' b') (val c' d') (val e' f')) 268435456) 268435455)]) ∧ Below w.heap.size w w' :=
  rdot_any a b c d e f a' b' c' d' e' f' Wa.1 Wa.2 Wb.1 Wb.2 Wc.1 Wc.2 Wd.1 Wd.2 We.1 We.2 Wf.1 Wf.2 Wa'.1 Wa'.2 Wb'.1 Wb'.2 Wc'.1 Wc'.2 Wd'.1 Wd'.2 We'.1 We'.2 Wf'.1 Wf'.2 w
theorem rvalue_w (x y : Int) (hx : W16 x) (hy : W16 y) (w : World) :
    Calls Tryd.prog 22 #[(.agg #[.int .u16 (x), .int .u16 (y)])] w fun e w' => e = .returned (.int .i64 (val x y)) ∧ Below w.heap.size w w' := rvalue_any x y hx.1 hx.2 hy.1 hy.2 w

set_option maxRecDepth 100000 in
set_option maxHeartbeats 4000000 in
theorem rtimes_any (m00 m01 m02 m03 m04 m05 m10 m11 m12 m13 m14 m15 m20 m21 m22 m23 m24 m25 a0 a1 a2 a3 a4 a5 : Int) (Wm00 : W16 m00) (Wm01 : W16 m01) (Wm02 : W16 m02) (Wm03 : W16 m03) (Wm04 : W16 m04) (Wm05 : W16 m05) (Wm10 : W16 m10) (Wm11 : W16 m11) (Wm12 : W16 m12) (Wm13 : W16 m13) (Wm14 : W16 m14) (Wm15 : W16 m15) (Wm20 : W16 m20) (Wm21 : W16 m21) (Wm22 : W16 m22) (Wm23 : W16 m23) (Wm24 : W16 m24) (Wm25 : W16 m25) (Wa0 : W16 a0) (Wa1 : W16 a1) (Wa2 : W16 a2) (Wa3 : W16 a3) (Wa4 : W16 a4) (Wa5 : W16 a5) (w : World) :
    Calls Tryd.prog 59 #[(.agg #[.int .u16 (m00), .int .u16 (m01), .int .u16 (m02), .int .u16 (m03), .int .u16 (m04), .int .u16 (m05), .int .u16 (m10), .int .u16 (m11), .int .u16 (m12), .int .u16 (m13), .int .u16 (m14), .int .u16 (m15), .int .u16 (m20), .int .u16 (m21), .int .u16 (m22), .int .u16 (m23), .int .u16 (m24), .int .u16 (m25)]), (.agg #[.int .u16 (a0), .int .u16 (a1), .int .u16 (a2), .int .u16 (a3), .int .u16 (a4), .int .u16 (a5)])] w fun r w' => r = .returned (.tuple #[(.agg #[.int .u16 (hi (sat (rnd (dot (val m00 m01) (val m02 m03) (val m04 m05) (val a0 a1) (val a2 a3) (val a4 a5)) 268435456) 268435455)), .int .u16 (lo (sat (rnd (dot (val m00 m01) (val m02 m03) (val m04 m05) (val a0 a1) (val a2 a3) (val a4 a5)) 268435456) 268435455)), .int .u16 (hi (sat (rnd (dot (val m10 m11) (val m12 m13) (val m14 m15) (val a0 a1) (val a2 a3) (val a4 a5)) 268435456) 268435455)), .int .u16 (lo (sat (rnd (dot (val m10 m11) (val m12 m13) (val m14 m15) (val a0 a1) (val a2 a3) (val a4 a5)) 268435456) 268435455)), .int .u16 (hi (sat (rnd (dot (val m20 m21) (val m22 m23) (val m24 m25) (val a0 a1) (val a2 a3) (val a4 a5)) 268435456) 268435455)), .int .u16 (lo (sat (rnd (dot (val m20 m21) (val m22 m23) (val m24 m25) (val a0 a1) (val a2 a3) (val a4 a5)) 268435456) 268435455))]), .bool ((outb (rnd (dot (val m00 m01) (val m02 m03) (val m04 m05) (val a0 a1) (val a2 a3) (val a4 a5)) 268435456) 268435455) || (outb (rnd (dot (val m10 m11) (val m12 m13) (val m14 m15) (val a0 a1) (val a2 a3) (val a4 a5)) 268435456) 268435455) || (outb (rnd (dot (val m20 m21) (val m22 m23) (val m24 m25) (val a0 a1) (val a2 a3) (val a4 a5)) 268435456) 268435455))]) ∧ Below w.heap.size w w' := by
  cases q0 : (outb (rnd (dot (val m00 m01) (val m02 m03) (val m04 m05) (val a0 a1) (val a2 a3) (val a4 a5)) 268435456) 268435455) <;> cases q1 : (outb (rnd (dot (val m10 m11) (val m12 m13) (val m14 m15) (val a0 a1) (val a2 a3) (val a4 a5)) 268435456) 268435455)
  all_goals
    go_enter Tryd.func59, Tryd.ntmps59
    go_wp2_with fail
    refine (rdot_w m00 m01 m02 m03 m04 m05 a0 a1 a2 a3 a4 a5 Wm00 Wm01 Wm02 Wm03 Wm04 Wm05 Wa0 Wa1 Wa2 Wa3 Wa4 Wa5 _).mono ?_
    rintro _ r1 ⟨rfl, hbr1⟩
    obtain ⟨hcr1, hfr1⟩ := bcell hbr1
    have hzr1 := hbr1.size
    try simp only [World.size_alloc, World.size_setCell, World.size_drew] at hzr1
    have hlr1w0 : w.heap.size < r1.heap.size := by omega
    have hlr1w1 : w.heap.size + 1 < r1.heap.size := by omega
    have hlr1w2 : w.heap.size + 1 + 1 < r1.heap.size := by omega
    have gzr1_0 : r1.cell? ⟨w.heap.size + 1 + 1, 0, none⟩ = some (.int .u16 0) := (hcr1 _ _ (by (try simp only [World.size_alloc, World.size_setCell]); omega)).trans (by go_simp)
    have gzr1_1 : r1.cell? ⟨w.heap.size + 1 + 1, 1, none⟩ = some (.int .u16 0) := (hcr1 _ _ (by (try simp only [World.size_alloc, World.size_setCell]); omega)).trans (by go_simp)
    have gzr1_2 : r1.cell? ⟨w.heap.size + 1 + 1, 2, none⟩ = some (.int .u16 0) := (hcr1 _ _ (by (try simp only [World.size_alloc, World.size_setCell]); omega)).trans (by go_simp)
    have gzr1_3 : r1.cell? ⟨w.heap.size + 1 + 1, 3, none⟩ = some (.int .u16 0) := (hcr1 _ _ (by (try simp only [World.size_alloc, World.size_setCell]); omega)).trans (by go_simp)
    have gzr1_4 : r1.cell? ⟨w.heap.size + 1 + 1, 4, none⟩ = some (.int .u16 0) := (hcr1 _ _ (by (try simp only [World.size_alloc, World.size_setCell]); omega)).trans (by go_simp)
    have gzr1_5 : r1.cell? ⟨w.heap.size + 1 + 1, 5, none⟩ = some (.int .u16 0) := (hcr1 _ _ (by (try simp only [World.size_alloc, World.size_setCell]); omega)).trans (by go_simp)
    go_wp2_with fail
    refine (rdot_w m10 m11 m12 m13 m14 m15 a0 a1 a2 a3 a4 a5 Wm10 Wm11 Wm12 Wm13 Wm14 Wm15 Wa0 Wa1 Wa2 Wa3 Wa4 Wa5 _).mono ?_
    rintro _ r2 ⟨rfl, hbr2⟩
    obtain ⟨hcr2, hfr2⟩ := bcell hbr2
    have hzr2 := hbr2.size
    try simp only [World.size_alloc, World.size_setCell, World.size_drew] at hzr2
    have hlr2w0 : w.heap.size < r2.heap.size := by omega
    have hlr2w1 : w.heap.size + 1 < r2.heap.size := by omega
    have hlr2w2 : w.heap.size + 1 + 1 < r2.heap.size := by omega
    have hlr2r10 : r1.heap.size < r2.heap.size := by omega
    have gzr2_0 : r2.cell? ⟨w.heap.size + 1 + 1, 0, none⟩ = some (.int .u16 0) := (hcr2 _ _ (by (try simp only [World.size_alloc, World.size_setCell]); omega)).trans (by with_reducible first | assumption | exact (World.cell?_alloc_lt _ _ _ (by omega)).trans (by assumption) | exact World.cell?_setCell_same _ _ _ (by assumption) | exact (World.cell?_setCell_other _ _ _ _ (by simp)).trans (by assumption) | exact (rcell_far _ _ _ _ (by dsimp only; omega)).trans ((rcell_far _ _ _ _ (by dsimp only; omega)).trans (by assumption)) | simp (disch := omega) [go_sem, *, List.getElem?_cons_zero, List.getElem?_cons_succ])
    have gzr2_1 : r2.cell? ⟨w.heap.size + 1 + 1, 1, none⟩ = some (.int .u16 0) := (hcr2 _ _ (by (try simp only [World.size_alloc, World.size_setCell]); omega)).trans (by with_reducible first | assumption | exact (World.cell?_alloc_lt _ _ _ (by omega)).trans (by assumption) | exact World.cell?_setCell_same _ _ _ (by assumption) | exact (World.cell?_setCell_other _ _ _ _ (by simp)).trans (by assumption) | exact (rcell_far _ _ _ _ (by dsimp only; omega)).trans ((rcell_far _ _ _ _ (by dsimp only; omega)).trans (by assumption)) | simp (disch := omega) [go_sem, *, List.getElem?_cons_zero, List.getElem?_cons_succ])
    have gzr2_2 : r2.cell? ⟨w.heap.size + 1 + 1, 2, none⟩ = some (.int .u16 0) := (hcr2 _ _ (by (try simp only [World.size_alloc, World.size_setCell]); omega)).trans (by with_reducible first | assumption | exact (World.cell?_alloc_lt _ _ _ (by omega)).trans (by assumption) | exact World.cell?_setCell_same _ _ _ (by assumption) | exact (World.cell?_setCell_other _ _ _ _ (by simp)).trans (by assumption) | exact (rcell_far _ _ _ _ (by dsimp only; omega)).trans ((rcell_far _ _ _ _ (by dsimp only; omega)).trans (by assumption)) | simp (disch := omega) [go_sem, *, List.getElem?_cons_zero, List.getElem?_cons_succ])
    have gzr2_3 : r2.cell? ⟨w.heap.size + 1 + 1, 3, none⟩ = some (.int .u16 0) := (hcr2 _ _ (by (try simp only [World.size_alloc, World.size_setCell]); omega)).trans (by with_reducible first | assumption | exact (World.cell?_alloc_lt _ _ _ (by omega)).trans (by assumption) | exact World.cell?_setCell_same _ _ _ (by assumption) | exact (World.cell?_setCell_other _ _ _ _ (by simp)).trans (by assumption) | exact (rcell_far _ _ _ _ (by dsimp only; omega)).trans ((rcell_far _ _ _ _ (by dsimp only; omega)).trans (by assumption)) | simp (disch := omega) [go_sem, *, List.getElem?_cons_zero, List.getElem?_cons_succ])
    have gzr2_4 : r2.cell? ⟨w.heap.size + 1 + 1, 4, none⟩ = some (.int .u16 0) := (hcr2 _ _ (by (try simp only [World.size_alloc, World.size_setCell]); omega)).trans (by with_reducible first | assumption | exact (World.cell?_alloc_lt _ _ _ (by omega)).trans (by assumption) | exact World.cell?_setCell_same _ _ _ (by assumption) | exact (World.cell?_setCell_other _ _ _ _ (by simp)).trans (by assumption) | exact (rcell_far _ _ _ _ (by dsimp only; omega)).trans ((rcell_far _ _ _ _ (by dsimp only; omega)).trans (by assumption)) | simp (disch := omega) [go_sem, *, List.getElem?_cons_zero, List.getElem?_cons_succ])
    have gzr2_5 : r2.cell? ⟨w.heap.size + 1 + 1, 5, none⟩ = some (.int .u16 0) := (hcr2 _ _ (by (try simp only [World.size_alloc, World.size_setCell]); omega)).trans (by with_reducible first | assumption | exact (World.cell?_alloc_lt _ _ _ (by omega)).trans (by assumption) | exact World.cell?_setCell_same _ _ _ (by assumption) | exact (World.cell?_setCell_other _ _ _ _ (by simp)).trans (by assumption) | exact (rcell_far _ _ _ _ (by dsimp only; omega)).trans ((rcell_far _ _ _ _ (by dsimp only; omega)).trans (by assumption)) | simp (disch := omega) [go_sem, *, List.getElem?_cons_zero, List.getElem?_cons_succ])
    go_wp2_with fail
    refine (rdot_w m20 m21 m22 m23 m24 m25 a0 a1 a2 a3 a4 a5 Wm20 Wm21 Wm22 Wm23 Wm24 Wm25 Wa0 Wa1 Wa2 Wa3 Wa4 Wa5 _).mono ?_
    rintro _ r3 ⟨rfl, hbr3⟩
    obtain ⟨hcr3, hfr3⟩ := bcell hbr3
    have hzr3 := hbr3.size
    try simp only [World.size_alloc, World.size_setCell, World.size_drew] at hzr3
    have hlr3w0 : w.heap.size < r3.heap.size := by omega
    have hlr3w1 : w.heap.size + 1 < r3.heap.size := by omega
    have hlr3w2 : w.heap.size + 1 + 1 < r3.heap.size := by omega
    have hlr3r10 : r1.heap.size < r3.heap.size := by omega
    have hlr3r20 : r2.heap.size < r3.heap.size := by omega
    have gzr3_0 : r3.cell? ⟨w.heap.size + 1 + 1, 0, none⟩ = some (.int .u16 0) := (hcr3 _ _ (by (try simp only [World.size_alloc, World.size_setCell]); omega)).trans (by with_reducible first | assumption | exact (World.cell?_alloc_lt _ _ _ (by omega)).trans (by assumption) | exact World.cell?_setCell_same _ _ _ (by assumption) | exact (World.cell?_setCell_other _ _ _ _ (by simp)).trans (by assumption) | exact (rcell_far _ _ _ _ (by dsimp only; omega)).trans ((rcell_far _ _ _ _ (by dsimp only; omega)).trans (by assumption)) | simp (disch := omega) [go_sem, *, List.getElem?_cons_zero, List.getElem?_cons_succ])
    have gzr3_1 : r3.cell? ⟨w.heap.size + 1 + 1, 1, none⟩ = some (.int .u16 0) := (hcr3 _ _ (by (try simp only [World.size_alloc, World.size_setCell]); omega)).trans (by with_reducible first | assumption | exact (World.cell?_alloc_lt _ _ _ (by omega)).trans (by assumption) | exact World.cell?_setCell_same _ _ _ (by assumption) | exact (World.cell?_setCell_other _ _ _ _ (by simp)).trans (by assumption) | exact (rcell_far _ _ _ _ (by dsimp only; omega)).trans ((rcell_far _ _ _ _ (by dsimp only; omega)).trans (by assumption)) | simp (disch := omega) [go_sem, *, List.getElem?_cons_zero, List.getElem?_cons_succ])
    have gzr3_2 : r3.cell? ⟨w.heap.size + 1 + 1, 2, none⟩ = some (.int .u16 0) := (hcr3 _ _ (by (try simp only [World.size_alloc, World.size_setCell]); omega)).trans (by with_reducible first | assumption | exact (World.cell?_alloc_lt _ _ _ (by omega)).trans (by assumption) | exact World.cell?_setCell_same _ _ _ (by assumption) | exact (World.cell?_setCell_other _ _ _ _ (by simp)).trans (by assumption) | exact (rcell_far _ _ _ _ (by dsimp only; omega)).trans ((rcell_far _ _ _ _ (by dsimp only; omega)).trans (by assumption)) | simp (disch := omega) [go_sem, *, List.getElem?_cons_zero, List.getElem?_cons_succ])
    have gzr3_3 : r3.cell? ⟨w.heap.size + 1 + 1, 3, none⟩ = some (.int .u16 0) := (hcr3 _ _ (by (try simp only [World.size_alloc, World.size_setCell]); omega)).trans (by with_reducible first | assumption | exact (World.cell?_alloc_lt _ _ _ (by omega)).trans (by assumption) | exact World.cell?_setCell_same _ _ _ (by assumption) | exact (World.cell?_setCell_other _ _ _ _ (by simp)).trans (by assumption) | exact (rcell_far _ _ _ _ (by dsimp only; omega)).trans ((rcell_far _ _ _ _ (by dsimp only; omega)).trans (by assumption)) | simp (disch := omega) [go_sem, *, List.getElem?_cons_zero, List.getElem?_cons_succ])
    have gzr3_4 : r3.cell? ⟨w.heap.size + 1 + 1, 4, none⟩ = some (.int .u16 0) := (hcr3 _ _ (by (try simp only [World.size_alloc, World.size_setCell]); omega)).trans (by with_reducible first | assumption | exact (World.cell?_alloc_lt _ _ _ (by omega)).trans (by assumption) | exact World.cell?_setCell_same _ _ _ (by assumption) | exact (World.cell?_setCell_other _ _ _ _ (by simp)).trans (by assumption) | exact (rcell_far _ _ _ _ (by dsimp only; omega)).trans ((rcell_far _ _ _ _ (by dsimp only; omega)).trans (by assumption)) | simp (disch := omega) [go_sem, *, List.getElem?_cons_zero, List.getElem?_cons_succ])
    have gzr3_5 : r3.cell? ⟨w.heap.size + 1 + 1, 5, none⟩ = some (.int .u16 0) := (hcr3 _ _ (by (try simp only [World.size_alloc, World.size_setCell]); omega)).trans (by with_reducible first | assumption | exact (World.cell?_alloc_lt _ _ _ (by omega)).trans (by assumption) | exact World.cell?_setCell_same _ _ _ (by assumption) | exact (World.cell?_setCell_other _ _ _ _ (by simp)).trans (by assumption) | exact (rcell_far _ _ _ _ (by dsimp only; omega)).trans ((rcell_far _ _ _ _ (by dsimp only; omega)).trans (by assumption)) | simp (disch := omega) [go_sem, *, List.getElem?_cons_zero, List.getElem?_cons_succ])
    go_wp2
    refine bodyPost_ret (v := (.tuple #[(.agg #[.int .u16 (hi (sat (rnd (dot (val m00 m01) (val m02 m03) (val m04 m05) (val a0 a1) (val a2 a3) (val a4 a5)) 268435456) 268435455)), .int .u16 (lo (sat (rnd (dot (val m00 m01) (val m02 m03) (val m04 m05) (val a0 a1) (val a2 a3) (val a4 a5)) 268435456) 268435455)), .int .u16 (hi (sat (rnd (dot (val m10 m11) (val m12 m13) (val m14 m15) (val a0 a1) (val a2 a3) (val a4 a5)) 268435456) 268435455)), .int .u16 (lo (sat (rnd (dot (val m10 m11) (val m12 m13) (val m14 m15) (val a0 a1) (val a2 a3) (val a4 a5)) 268435456) 268435455)), .int .u16 (hi (sat (rnd (dot (val m20 m21) (val m22 m23) (val m24 m25) (val a0 a1) (val a2 a3) (val a4 a5)) 268435456) 268435455)), .int .u16 (lo (sat (rnd (dot (val m20 m21) (val m22 m23) (val m24 m25) (val a0 a1) (val a2 a3) (val a4 a5)) 268435456) 268435455))]), .bool ((outb (rnd (dot (val m00 m01) (val m02 m03) (val m04 m05) (val a0 a1) (val a2 a3) (val a4 a5)) 268435456) 268435455) || (outb (rnd (dot (val m10 m11) (val m12 m13) (val m14 m15) (val a0 a1) (val a2 a3) (val a4 a5)) 268435456) 268435455) || (outb (rnd (dot (val m20 m21) (val m22 m23) (val m24 m25) (val a0 a1) (val a2 a3) (val a4 a5)) 268435456) 268435455))])) (by simp [results, Tryd.results59, go_sem, *]) rfl ⟨by rw [q0, q1], ?_⟩; exact (by repeat' (first | (with_reducible exact Below.refl _ _) | (with_reducible refine bl_set ?_ _ ?_) | (with_reducible refine bl_alloc ?_ _) | (with_reducible refine bl_drew ?_) | (with_reducible refine bl_via (by with_reducible assumption) ?_) | (with_reducible assumption) | omega | (simp only []; omega) | (simp; omega)))

set_option maxRecDepth 100000 in
set_option maxHeartbeats 4000000 in
theorem rtranspose_fn (f : Nat → Int) (hf : ∀ o, W16 (f o)) (w : World) :
    Calls Tryd.prog 56 #[(.agg #[.int .u16 (f 0), .int .u16 (f 1), .int .u16 (f 2), .int .u16 (f 3), .int .u16 (f 4), .int .u16 (f 5), .int .u16 (f 6), .int .u16 (f 7), .int .u16 (f 8), .int .u16 (f 9), .int .u16 (f 10), .int .u16 (f 11), .int .u16 (f 12), .int .u16 (f 13), .int .u16 (f 14), .int .u16 (f 15), .int .u16 (f 16), .int .u16 (f 17)])] w fun r w' => r = .returned (.agg #[.int .u16 (hi (val (f 0) (f 1))), .int .u16 (lo (val (f 0) (f 1))), .int .u16 (hi (val (f 6) (f 7))), .int .u16 (lo (val (f 6) (f 7))), .int .u16 (hi (val (f 12) (f 13))), .int .u16 (lo (val (f 12) (f 13))), .int .u16 (hi (val (f 2) (f 3))), .int .u16 (lo (val (f 2) (f 3))), .int .u16 (hi (val (f 8) (f 9))), .int .u16 (lo (val (f 8) (f 9))), .int .u16 (hi (val (f 14) (f 15))), .int .u16 (lo (val (f 14) (f 15))), .int .u16 (hi (val (f 4) (f 5))), .int .u16 (lo (val (f 4) (f 5))), .int .u16 (hi (val (f 10) (f 11))), .int .u16 (lo (val (f 10) (f 11))), .int .u16 (hi (val (f 16) (f 17))), .int .u16 (lo (val (f 16) (f 17)))]) ∧ Below w.heap.size w w' := by
  go_enter Tryd.func56, Tryd.ntmps56
  go_wp2_with fail
  refine wp_gen (fun W => Below w.heap.size w W ∧ w.heap.size + 3 ≤ W.heap.size ∧ Holds W w.heap.size 18 f ∧ Holds W (w.heap.size + 1) 18 (fun _ => 0) ∧ Loose W (w.heap.size + 1) ∧ Holds W (w.heap.size + 1 + 1) 18 (tcell f 0 0) ∧ Loose W (w.heap.size + 1 + 1)) ⟨(by repeat' (first | (with_reducible exact Below.refl _ _) | (with_reducible refine bl_set ?_ _ ?_) | (with_reducible refine bl_alloc ?_ _) | (with_reducible refine bl_drew ?_) | (with_reducible refine bl_via (by with_reducible assumption) ?_) | (with_reducible assumption) | omega | (simp only []; omega) | (simp; omega))), by simp, ?_, ?_, ?_, ?_, ?_⟩ ?_
  · apply all18 <;> go_simp
  · apply all18 <;> go_simp
  · intro o; go_simp
  · exact Holds.congr (g := fun _ => 0) (by apply all18 <;> go_simp) (fun o _ => (tcell_0 f o).symm)
  · intro o; go_simp
  rintro W0 ⟨hb0, hs0, hm0, hr0, hrf0, ht0, htf0⟩
  go_loopw [4] (fun v W => ∃ i : Nat, i ≤ 3 ∧ v = .int .i64 i ∧ Below w.heap.size w W ∧ w.heap.size + 3 ≤ W.heap.size ∧ Holds W w.heap.size 18 f ∧ Holds W (w.heap.size + 1) 18 (fun _ => 0) ∧ Loose W (w.heap.size + 1) ∧ Holds W (w.heap.size + 1 + 1) 18 (tcell f i 0) ∧ Loose W (w.heap.size + 1 + 1)) (fun v _ => (3 - intOf v).toNat)
  case atStart => exact ⟨0, by omega, rfl, hb0, hs0, hm0, hr0, hrf0, ht0, htf0⟩
  case round =>
    obtain ⟨wo, rfl⟩ : ∃ wo : World, wo = wr := ⟨_, rfl⟩
    obtain ⟨i, hI, rfl, hb1, hs1, hm1, hr1, hrf1, ht1, htf1⟩ := hrel
    by_cases hlt : i < 3
    · go_wp2_with fail
      go_loopw [5] (fun v W => ∃ j : Nat, j ≤ 3 ∧ v = .int .i64 j ∧ Below w.heap.size w W ∧ w.heap.size + 3 ≤ W.heap.size ∧ Holds W w.heap.size 18 f ∧ Holds W (w.heap.size + 1) 18 (fun _ => 0) ∧ Loose W (w.heap.size + 1) ∧ Holds W (w.heap.size + 1 + 1) 18 (tcell f i j) ∧ Loose W (w.heap.size + 1 + 1)) (fun v _ => (3 - intOf v).toNat)
      case atStart => exact ⟨0, by omega, rfl, hb1, hs1, hm1, hr1, hrf1, ht1, htf1⟩
      case round =>
        clear hb1 hs1 hm1 hr1 hrf1 ht1 htf1
        obtain ⟨j, hj, rfl, hb1, hs1, hm1, hr1, hrf1, ht1, htf1⟩ := hrel
        by_cases hjt : j < 3
        · have hb2 : w.heap.size < wr.heap.size := by omega
          have hA0 : wr.cell? ⟨w.heap.size, j * 6 + i * 2, none⟩ = some (.int .u16 (f (j * 6 + i * 2))) := hm1 _ (by omega)
          have hA1 : wr.cell? ⟨w.heap.size, j * 6 + i * 2 + 1, none⟩ = some (.int .u16 (f (j * 6 + i * 2 + 1))) := hm1 _ (by omega)
          go_wp2_with fail
          have hecr1 := @Ext.cell
          refine wp_region_ext_tail 11 (by kernel_rfl) (by kernel_rfl) ?_
          simp only [List.take_succ_cons, List.take_zero, List.drop_succ_cons, List.drop_zero]
          repeat (first | go_big_quiet_skip | (go_big_quiet_want; go_big_quiet_op; first | go_big_quiet_on | (go_big_quiet_call ((first | fail | (go_at_call 22; exact ext_call (rvalue_w _ _ (hf _) (hf _) _)) | (go_at_call 29; exact ext_call (rdouble_any _ (val_lo _ _) (val_hi _ _) _)))))))
          clear hecr1
          refine wpQuiet_nil ?_
          rintro r1 ⟨⟨_, hbr1⟩, rfl⟩
          obtain ⟨hcr1, hfr1⟩ := bcell hbr1
          have hzr1 := hbr1.size
          try simp only [World.size_alloc, World.size_setCell, World.size_drew] at hzr1
          have hm2 := hm1.on hbr1 (by omega)
          have hr2 := hr1.on hbr1 (by omega)
          have hrf2 := hrf1.on hbr1 (by omega)
          have ht2 := ht1.on hbr1 (by omega)
          have htf2 := htf1.on hbr1 (by omega)
          have hT0 := ht2 (i * 6 + j * 2) (by omega)
          have hT1 := ht2 (i * 6 + j * 2 + 1) (by omega)
          have hT2 := htf2 (i * 6 + j * 2)
          have hT3 := htf2 (i * 6 + j * 2 + 1)
          clear hm1 hr1 hrf1 ht1 htf1 hA0 hA1
          go_wp2_with fail
          go_roundw
          case rel =>
            refine ⟨j + 1, by omega, by go_num, ?_, by simp; omega, (hm2.far _ _ (by omega)).far _ _ (by omega), (hr2.far _ _ (by omega)).far _ _ (by omega), (hrf2.set _ _).set _ _, ?_, (htf2.set _ _).set _ _⟩
            · exact (by repeat' (first | (with_reducible exact Below.refl _ _) | (with_reducible refine bl_set ?_ _ ?_) | (with_reducible refine bl_alloc ?_ _) | (with_reducible refine bl_drew ?_) | (with_reducible refine bl_via (by with_reducible assumption) ?_) | (with_reducible assumption) | omega | (simp only []; omega) | (simp; omega)))
            · exact Holds.congr ((ht2.set _ _ (by omega)).set _ _ (by omega)) (fun o ho => tcell_next f i j o hlt hjt ho)
          case measure => simp [intOf]; omega
        · obtain rfl : j = 3 := by omega
          go_wp2_with fail
          go_roundw
          case rel => exact ⟨i + 1, by omega, by go_num, hb1, hs1, hm1, hr1, hrf1, Holds.congr ht1 (fun o ho => tcell_row f i o ho), htf1⟩
          case measure => simp [intOf]; omega
    · obtain rfl : i = 3 := by omega
      have e : ∀ o, o < 18 → tcell f 3 0 o = tfin f o := fun o ho => by unfold tcell tfin; rw [if_pos (by omega)]
      have ht2 := ht1.congr e
      have hth := hr1.there hrf1 0 18 (by omega)
      clear e ht1 hrf1 hm1
      go_wp2_with (first | (refine wpList_load_mid rfl 29 (.tmp 3) rfl (w.heap.size + 1 + 1) 0 rfl _ _ (ht2.range18 (by omega)) hu_mat rfl hi_mat ?_) | (refine wpList_store_mid rfl 29 (.tmp 2) (.tmp 26) rfl (w.heap.size + 1) 0 _ rfl rfl hth hi_mat (by simp [Value.oneCell']) ?_))
      refine bodyPost_ret (v := (.agg #[.int .u16 (hi (val (f 0) (f 1))), .int .u16 (lo (val (f 0) (f 1))), .int .u16 (hi (val (f 6) (f 7))), .int .u16 (lo (val (f 6) (f 7))), .int .u16 (hi (val (f 12) (f 13))), .int .u16 (lo (val (f 12) (f 13))), .int .u16 (hi (val (f 2) (f 3))), .int .u16 (lo (val (f 2) (f 3))), .int .u16 (hi (val (f 8) (f 9))), .int .u16 (lo (val (f 8) (f 9))), .int .u16 (hi (val (f 14) (f 15))), .int .u16 (lo (val (f 14) (f 15))), .int .u16 (hi (val (f 4) (f 5))), .int .u16 (lo (val (f 4) (f 5))), .int .u16 (hi (val (f 10) (f 11))), .int .u16 (lo (val (f 10) (f 11))), .int .u16 (hi (val (f 16) (f 17))), .int .u16 (lo (val (f 16) (f 17)))])) (results_one Tryd.results56 rfl (run_loadVar_mid _ _ 0 _ _ _ (World.rangeAt_setCells_same _ _ _ _ hth) hu_mat rfl hi_mat)) rfl ⟨rfl, bl_cells _ _ _ _ hb1 (by omega)⟩

theorem rtranspose_any (m00 m01 m02 m03 m04 m05 m10 m11 m12 m13 m14 m15 m20 m21 m22 m23 m24 m25 : Int) (Wm00 : W16 m00) (Wm01 : W16 m01) (Wm02 : W16 m02) (Wm03 : W16 m03) (Wm04 : W16 m04) (Wm05 : W16 m05) (Wm10 : W16 m10) (Wm11 : W16 m11) (Wm12 : W16 m12) (Wm13 : W16 m13) (Wm14 : W16 m14) (Wm15 : W16 m15) (Wm20 : W16 m20) (Wm21 : W16 m21) (Wm22 : W16 m22) (Wm23 : W16 m23) (Wm24 : W16 m24) (Wm25 : W16 m25) (w : World) :
    Calls Tryd.prog 56 #[(.agg #[.int .u16 (m00), .int .u16 (m01), .int .u16 (m02), .int .u16 (m03), .int .u16 (m04), .int .u16 (m05), .int .u16 (m10), .int .u16 (m11), .int .u16 (m12), .int .u16 (m13), .int .u16 (m14), .int .u16 (m15), .int .u16 (m20), .int .u16 (m21), .int .u16 (m22), .int .u16 (m23), .int .u16 (m24), .int .u16 (m25)])] w fun r w' => r = .returned (.agg #[.int .u16 (hi (val m00 m01)), .int .u16 (lo (val m00 m01)), .int .u16 (hi (val m10 m11)), .int .u16 (lo (val m10 m11)), .int .u16 (hi (val m20 m21)), .int .u16 (lo (val m20 m21)), .int .u16 (hi (val m02 m03)), .int .u16 (lo (val m02 m03)), .int .u16 (hi (val m12 m13)), .int .u16 (lo (val m12 m13)), .int .u16 (hi (val m22 m23)), .int .u16 (lo (val m22 m23)), .int .u16 (hi (val m04 m05)), .int .u16 (lo (val m04 m05)), .int .u16 (hi (val m14 m15)), .int .u16 (lo (val m14 m15)), .int .u16 (hi (val m24 m25)), .int .u16 (lo (val m24 m25))]) ∧ Below w.heap.size w w' :=
  rtranspose_fn (pick18 m00 m01 m02 m03 m04 m05 m10 m11 m12 m13 m14 m15 m20 m21 m22 m23 m24 m25) (pick18_w Wm00 Wm01 Wm02 Wm03 Wm04 Wm05 Wm10 Wm11 Wm12 Wm13 Wm14 Wm15 Wm20 Wm21 Wm22 Wm23 Wm24 Wm25) w
end Go.Proofs.YtbbhppjamighdaaDoor
