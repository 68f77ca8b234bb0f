/- FixedPoly: for every input the law returns true, and each argument reads behind the call as it read before, where the table of coefficients reads as the program's text lays it (the card ties it). No condition beyond the given statement's. -/
import Derived.Test.YtccnflemopajcaaDoorRows
import Derived.Test.YtccnflemopajcaaDoorCards
import Derived.Test.YtccnflemopajcaaDoorTie
import Derived.Test.YtccnflemopajcaaDoorSg
import Derived.ProofKit
import Derived.LaidMore
import Derived.OpenShut
import Derived.Stop.Joined
import Derived.SevenTiedAt
import Derived.Test.YtccnflemopajcaaDoorKb
import Derived.Deep.Slices
import Derived.Test.YtccnflemopajcaaDoorFo
namespace Go.Proofs.YtccnflemopajcaaDoor.fixedPoly
set_option linter.unusedSimpArgs false
set_option linter.unusedVariables false
open Go.ChangeShapes Go.WideShapes Go.ChangeAt Go.WideMaps Go.WideElems Go.RowKit

section
variable {H : Type} {enc : TypeId × Value → H} {W : World}
theorem addr_plain {a : Addr} {v : Value} (h : W.cell? a = some v) : a.spot = none := by
  unfold World.cell? at h
  split at h
  · split at h
    · cases h
    · rename_i hs; simpa using hs
  · cases h
/-- What a slice of doubles that reads holds. -/
theorem slice_dbl {a : Option Addr} {len cap : Nat} {d : DataW H} {p : List MemPlace} (h : DataW.Trod enc Tryd.prog W 0 (fun _ => true) true 40 (.slice a len cap) d p) :
    0 < len → len ≤ 30 → ∃ (B off : Nat) (f : Nat → Int), a = some ⟨B, off, none⟩ ∧ B < W.heap.size ∧ (∀ o, W16 (f o)) ∧ ∀ o, o < 2 * len → W.cell? ⟨B, off + o, none⟩ = some (.int .u16 (f o)) := by
  intro h0 _
  obtain ⟨fuel, hf⟩ := h
  rcases Go.Deep.open_slice Tryd.underlying40 hf with ⟨hc, _⟩ | ⟨b, len', cap', m, n, D, Pl, hc, hb, hl, hm, hmm, _, hx⟩
  · simp [Value.cells] at hc
    omega
  · simp [Value.cells] at hc
    obtain ⟨rfl, rfl, rfl⟩ := hc
    simp only [if_true] at hmm
    subst hmm
    rw [cells_dbl] at hx
    have each : ∀ i, i < m → ∃ q : Int × Int, W.cell? (b.add (i * 2)) = some (.int .u16 q.1) ∧ W.cell? ((b.add (i * 2)).add 1) = some (.int .u16 q.2) ∧ W16 q.1 ∧ W16 q.2 := fun i hi => by
      obtain ⟨cs', g1, g2⟩ := hx i hi
      obtain ⟨x, y, rfl, _, bx, by'⟩ := trod_dbl g2
      obtain ⟨_, hlen, hcell⟩ := World.cells?_some g1
      have c0 := hcell 0 (by omega)
      have c1 := hcell 1 (by omega)
      exact ⟨(x, y), by simpa [Addr.add] using c0, by simpa using c1, bx, by'⟩
    obtain ⟨q, hq⟩ := Go.Deep.choose_lt each
    have q0 := (hq 0 (by omega)).1
    have hsp : b.spot = none := by
      have := addr_plain q0
      simpa [Addr.add] using this
    obtain ⟨B, off, sp⟩ := b
    simp only at hsp
    subst hsp
    refine ⟨B, off, fun o => if o < 2 * m then (if o % 2 = 0 then (q (o / 2)).1 else (q (o / 2)).2) else 0, rfl, ?_, fun o => ?_, fun o ho => ?_⟩
    · have : W.cell? ⟨B, off, none⟩ = some (.int .u16 (q 0).1) := by simpa [Addr.add] using q0
      exact sized_of_cell this
    · dsimp only
      split
      · split
        · exact (hq (o / 2) (by omega)).2.2.1
        · exact (hq (o / 2) (by omega)).2.2.2
      · exact W16.mk (by omega) (by omega)
    · dsimp only
      rw [if_pos (by omega)]
      have hi := hq (o / 2) (by omega)
      rw [Go.Deep.add_add] at hi
      by_cases e : o % 2 = 0
      · rw [if_pos e]
        have := hi.1
        rw [show o / 2 * 2 = o by omega] at this
        rw [← this]; unfold Addr.add
        by_cases z : o = 0
        · subst z; simp
        · rw [if_neg z]
      · rw [if_neg e]
        have := hi.2.1
        rw [show o / 2 * 2 + 1 = o by omega] at this
        rw [← this]; unfold Addr.add
        rw [if_neg (by omega)]
end

theorem own : ownKnob Tryd.prog.godebug = none := by kernel_rfl

set_option maxRecDepth 100000 in
theorem lifted (os : Os) (started : os.Started) (H : Type) (enc : TypeId × Value → H) :
    ReturnsInHanded {} Tryd.checked os 8 .any (fun w args => (Rows.fixedPolySpec.pre enc Tryd.prog Tryd.f8 [] false w args ∧ laidMetH Tryd.prog laidL w) ∧ sizedMet enc Tryd.prog Tryd.f8 (OpenSpec.ofChange Rows.fixedPolySpec) false w args)
      (Rows.fixedPolySpec.post enc Tryd.prog Tryd.f8 false true false false) := by
  refine returnsInHanded_of_change_and (C := Tryd.checked) (X := fun w _ => laidMetH Tryd.prog laidL w) (fun _ _ _ hh h => h.of_heap hh) own started (by kernel_rfl) Tryd.func8
    (ChangeSpec.witness_shaped (enc := enc) (C := Tryd.checked) (os := os) (X := fun w _ => laidMetH Tryd.prog laidL w) false (World.doorLaid Tryd.prog 400 os) #[.agg #[.int .u16 0, .int .u16 0], .slice none 0 0] 8 rfl (World.shaped_of_RefB (by kernel_rfl) (by kernel_rfl)) (by kernel_rfl) (by kernel_rfl) (by kernel_rfl) (door_met os _)) ?_
  intro W base args ds gs before hval0 hW _ _ hL _
  have hval : ∀ (j : Nat) t v, Tryd.f8.params[j]? = some t → args[j]? = some v → Value.okWide Tryd.prog W .any base t v := hval0
  have hW' := hW
  obtain ⟨p, q, hA0, hV, rfl, hfz, hnd⟩ := hW
  have hA : DataW.TrodAll enc Tryd.prog W 0 (fun _ => true) true Tryd.f8.params.toList args.toList ds p := hA0
  rw [Tryd.params8] at hA hval
  obtain ⟨v0, vs0, d0, ds0, p0, q0, hargs, rfl, rfl, h0, r0⟩ := trodAll_cons hA
  obtain ⟨v1, vs1, d1, ds1, p1, q1, rfl, rfl, rfl, h1, r1⟩ := trodAll_cons r0
  obtain ⟨rfl, rfl, rfl⟩ := trodAll_nil r1
  obtain rfl : args = #[v0, v1] := by cases args; simp_all
  obtain ⟨rfl, rfl⟩ := trodVars_none hV
  obtain ⟨a0_0, a0_1, rfl, rfl, ⟨la0_0, ua0_0⟩, ⟨la0_1, ua0_1⟩⟩ := open_dbl (hval 0 25 v0 rfl rfl) h0
  obtain ⟨a, len, cap, rfl⟩ := okWide_slice Tryd.underlying40 (hval 1 40 _ rfl rfl)
  clear hA0 hval0
  simp only [List.append_nil, List.nil_append] at hW'
  have hlt : ∀ x ∈ p1, x.block < W.heap.size := fun x hx => hW'.lt x (by simpa using hx)
  refine (poly_law a0_0 a0_1 la0_0 ua0_0 la0_1 ua0_1 a len cap W (of_laid hL) (slice_dbl h1)).mono fun e W' ⟨he, hg⟩ => ?_
  subst he
  have again := WideElems.Trod_stays laid_out (by kernel_rfl) (of_decide_eq_true (by kernel_rfl)) h1 (W' := W') (sp' := fun b => decide (b < W.heap.size)) (fun p hp => by
    have := hlt p hp
    cases p with
    | cell b off => exact hg.cell (p := ⟨b, off, none⟩) this
    | map b => exact hg.block b this) (fun p hp => by simpa using hlt p hp)
  have r := trodAll_cons_mk (stays (by kernel_rfl) (of_decide_eq_true (by kernel_rfl)) h0) (trodAll_cons_mk again trodAll_mk0)
  simp only [List.append_nil, List.nil_append] at r
  exact ⟨_, rfl, _, _, _, [], p1, [], hW', (trodAll_cons_mk (shut_bool Tryd.underlying4 _) trodAll_mk0), r, rfl, hg.frame _, fun h => by cases h⟩

theorem over : Rows.fixedPolyRow.holds Tryd.pinned (OpenSpec.ofChange Rows.fixedPolySpec) :=
  OpenClaim.holds_of_wide 8 Tryd.f8 rfl rfl rfl rfl rfl rfl rfl ⟨rfl, rfl, rfl, rfl, rfl⟩ rfl rfl rfl rfl rfl (by kernel_rfl) Tryd.func8 (by kernel_rfl)
    (of_decide_eq_true (by kernel_rfl)) (by unfold Func.isWrapper; first | (rw [if_pos (by decide +kernel)]; kernel_rfl) | (rw [if_neg (by decide +kernel)]; exact ⟨rfl, rfl⟩))
    (fun os started H enc _ => lifted os started H enc)

/-- The card's tie. -/
def card : Claim7 := Rows.fixedPolyCard
theorem proved : Rows.FixedPolyCardSaid :=
  Claim7.holds_tied_plain_at .later [] [.data] true (true, "e44e2948def8f228f46e1bb6b89c1fe5e4fef8522221f990ab81355088b2647c") false
    over (fun _ h => by cases h) (by kernel_rfl) (fun _ h => by cases h) fixedPoly_row_tie rfl ⟨rfl, rfl⟩ (by kernel_rfl) rfl
    (fun f fn hf hfn => by
      obtain rfl : f = 8 := Option.some.inj ((show Tryd.prog.funcNamed "perilune/perilunelaw16.FixedPoly" = some 8 by kernel_rfl).symm.trans hf) |>.symm
      obtain rfl : fn = Tryd.f8 := (Option.some.inj (Tryd.func8.symm.trans hfn)).symm
      exact ⟨by kernel_rfl, fun j t ht => by
        rw [Tryd.params8] at ht
        have hm : t ∈ [25, 40] := by simpa using Array.mem_of_getElem? ht
        have hall : ([25, 40].all fun u => !Tryd.prog.wantsStandIn u) = true := by kernel_rfl
        exact (show Tryd.prog.wantsStandIn t = false by simpa using List.all_eq_true.1 hall t hm)⟩)
    (by kernel_rfl)
#print axioms proved
end Go.Proofs.YtccnflemopajcaaDoor.fixedPoly
