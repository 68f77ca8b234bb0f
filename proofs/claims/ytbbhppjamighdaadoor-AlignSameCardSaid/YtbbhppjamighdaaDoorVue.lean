/- The contract of vector.Unit over this translation. -/
import Derived.Test.YtbbhppjamighdaaDoorVua
import Derived.Test.YtbbhppjamighdaaDoorVub
import Derived.Test.YtbbhppjamighdaaDoorVuc
import Derived.Test.YtbbhppjamighdaaDoorVud
namespace Go.Proofs.YtbbhppjamighdaaDoor
set_option linter.unusedSimpArgs false
set_option linter.unusedVariables false
open Go.RowKit

/-- What Unit hands back. -/
noncomputable def unitV (x y z : Int) : Value := if x = 0 ∧ y = 0 ∧ z = 0 then (.tuple #[(.agg #[.int .u16 (0), .int .u16 (0), .int .u16 (0), .int .u16 (0), .int .u16 (0), .int .u16 (0)]), .bool true]) else (.tuple #[(.agg #[.int .u16 (hi (uni x y z x)), .int .u16 (lo (uni x y z x)), .int .u16 (hi (uni x y z y)), .int .u16 (lo (uni x y z y)), .int .u16 (hi (uni x y z z)), .int .u16 (lo (uni x y z z))]), .bool false])
theorem unit_any (a b c d e f : Int) (ha0 : 0 ≤ a) (ha1 : a < 65536) (hb0 : 0 ≤ b) (hb1 : b < 65536) (hc0 : 0 ≤ c) (hc1 : c < 65536) (hd0 : 0 ≤ d) (hd1 : d < 65536) (he0 : 0 ≤ e) (he1 : e < 65536) (hf0 : 0 ≤ f) (hf1 : f < 65536) (w : World) :
    Calls Tryd.prog 40 #[(.agg #[.int .u16 (a), .int .u16 (b), .int .u16 (c), .int .u16 (d), .int .u16 (e), .int .u16 (f)])] w fun r w' => r = .returned (unitV (val a b) (val c d) (val e f)) ∧ Below w.heap.size w w' := by
  unfold unitV
  by_cases h0 : val a b = 0 <;> by_cases h1 : val c d = 0 <;> by_cases h2 : val e f = 0
  · rw [if_pos ⟨h0, h1, h2⟩]; exact unit_none a b c d e f ha0 ha1 hb0 hb1 hc0 hc1 hd0 hd1 he0 he1 hf0 hf1 h0 h1 h2 w
  · rw [if_neg (by omega)]
    have h := unit_001 a b c d e f ha0 ha1 hb0 hb1 hc0 hc1 hd0 hd1 he0 he1 hf0 hf1 h0 h1 h2 w
    have ec : ucnt (val a b) (val c d) (val e f) = min 28 (nrc (val e f)) := by
      unfold ucnt
      dsimp only
      rw [if_pos h0, if_pos h1, if_neg h2]
      try omega
    unfold uni usq
    rw [ec]
    exact h
  · rw [if_neg (by omega)]
    have h := unit_010 a b c d e f ha0 ha1 hb0 hb1 hc0 hc1 hd0 hd1 he0 he1 hf0 hf1 h0 h1 h2 w
    have ec : ucnt (val a b) (val c d) (val e f) = min 28 (nrc (val c d)) := by
      unfold ucnt
      dsimp only
      rw [if_pos h0, if_neg h1, if_pos h2]
      try omega
    unfold uni usq
    rw [ec]
    exact h
  · rw [if_neg (by omega)]
    have h := unit_011 a b c d e f ha0 ha1 hb0 hb1 hc0 hc1 hd0 hd1 he0 he1 hf0 hf1 h0 h1 h2 w
    have ec : ucnt (val a b) (val c d) (val e f) = min 28 (min (nrc (val c d)) (nrc (val e f))) := by
      unfold ucnt
      dsimp only
      rw [if_pos h0, if_neg h1, if_neg h2]
      try omega
    unfold uni usq
    rw [ec]
    exact h
  · rw [if_neg (by omega)]
    have h := unit_100 a b c d e f ha0 ha1 hb0 hb1 hc0 hc1 hd0 hd1 he0 he1 hf0 hf1 h0 h1 h2 w
    have ec : ucnt (val a b) (val c d) (val e f) = min 28 (nrc (val a b)) := by
      unfold ucnt
      dsimp only
      rw [if_neg h0, if_pos h1, if_pos h2]
      try omega
    unfold uni usq
    rw [ec]
    exact h
  · rw [if_neg (by omega)]
    have h := unit_101 a b c d e f ha0 ha1 hb0 hb1 hc0 hc1 hd0 hd1 he0 he1 hf0 hf1 h0 h1 h2 w
    have ec : ucnt (val a b) (val c d) (val e f) = min 28 (min (nrc (val a b)) (nrc (val e f))) := by
      unfold ucnt
      dsimp only
      rw [if_neg h0, if_pos h1, if_neg h2]
      try omega
    unfold uni usq
    rw [ec]
    exact h
  · rw [if_neg (by omega)]
    have h := unit_110 a b c d e f ha0 ha1 hb0 hb1 hc0 hc1 hd0 hd1 he0 he1 hf0 hf1 h0 h1 h2 w
    have ec : ucnt (val a b) (val c d) (val e f) = min 28 (min (nrc (val a b)) (nrc (val c d))) := by
      unfold ucnt
      dsimp only
      rw [if_neg h0, if_neg h1, if_pos h2]
      try omega
    unfold uni usq
    rw [ec]
    exact h
  · rw [if_neg (by omega)]
    have h := unit_111 a b c d e f ha0 ha1 hb0 hb1 hc0 hc1 hd0 hd1 he0 he1 hf0 hf1 h0 h1 h2 w
    have ec : ucnt (val a b) (val c d) (val e f) = min 28 (min (nrc (val a b)) (min (nrc (val c d)) (nrc (val e f)))) := by
      unfold ucnt
      dsimp only
      rw [if_neg h0, if_neg h1, if_neg h2]
      try omega
    unfold uni usq
    rw [ec]
    exact h
end Go.Proofs.YtbbhppjamighdaaDoor
