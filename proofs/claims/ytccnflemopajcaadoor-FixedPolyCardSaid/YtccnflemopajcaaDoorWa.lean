/- Contracts of the reference of layer 17 (Values, Exact, Dot, Of, Cross, Length) and of layer 16 (Root, Nearest). -/
import Derived.Test.YtccnflemopajcaaDoorRa
import Derived.Test.YtccnflemopajcaaDoorKd
import Derived.Test.YtccnflemopajcaaDoorPc
namespace Go.Proofs.YtccnflemopajcaaDoor
set_option linter.unusedSimpArgs false
set_option linter.unusedVariables false
open Go.RowKit

theorem rcell_far (w : World) (p a : Addr) (v : Value) (h : p.block ≠ a.block) : (w.setCell p v).cell? a = w.cell? a := World.cell?_setCell_other _ _ _ _ (fun e => h (congrArg Addr.block e))

theorem half_bd (l h : Int) (h0 : 0 ≤ l) (h1 : l + 1 < h) (h2 : h ≤ 1073741824) : l < (l + h) / 2 ∧ (l + h) / 2 < h := by omega
theorem sq_bd30 (x : Int) (h0 : 0 ≤ x) (h1 : x ≤ 1073741824) : 0 ≤ x * x ∧ x * x ≤ 1152921504606846976 :=
  ⟨Int.mul_nonneg h0 h0, sq_le x 1073741824 h0 h1⟩
theorem dot_self (a b c : Int) (ha : -268435455 ≤ a) (ha' : a ≤ 268435455) (hb : -268435455 ≤ b) (hb' : b ≤ 268435455) (hc : -268435455 ≤ c) (hc' : c ≤ 268435455) : 0 ≤ dot a b c a b c ∧ dot a b c a b c ≤ 216172780503171075 := by
  have := mul_bd a a ha ha' ha ha'
  have := mul_bd b b hb hb' hb hb'
  have := mul_bd c c hc hc' hc hc'
  have := sqn a
  have := sqn b
  have := sqn c
  unfold dot
  omega
end Go.Proofs.YtccnflemopajcaaDoor
