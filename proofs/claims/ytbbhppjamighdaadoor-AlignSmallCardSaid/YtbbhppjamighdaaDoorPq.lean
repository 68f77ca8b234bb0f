/- Polynomials as lists of coefficients, in one and two variables: sums, products, composition, and a bound by the sum of the sizes of the coefficients. No Go in it. -/
import Derived.Test.YtbbhppjamighdaaDoorPs
namespace Go.Proofs.YtbbhppjamighdaaDoor
set_option linter.unusedSimpArgs false
set_option linter.unusedVariables false
open Go.RowKit

/-- The value of a polynomial, the lowest coefficient first. -/
def ev : List Int → Int → Int
  | [], _ => 0
  | c :: cs, x => c + x * ev cs x
def padd : List Int → List Int → List Int
  | [], q => q
  | c :: p, [] => c :: p
  | c :: p, d :: q => (c + d) :: padd p q
def pscale (k : Int) : List Int → List Int
  | [] => []
  | c :: p => (k * c) :: pscale k p
def pmul : List Int → List Int → List Int
  | [], _ => []
  | c :: p, q => padd (pscale c q) (0 :: pmul p q)
/-- The sum of the sizes of the coefficients, weighted with the powers of r. -/
def pabs : List Int → Int → Int
  | [], _ => 0
  | c :: cs, r => (if c < 0 then -c else c) + r * pabs cs r
/-- In two variables: a list of polynomials in the first. -/
def ev2 : List (List Int) → Int → Int → Int
  | [], _, _ => 0
  | p :: ps, s, t => ev p s + t * ev2 ps s t
def padd2 : List (List Int) → List (List Int) → List (List Int)
  | [], q => q
  | c :: p, [] => c :: p
  | c :: p, d :: q => padd c d :: padd2 p q
def pscale2 (k : List Int) : List (List Int) → List (List Int)
  | [] => []
  | c :: p => pmul k c :: pscale2 k p
def pmul2 : List (List Int) → List (List Int) → List (List Int)
  | [], _ => []
  | c :: p, q => padd2 (pscale2 c q) ([] :: pmul2 p q)
def pcomp : List Int → List (List Int) → List (List Int)
  | [], _ => []
  | c :: cs, x => padd2 [[c]] (pmul2 x (pcomp cs x))
def pabs2 : List (List Int) → Int → Int
  | [], _ => 0
  | p :: ps, r => pabs p r + r * pabs2 ps r

theorem ev_padd : ∀ (p q : List Int) (x : Int), ev (padd p q) x = ev p x + ev q x
  | [], q, x => by simp [padd, ev]
  | c :: p, [], x => by simp [padd, ev]
  | c :: p, d :: q, x => by
    simp only [padd, ev, ev_padd p q x, Int.mul_add]; omega
theorem ev_pscale (k : Int) : ∀ (p : List Int) (x : Int), ev (pscale k p) x = k * ev p x
  | [], x => by simp [pscale, ev]
  | c :: p, x => by
    simp only [pscale, ev, ev_pscale k p x, Int.mul_add, Int.mul_left_comm x k]
theorem ev_pmul : ∀ (p q : List Int) (x : Int), ev (pmul p q) x = ev p x * ev q x
  | [], q, x => by simp [pmul, ev]
  | c :: p, q, x => by
    simp only [pmul, ev_padd, ev_pscale, ev, ev_pmul p q x, Int.add_mul, Int.mul_assoc]; omega
theorem ev2_padd : ∀ (p q : List (List Int)) (s t : Int), ev2 (padd2 p q) s t = ev2 p s t + ev2 q s t
  | [], q, s, t => by simp [padd2, ev2]
  | c :: p, [], s, t => by simp [padd2, ev2]
  | c :: p, d :: q, s, t => by
    simp only [padd2, ev2, ev_padd, ev2_padd p q s t, Int.mul_add]; omega
theorem ev2_pscale (k : List Int) : ∀ (p : List (List Int)) (s t : Int), ev2 (pscale2 k p) s t = ev k s * ev2 p s t
  | [], s, t => by simp [pscale2, ev2]
  | c :: p, s, t => by
    simp only [pscale2, ev2, ev_pmul, ev2_pscale k p s t, Int.mul_add, Int.mul_left_comm t (ev k s)]
theorem ev2_pmul : ∀ (p q : List (List Int)) (s t : Int), ev2 (pmul2 p q) s t = ev2 p s t * ev2 q s t
  | [], q, s, t => by simp [pmul2, ev2]
  | c :: p, q, s, t => by
    simp only [pmul2, ev2_padd, ev2_pscale, ev2, ev, ev2_pmul p q s t, Int.add_mul, Int.mul_assoc]; omega
theorem ev2_pcomp : ∀ (l : List Int) (x : List (List Int)) (s t : Int), ev2 (pcomp l x) s t = ev l (ev2 x s t)
  | [], x, s, t => by simp [pcomp, ev, ev2]
  | c :: l, x, s, t => by
    simp only [pcomp, ev2_padd, ev2_pmul, ev2_pcomp l x s t, ev2, ev, Int.mul_zero, Int.add_zero]
theorem pabs_nonneg : ∀ (p : List Int) (r : Int), 0 ≤ r → 0 ≤ pabs p r
  | [], r, _ => by simp [pabs]
  | c :: p, r, h => by
    have a := Int.mul_nonneg h (pabs_nonneg p r h)
    simp only [pabs]; split <;> omega
theorem ev_le : ∀ (p : List Int) (x r : Int), -r ≤ x → x ≤ r → 0 ≤ r → -pabs p r ≤ ev p x ∧ ev p x ≤ pabs p r
  | [], x, r, _, _, _ => by simp [pabs, ev]
  | c :: p, x, r, h0, h1, h => by
    have a := ev_le p x r h0 h1 h
    have b := mul_size' x (ev p x) r (pabs p r) h (pabs_nonneg p r h) h0 h1 a.1 a.2
    simp only [pabs, ev]; split <;> omega
theorem pabs2_nonneg : ∀ (p : List (List Int)) (r : Int), 0 ≤ r → 0 ≤ pabs2 p r
  | [], r, _ => by simp [pabs2]
  | c :: p, r, h => by
    have a := Int.mul_nonneg h (pabs2_nonneg p r h)
    have b := pabs_nonneg c r h
    simp only [pabs2]; omega
theorem ev2_le : ∀ (p : List (List Int)) (s t r : Int), -r ≤ s → s ≤ r → -r ≤ t → t ≤ r → 0 ≤ r → -pabs2 p r ≤ ev2 p s t ∧ ev2 p s t ≤ pabs2 p r
  | [], s, t, r, _, _, _, _, _ => by simp [pabs2, ev2]
  | c :: p, s, t, r, h0, h1, h2, h3, h => by
    have a := ev2_le p s t r h0 h1 h2 h3 h
    have b := mul_size' t (ev2 p s t) r (pabs2 p r) h (pabs2_nonneg p r h) h2 h3 a.1 a.2
    have d := ev_le c s r h0 h1 h
    simp only [pabs2, ev2]; omega
end Go.Proofs.YtbbhppjamighdaaDoor
