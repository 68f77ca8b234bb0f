/- The sine as it is evaluated, against its polynomial: they differ by less than 3.7 units. No Go in it. -/
import Derived.Test.YtbbhppjamighdaaDoorPq
namespace Go.Proofs.YtbbhppjamighdaaDoor
set_option linter.unusedSimpArgs false
set_option linter.unusedVariables false
open Go.RowKit

/-- The polynomial of the sine, times 2^364, for the quarter's part in units of 2^-28. -/
def sP : List Int := [0, 29512656480100501315975673696342018508565303484116982355228926298138275047785437151729665131124786308268949504, 0, -168429070472934600977691574690922556501758170306285213837371608123502984869180232727248502784, 0, 288367984023149988798044924094221153885022699598034837371198635114084958208, 0, -235102625243179210322770496786754976305478900674560262144, 0, 111810920551688978152775707953425547264, 0, -34803817920319193088, 0, 8]

/-- One step of the evaluation. -/
theorem horn (A e : Int) (z D h H r c B : Int) (hA : 0 ≤ A) (he : 0 ≤ e) (hB : 0 ≤ B) (z0 : -134217728 ≤ z * 268435456 - D) (z1 : z * 268435456 - D ≤ 134217728) (D0 : 0 ≤ D) (D1 : D ≤ 72057594037927936)
    (b0 : -B ≤ h) (b1 : h ≤ B) (r0 : 2 * (z * h) - 268435456 ≤ 2 * (r * 268435456)) (r1 : 2 * (r * 268435456) ≤ 2 * (z * h) + 268435456)
    (e0 : -e ≤ A * h - H) (e1 : A * h - H ≤ e) :
    -(A * 268435456 * 134217728 + A * (B * 134217728) + 72057594037927936 * e) ≤ A * 72057594037927936 * (c + r) - (c * (A * 72057594037927936) + D * H) ∧
    A * 72057594037927936 * (c + r) - (c * (A * 72057594037927936) + D * H) ≤ A * 268435456 * 134217728 + A * (B * 134217728) + 72057594037927936 * e := by
  have k1 := mul_size' A (r * 268435456 - z * h) A 134217728 hA (by omega) (by omega) (by omega) (by omega) (by omega)
  have k2 := mul_size' h (z * 268435456 - D) B 134217728 hB (by omega) b0 b1 z0 z1
  have k3 := mul_size' A (h * (z * 268435456 - D)) A (B * 134217728) hA (Int.mul_nonneg hB (by omega)) (by omega) (by omega) k2.1 k2.2
  have k4 := mul_size' D (A * h - H) 72057594037927936 e (by omega) he (by omega) D1 e0 e1
  have key : A * 72057594037927936 * (c + r) - (c * (A * 72057594037927936) + D * H) = 268435456 * (A * (r * 268435456 - z * h)) + A * (h * (z * 268435456 - D)) + D * (A * h - H) := by grind
  rw [key]
  have f : A * 268435456 * 134217728 = 268435456 * (A * 134217728) := by grind
  rw [f]
  omega

theorem sine_near (u : Int) (h0 : -67108864 ≤ u) (h1 : u ≤ 67108864) : -(37 * 37576681324381331646231689548629392438010920782533117931316655544515344401833735095419183974156299248510959616) ≤ 10 * (37576681324381331646231689548629392438010920782533117931316655544515344401833735095419183974156299248510959616 * sinq u - ev sP (4 * u)) ∧ 10 * (37576681324381331646231689548629392438010920782533117931316655544515344401833735095419183974156299248510959616 * sinq u - ev sP (4 * u)) ≤ 37 * 37576681324381331646231689548629392438010920782533117931316655544515344401833735095419183974156299248510959616 := by
  obtain ⟨⟨d0, d1⟩, z0, z1⟩ := sz_bd u h0 h1
  obtain ⟨⟨p1, a1⟩, ⟨p2, a2⟩, ⟨p3, a3⟩, ⟨p4, a4⟩, ⟨p5, a5⟩, ⟨p6, a6⟩⟩ := sh_bd (sz u) z0 z1
  have nz := rnd_near (4 * u * (4 * u)) 268435456 (by omega)
  have n1 := rnd_near (sz u * 8) 268435456 (by omega)
  have n2 := rnd_near (sz u * sh1 (sz u)) 268435456 (by omega)
  have n3 := rnd_near (sz u * sh2 (sz u)) 268435456 (by omega)
  have n4 := rnd_near (sz u * sh3 (sz u)) 268435456 (by omega)
  have n5 := rnd_near (sz u * sh4 (sz u)) 268435456 (by omega)
  have n6 := rnd_near (sz u * sh5 (sz u)) 268435456 (by omega)
  have n7 := rnd_near (4 * u * sh6 (sz u)) 268435456 (by omega)
  rw [show rnd (4 * u * (4 * u)) 268435456 = sz u from rfl] at nz
  rw [show rnd (4 * u * sh6 (sz u)) 268435456 = sinq u from rfl] at n7
  have q1 := horn 1 0 (sz u) (4 * u * (4 * u)) (8) (8) (rnd (sz u * 8) 268435456) (-483) 8 (by omega) (by omega) (by omega) (by omega) (by omega) d0 d1 (by omega) (by omega) n1.1 n1.2 (by omega) (by omega)
  rw [show -483 + rnd (sz u * 8) 268435456 = sh1 (sz u) from rfl] at q1
  generalize eG1 : -483 * (1 * 72057594037927936) + 4 * u * (4 * u) * 8 = G1 at q1
  simp only [show (1 : Int) * 72057594037927936 = 72057594037927936 from by decide] at q1
  have q2 := horn 72057594037927936 36028798092705792 (sz u) (4 * u * (4 * u)) (sh1 (sz u)) (G1) (rnd (sz u * sh1 (sz u)) 268435456) (21534) 483 (by omega) (by omega) (by omega) (by omega) (by omega) d0 d1 (by omega) (by omega) n2.1 n2.2 (by omega) (by omega)
  rw [show 21534 + rnd (sz u * sh1 (sz u)) 268435456 = sh2 (sz u) from rfl] at q2
  generalize eG2 : 21534 * (72057594037927936 * 72057594037927936) + 4 * u * (4 * u) * G1 = G2 at q2
  simp only [show (72057594037927936 : Int) * 72057594037927936 = 5192296858534827628530496329220096 from by decide] at q2
  have q3 := horn 5192296858534827628530496329220096 5192301607195447074793894575079424 (sz u) (4 * u * (4 * u)) (sh2 (sz u)) (G2) (rnd (sz u * sh2 (sz u)) 268435456) (-628374) 21534 (by omega) (by omega) (by omega) (by omega) (by omega) d0 d1 (by omega) (by omega) n3.1 n3.2 (by omega) (by omega)
  rw [show -628374 + rnd (sz u * sh2 (sz u)) 268435456 = sh3 (sz u) from rfl] at q3
  generalize eG3 : -628374 * (5192296858534827628530496329220096 * 72057594037927936) + 4 * u * (4 * u) * G2 = G3 at q3
  simp only [show (5192296858534827628530496329220096 : Int) * 72057594037927936 = 374144419156711147060143317175368453031918731001856 from by decide] at q3
  have q4 := horn 374144419156711147060143317175368453031918731001856 561231977919847896745674110894145025802945884585984 (sz u) (4 * u * (4 * u)) (sh3 (sz u)) (G3) (rnd (sz u * sh3 (sz u)) 268435456) (10696163) 628374 (by omega) (by omega) (by omega) (by omega) (by omega) d0 d1 (by omega) (by omega) n4.1 n4.2 (by omega) (by omega)
  rw [show 10696163 + rnd (sz u * sh3 (sz u)) 268435456 = sh4 (sz u) from rfl] at q4
  generalize eG4 : 10696163 * (374144419156711147060143317175368453031918731001856 * 72057594037927936) + 4 * u * (4 * u) * G3 = G4 at q4
  simp only [show (374144419156711147060143317175368453031918731001856 : Int) * 72057594037927936 = 26959946667150639794667015087019630673637144422540572481103610249216 from by decide] at q4
  have q5 := horn 26959946667150639794667015087019630673637144422540572481103610249216 53952554299834029683590974442879780091509221292110936670872444862464 (sz u) (4 * u * (4 * u)) (sh4 (sz u)) (G4) (rnd (sz u * sh4 (sz u)) 268435456) (-86699834) 10696163 (by omega) (by omega) (by omega) (by omega) (by omega) d0 d1 (by omega) (by omega) n5.1 n5.2 (by omega) (by omega)
  rw [show -86699834 + rnd (sz u * sh4 (sz u)) 268435456 = sh5 (sz u) from rfl] at q5
  generalize eG5 : -86699834 * (26959946667150639794667015087019630673637144422540572481103610249216 * 72057594037927936) + 4 * u * (4 * u) * G4 = G5 at q5
  simp only [show (26959946667150639794667015087019630673637144422540572481103610249216 : Int) * 72057594037927936 = 1942668892225729070919461906823518906642406839052139521251812409738904285205208498176 from by decide] at q5
  have q6 := horn 1942668892225729070919461906823518906642406839052139521251812409738904285205208498176 4897729796803095831204206780896364388015623809622465675929177146950885551015320354816 (sz u) (4 * u * (4 * u)) (sh5 (sz u)) (G5) (rnd (sz u * sh5 (sz u)) 268435456) (210828714) 86699834 (by omega) (by omega) (by omega) (by omega) (by omega) d0 d1 (by omega) (by omega) n6.1 n6.2 (by omega) (by omega)
  rw [show 210828714 + rnd (sz u * sh5 (sz u)) 268435456 = sh6 (sz u) from rfl] at q6
  generalize eG6 : 210828714 * (1942668892225729070919461906823518906642406839052139521251812409738904285205208498176 * 72057594037927936) + 4 * u * (4 * u) * G5 = G6 at q6
  simp only [show (1942668892225729070919461906823518906642406839052139521251812409738904285205208498176 : Int) * 72057594037927936 = 139984046386112763159840142535527767382602843577165595931249318810236991948760059086304843329475444736 from by decide] at q6
  have key : ev sP (4 * u) = 4 * u * G6 := by
    subst eG1 eG2 eG3 eG4 eG5 eG6
    simp only [sP, ev]
    grind
  rw [key]
  have k7 := mul_size' (4 * u) (139984046386112763159840142535527767382602843577165595931249318810236991948760059086304843329475444736 * sh6 (sz u) - G6) 268435456 445516815766586308842178499705178950313210648684374135293348120067065230342483801831816037540766416896 (by omega) (by omega) (by omega) (by omega) (by omega) (by omega)
  have f7 : 4 * u * (139984046386112763159840142535527767382602843577165595931249318810236991948760059086304843329475444736 * sh6 (sz u) - G6) = 139984046386112763159840142535527767382602843577165595931249318810236991948760059086304843329475444736 * (4 * u * sh6 (sz u)) - 4 * u * G6 := by grind
  rw [f7] at k7
  omega
end Go.Proofs.YtbbhppjamighdaaDoor
