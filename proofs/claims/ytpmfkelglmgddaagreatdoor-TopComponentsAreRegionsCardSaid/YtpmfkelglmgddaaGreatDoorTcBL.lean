/- Check and Euler at the mesh of a stone. -/
import Derived.Test.YtpmfkelglmgddaaGreatDoorTcBN
import Derived.Test.YtpmfkelglmgddaaGreatDoorTcAC
import Derived.Test.YtpmfkelglmgddaaGreatDoorTcO
import Derived.Test.YtpmfkelglmgddaaGreatDoorTcBO
namespace Go.Proofs.YtpmfkelglmgddaaGreatDoor
namespace Vc
open Go Go.RowKit
set_option linter.unusedVariables false
def Fm.Q3 : Fm → Fm
 | .and a _ => a
 | x => x
def Fm.Q4 : Fm → Fm
 | .and _ b => b
 | x => x
theorem DV {f : Nat → X} {j : Nat} {r : BX} {ρ : Env} {F : Fm} (h1 : bS f j r ρ F.Q3) (h2 : bS f j r ρ F.Q4) : bS f j r ρ F := by
 cases F <;> first | exact ⟨h1, h2⟩ | exact h1
theorem Pr (x0 x1 : X) : bS (fun j => Ff j [x0, x1]) uo.fs uo.res { ρ0 with x := fun j => [x0, x1].getD j (xI 0) } (go Tryz.prog (Oa [([0, 0], 5), ([2, 0], 5)] ij (some Gf) [] [wc, DW] [] bq) 0 Tryz.f12 20000 (.code (gb Tryz.f12)) [] (gj Tryz.f12 (pW uo.args 0 0) Mw) [] none).Q3 = ((true = true) ↔ (Ff 918 [x0, x1]).b = true) := by kernel_rfl
theorem Ps (x0 x1 : X) : bS (fun j => Ff j [x0, x1]) uo.fs uo.res { ρ0 with x := fun j => [x0, x1].getD j (xI 0) } (go Tryz.prog (Oa [([0, 0], 5), ([2, 0], 5)] ij (some Gf) [] [wc, DW] [] bq) 0 Tryz.f12 20000 (.code (gb Tryz.f12)) [] (gj Tryz.f12 (pW uo.args 0 0) Mw) [] none).Q4 = ((true = true) ↔ (Ff 918 [x0, x1]).b = true) := by kernel_rfl
theorem Pn : aZ Tryz.prog ρ0 uo := by
 refine we (cf := Oa [([0, 0], 5), ([2, 0], 5)] ij (some Gf) [] [wc, DW] [] bq) (KG vZ bt ((bw.cons Q5 Q6).cons Pu Pv) Ac) Tryz.func12 rfl 20000 rfl Mw (fun ds lsn w hr hp hh => DX hr hp hh) fun ds hr => ?_
 have hr := aA hr
 match ds, hr with
 | [x0, x1], _ => exact DV ((Pr x0 x1).mpr (iff_of_true rfl rfl)) ((Ps x0 x1).mpr (iff_of_true rfl rfl))
theorem Po : Hs 12 := ⟨_, Tryz.func12, rfl, rfl⟩
def Q7 : X := (ev ρ0 (.eY (.bE 6 Pw) (.ic 6))).x
def Q8 : X := (ev ρ0 (.eY (.bE 6 Py) (.ic 24))).x
theorem KH : ug Q7 Q8 := by
 unfold ug
 decide +kernel
theorem Pz (x0 x1 : X) : bS (fun j => Ff j [x0, x1]) BW.fs BW.res { ρ0 with x := fun j => [x0, x1].getD j (xI 0) } (go Tryz.prog (ui ij (some Gf) [] [lP] [] bq) 0 Tryz.f11 20000 (.code (gb Tryz.f11)) [] (gj Tryz.f11 (pW BW.args 0 0) Mw) [] none) = (Px 957 [Q7, Q8] ∧ cR [.int .i64 (-1000) 1000] (Ff 922 [x0, x1]) (ak (ak (ak (ak (ak (ak (ak (ak (ak (ak (ak (ak (ak (ak (ak (ak (ak (ak (ak (ak (ak (ak (ak (ak (ak (ak (ak (ak (ak (ak (ak (ak (ak (ak (ak (ak (ak (ak (ak (z7 [(xI 0)]) 0 0 (xI 2)) 0 0 (xI 4)) 0 0 (xI 6)) 0 0 (xI 8)) 0 0 (xI 10)) 0 0 (xI 12)) 0 0 (xI 11)) 0 0 (xI 10)) 0 0 (xI 9)) 0 0 (xI 8)) 0 0 (xI 7)) 0 0 (xI 6)) 0 0 (xI 5)) 0 0 (xI 4)) 0 0 (xI 3)) 0 0 (xI 2)) 0 0 (xI 1)) 0 0 (xI 0)) 0 0 (xI (-1))) 0 0 (xI (-2))) 0 0 (xI (-3))) 0 0 (xI (-4))) 0 0 (xI (-5))) 0 0 (xI (-6))) 0 0 (xI (-7))) 0 0 (xI (-8))) 0 0 (xI (-9))) 0 0 (xI (-10))) 0 0 (xI (-11))) 0 0 (xI (-12))) 0 0 (xI (-10))) 0 0 (xI (-8))) 0 0 (xI (-6))) 0 0 (xI (-4))) 0 0 (xI (-2))) 0 0 (xI 0)) 0 0 (xI 2)) 0 0 (xI 4)) 0 0 (xI 2)) 1 10) := by kernel_rfl
theorem Pp : aZ Tryz.prog ρ0 BW := by
 refine we (cf := ui ij (some Gf) [] [lP] [] bq) (ib vZ bt (bw.cons I' Ja) Ac) Tryz.func11 rfl 20000 rfl Mw (fun ds lsn w hr hp hh => DX hr hp hh) fun ds hr => ?_
 have hr := aA hr
 match ds, hr with
 | [x0, x1], _ =>
  refine (Pz x0 x1).mpr ⟨KH, rfl, by decide, fun i hi => ?_⟩
  obtain rfl : i = 0 := by omega
  exact ⟨rfl, trivial⟩
theorem Pq : Hs 11 := ⟨_, Tryz.func11, rfl, rfl⟩
end Vc
end Go.Proofs.YtpmfkelglmgddaaGreatDoor
namespace Go.Proofs.YtpmfkelglmgddaaGreatDoor
namespace Vc
open Go Go.RowKit
set_option linter.unusedVariables false
def DU : ku := Kz ij (pX (some Gf))
theorem Nc : fp Tryz.prog DU := Pm vZ (Dj Ac)
end Vc
end Go.Proofs.YtpmfkelglmgddaaGreatDoor
