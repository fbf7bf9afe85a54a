/- Contracts of functions, each out of one walk. -/
import Derived.Test.YtpmfkelglmgddaaGreatDoorTcBL
namespace Go.Proofs.YtpmfkelglmgddaaGreatDoor
namespace Vc
open Go Go.RowKit
set_option linter.unusedVariables false
def DT  : Prop :=
(((64 : Int) ≤ 64) ∧
(Px 952 [(aH (ar 4 [xI 0, xI 0, xI 0, xI 0]) 1), (aH (ar 1 [xI 0, xI 0, xI 0, xI 0, xI 0, xI 0, xI 0, xI 0, xI 0, xI 0, xI 0, xI 0, xI 0, xI 0, xI 0, xI 0, xI 0, xI 0, xI 0, xI 0, xI 0, xI 1, xI 0, xI 0, xI 0, xI 0, xI 0, xI 0, xI 0, xI 0, xI 0, xI 0, xI 0, xI 0, xI 0, xI 0, xI 0, xI 0, xI 0, xI 0, xI 0, xI 0, xI 0, xI 0, xI 0, xI 0, xI 0, xI 0, xI 0, xI 0, xI 0, xI 0, xI 0, xI 0, xI 0, xI 0, xI 0, xI 0, xI 0, xI 0, xI 0, xI 0, xI 0, xI 0]) 64), (aH (ar 8 [(xS ⟨#[97, 105, 114]⟩), (xB false), (xB false), (xB false), xI 1, xI 0, xI 0, xI 0, (xS ⟨#[115, 116, 111, 110, 101]⟩), (xB true), (xB false), (xB false), xI 16, xI 0, xI 0, xI 0, (xS ⟨#[103, 108, 97, 115, 115]⟩), (xB true), (xB false), (xB false), xI 1, xI 0, xI 0, xI 0, (xS ⟨#[108, 97, 109, 112]⟩), (xB true), (xB false), (xB false), xI 16, xI 15, xI 14, xI 10, (xS ⟨#[115, 97, 110, 100]⟩), (xB true), (xB false), (xB true), xI 16, xI 0, xI 0, xI 0, (xS ⟨#[119, 97, 116, 101, 114]⟩), (xB false), (xB true), (xB false), xI 3, xI 0, xI 0, xI 0, (xS ⟨#[108, 101, 97, 118, 101, 115]⟩), (xB true), (xB false), (xB false), xI 2, xI 0, xI 0, xI 0, (xS ⟨#[101, 109, 98, 101, 114]⟩), (xB true), (xB false), (xB false), xI 16, xI 9, xI 3, xI 0, (xS ⟨#[102, 111, 103]⟩), (xB false), (xB false), (xB false), xI 2, xI 0, xI 0, xI 0]) 9)] ∧
(Px 978 [(aH (ar 6 [xI 1, xI 1, xI 1, xI 0, (xB false), xI 1, xI 2, xI 1, xI 1, xI 0, (xB true), xI 1, xI 1, xI 1, xI 1, xI 1, (xB false), xI 1, xI 1, xI 2, xI 1, xI 1, (xB true), xI 1, xI 1, xI 1, xI 1, xI 2, (xB false), xI 1, xI 1, xI 1, xI 2, xI 2, (xB true), xI 1]) 6), (aH (ar 6 [xI 1, xI 1, xI 1, xI 1, xI 11, xI 0, xI 1, xI 1, xI 2, xI 2, xI 23, xI 0, xI 1, xI 2, xI 2, xI 3, xI 12, xI 0, xI 1, xI 2, xI 1, xI 0, xI 16, xI 0, xI 2, xI 1, xI 1, xI 5, xI 18, xI 1, xI 2, xI 2, xI 1, xI 6, xI 14, xI 1, xI 2, xI 2, xI 2, xI 7, xI 21, xI 1, xI 2, xI 1, xI 2, xI 4, xI 9, xI 1, xI 1, xI 1, xI 1, xI 9, xI 19, xI 2, xI 2, xI 1, xI 1, xI 10, xI 7, xI 2, xI 2, xI 1, xI 2, xI 11, xI 20, xI 2, xI 1, xI 1, xI 2, xI 8, xI 0, xI 2, xI 1, xI 2, xI 1, xI 13, xI 2, xI 3, xI 1, xI 2, xI 2, xI 14, xI 22, xI 3, xI 2, xI 2, xI 2, xI 15, xI 5, xI 3, xI 2, xI 2, xI 1, xI 12, xI 17, xI 3, xI 1, xI 1, xI 1, xI 17, xI 3, xI 4, xI 1, xI 2, xI 1, xI 18, xI 15, xI 4, xI 2, xI 2, xI 1, xI 19, xI 4, xI 4, xI 2, xI 1, xI 1, xI 16, xI 8, xI 4, xI 1, xI 1, xI 2, xI 21, xI 10, xI 5, xI 2, xI 1, xI 2, xI 22, xI 6, xI 5, xI 2, xI 2, xI 2, xI 23, xI 13, xI 5, xI 1, xI 2, xI 2, xI 20, xI 1, xI 5]) 24)] ∧
(Px 978 [(aH (ar 6 [xI 1, xI 1, xI 1, xI 0, (xB false), xI 1, xI 2, xI 1, xI 1, xI 0, (xB true), xI 1, xI 1, xI 1, xI 1, xI 1, (xB false), xI 1, xI 1, xI 2, xI 1, xI 1, (xB true), xI 1, xI 1, xI 1, xI 1, xI 2, (xB false), xI 1, xI 1, xI 1, xI 2, xI 2, (xB true), xI 1]) 6), (aH (ar 6 [xI 1, xI 1, xI 1, xI 1, xI 11, xI 0, xI 1, xI 1, xI 2, xI 2, xI 23, xI 0, xI 1, xI 2, xI 2, xI 3, xI 12, xI 0, xI 1, xI 2, xI 1, xI 0, xI 16, xI 0, xI 2, xI 1, xI 1, xI 5, xI 18, xI 1, xI 2, xI 2, xI 1, xI 6, xI 14, xI 1, xI 2, xI 2, xI 2, xI 7, xI 21, xI 1, xI 2, xI 1, xI 2, xI 4, xI 9, xI 1, xI 1, xI 1, xI 1, xI 9, xI 19, xI 2, xI 2, xI 1, xI 1, xI 10, xI 7, xI 2, xI 2, xI 1, xI 2, xI 11, xI 20, xI 2, xI 1, xI 1, xI 2, xI 8, xI 0, xI 2, xI 1, xI 2, xI 1, xI 13, xI 2, xI 3, xI 1, xI 2, xI 2, xI 14, xI 22, xI 3, xI 2, xI 2, xI 2, xI 15, xI 5, xI 3, xI 2, xI 2, xI 1, xI 12, xI 17, xI 3, xI 1, xI 1, xI 1, xI 17, xI 3, xI 4, xI 1, xI 2, xI 1, xI 18, xI 15, xI 4, xI 2, xI 2, xI 1, xI 19, xI 4, xI 4, xI 2, xI 1, xI 1, xI 16, xI 8, xI 4, xI 1, xI 1, xI 2, xI 21, xI 10, xI 5, xI 2, xI 1, xI 2, xI 22, xI 6, xI 5, xI 2, xI 2, xI 2, xI 23, xI 13, xI 5, xI 1, xI 2, xI 2, xI 20, xI 1, xI 5]) 24)] ∧
((true = true) ↔ (Ff 928 []).b = true)))))
theorem M'  : (bS (fun j => Ff j []) sV.fs sV.res { ρ0 with x := fun j => [].getD j (xI 0) } (bP Tryz.prog (ui DU (some Gf) [] [BW, uo] [] bq) Tryz.f4 2000 sV.args)) = DT  := by kernel_rfl
set_option maxHeartbeats 4000000 in
theorem Na   : DT  := by
 unfold DT
 refine ab ?_ fun o0 => ?_
 ·decide
 refine ab ?_ fun o1 => ?_
 ·refine ⟨⟨.inl rfl, fun k k0 k1 => ?_⟩, rfl⟩
  have k1 : k < 1 := k1
  obtain rfl : k = 0 := by omega
  exact ⟨rfl, rfl⟩
 refine ab ?_ fun o2 => ?_
 ·refine ⟨?_, ?_⟩ <;> decide +kernel
 refine ab ?_ fun o3 => ?_
 ·refine ⟨?_, ?_⟩ <;> decide +kernel
 exact iff_of_true rfl rfl
theorem Nb : aZ Tryz.prog ρ0 sV := by
 refine db (cf := ui DU (some Gf) [] [BW, uo] [] bq) (ib Nc bt ((bw.cons Pn Po).cons Pp Pq) Ac) Tryz.func4 rfl 2000 rfl fun ds hr => ?_
 have hr : ds = [] := hr
 subst hr
 exact Eq.mpr M' Na
theorem Nd : Hs sV.f := ⟨_, Tryz.func4, by kernel_rfl, by kernel_rfl⟩
end Vc
end Go.Proofs.YtpmfkelglmgddaaGreatDoor
