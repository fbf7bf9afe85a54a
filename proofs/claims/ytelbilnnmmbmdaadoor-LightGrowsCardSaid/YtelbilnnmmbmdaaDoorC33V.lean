/- Contracts of functions, each out of one walk. -/
import Derived.Test.YtelbilnnmmbmdaaDoorC33U
import Derived.Test.YtelbilnnmmbmdaaDoorC33Q
import Derived.Test.YtelbilnnmmbmdaaDoorC33F
namespace Go.Proofs.YtelbilnnmmbmdaaDoor
namespace Vc
open Go Go.RowKit
set_option linter.unusedVariables false
def StPP (x0 x1 x2 x3 x4 x5 : Int) (x6 : X) (x7 : X) (x8 : X) (x9 : X) : Prop :=
 let A := [xI x0, xI x1, xI x2, xI x3, xI x4, xI x5, x6, x7, x8, x9]; (Px 1245 [xI x0, xI x1, xI x2, xI x3, xI x4, xI x5, x6, x7, x8, xI 0, (mkX (rwTab 1 []) 0), (mkX (rwTab 1 []) 0)] ∧
(∀ x30 : X, (∀ x31 : X, (∀ x32 : X, (((0 ≤ x30.i) ∧ (x30.i ≤ 2097152)) →
((0 ≤ x31.i ∧ x31.i ≤ 2097152 ∧ RowOk SFd x31.r (x31.i).toNat) →
((0 ≤ x32.i ∧ x32.i ≤ 2097152 ∧ RowOk SEm x32.r (x32.i).toNat) →
(Px 1245 [xI x0, xI x1, xI x2, xI x3, xI x4, xI x5, x6, x7, x8, x30, x31, x32] →
(((x30.i < x6.i) →
((x30.i < x6.i) ∧
(Px 1234 [x7, (xI (x6.r x30.i 0).i)] ∧
(Px 1234 [x7, (xI (x6.r x30.i 0).i)] ∧
(((x31.i + 1) ≤ 2097152) ∧
(((x32.i + 1) ≤ 2097152) ∧
(let v12 := Ff 1221 [x7, (xI (x6.r x30.i 0).i)]; let v13 := Ff 1218 [x7, (xI (x6.r x30.i 0).i)]; let v14 := Ff 1219 [x7, (xI (x6.r x30.i 0).i)]; let v15 := Ff 1220 [x7, (xI (x6.r x30.i 0).i)]; (Px 1245 [xI x0, xI x1, xI x2, xI x3, xI x4, xI x5, x6, x7, x8, (xI (x30.i + 1)), (mkX (rwCat x31.r x31.i (rwTab 1 [v12])) (x31.i + 1)), (mkX (rwCat x32.r x32.i (rwTab 3 [v13, v14, v15])) (x32.i + 1))] ∧
(((Ff 1253 [xI x0, xI x1, xI x2, xI x3, xI x4, xI x5, x6, x7, x8, (xI (x30.i + 1)), (mkX (rwCat x31.r x31.i (rwTab 1 [v12])) (x31.i + 1)), (mkX (rwCat x32.r x32.i (rwTab 3 [v13, v14, v15])) (x32.i + 1))]).i < (Ff 1253 [xI x0, xI x1, xI x2, xI x3, xI x4, xI x5, x6, x7, x8, x30, x31, x32]).i) ∧
(0 < (Ff 1253 [xI x0, xI x1, xI x2, xI x3, xI x4, xI x5, x6, x7, x8, x30, x31, x32]).i)))))))))) ∧
((¬ (x30.i < x6.i)) →
(Px 1246 (A ++ [xI 0, (mkX (rwRep [xI 0, xI 0, xI 0, xI 0]) x6.i)]) ∧
(∀ x40 : X, (∀ x41 : X, (((0 ≤ x40.i) ∧ (x40.i ≤ 2097152)) →
((0 ≤ x41.i ∧ x41.i ≤ 2097152 ∧ RowOk SLv x41.r (x41.i).toNat) →
(Px 1246 (A ++ [x40, x41]) →
(((x40.i < x6.i) →
(Px 1235 [xI x0, xI x1, xI x2, xI x3, xI x4, xI x5, x6, x8, x31, x32, xI x40.i] ∧
(let v26 := Ff 1223 [xI x0, xI x1, xI x2, xI x3, xI x4, xI x5, x6, x8, x31, x32, xI x40.i]; (((¬ (v26.b = true)) →
(Px 1246 (A ++ [(xI (x40.i + 1)), x41]) ∧
(((Ff 1254 (A ++ [(xI (x40.i + 1)), x41])).i < (Ff 1254 (A ++ [x40, x41])).i) ∧
(0 < (Ff 1254 (A ++ [x40, x41])).i)))) ∧
((v26.b = true) →
((x40.i < x41.i) ∧
(Px 1236 [xI x0, xI x1, xI x2, xI x3, xI x4, xI x5, x6, x8, x31, x32, xI x40.i, xI 0] ∧
((x40.i < x41.i) ∧
(Px 1236 [xI x0, xI x1, xI x2, xI x3, xI x4, xI x5, x6, x8, x31, x32, xI x40.i, xI 1] ∧
((x40.i < x41.i) ∧
(Px 1236 [xI x0, xI x1, xI x2, xI x3, xI x4, xI x5, x6, x8, x31, x32, xI x40.i, xI 2] ∧
((x40.i < x41.i) ∧
(Px 1236 [xI x0, xI x1, xI x2, xI x3, xI x4, xI x5, x6, x8, x31, x32, xI x40.i, xI 3] ∧
(let v40 := Ff 1225 [xI x0, xI x1, xI x2, xI x3, xI x4, xI x5, x6, x8, x31, x32, xI x40.i, xI 0]; let v41 := Ff 1225 [xI x0, xI x1, xI x2, xI x3, xI x4, xI x5, x6, x8, x31, x32, xI x40.i, xI 1]; let v42 := Ff 1225 [xI x0, xI x1, xI x2, xI x3, xI x4, xI x5, x6, x8, x31, x32, xI x40.i, xI 2]; let v43 := Ff 1225 [xI x0, xI x1, xI x2, xI x3, xI x4, xI x5, x6, x8, x31, x32, xI x40.i, xI 3]; (Px 1247 (A ++ [xI x40.i, xI 0, (mkX (rwSet (rwSet (rwSet (rwSet x41.r x40.i 0 v40) x40.i 1 v41) x40.i 2 v42) x40.i 3 v43) x41.i)]) ∧
(∀ x50 : X, (∀ x51 : X, (((0 ≤ x50.i) ∧ (x50.i ≤ 6)) →
((0 ≤ x51.i ∧ x51.i ≤ 2097152 ∧ RowOk SLv x51.r (x51.i).toNat) →
(Px 1247 (A ++ [xI x40.i, x50, x51]) →
(((x50.i < 6) →
(let v50 := Ff 270 [xI x0, xI x1, xI x2, xI x3, xI x4, xI x5, xI x40.i]; let v51 := Ff 271 [xI x0, xI x1, xI x2, xI x3, xI x4, xI x5, xI x40.i]; let v52 := Ff 272 [xI x0, xI x1, xI x2, xI x3, xI x4, xI x5, xI x40.i]; let v53 := Ff 201 [(xI (v50.i + (bif (decide (x50.i = 5)) then 0 else (bif (decide (x50.i = 4)) then 0 else (bif (decide (x50.i = 3)) then 0 else (bif (decide (x50.i = 2)) then 0 else (bif (decide (x50.i = 1)) then (1 : Int) else (-1)))))))), (xI (v51.i + (bif (decide (x50.i = 5)) then 0 else (bif (decide (x50.i = 4)) then 0 else (bif (decide (x50.i = 3)) then 1 else (bif (decide (x50.i = 2)) then ((-1) : Int) else 0)))))), (xI (v52.i + (bif (decide (x50.i = 5)) then 1 else (bif (decide (x50.i = 4)) then ((-1) : Int) else 0)))), xI x0, xI x1, xI x2, xI x3, xI x4, xI x5]; (((¬ (v53.b = true)) →
(Px 1247 (A ++ [xI x40.i, (xI (x50.i + 1)), x51]) ∧
(((Ff 1255 (A ++ [xI x40.i, (xI (x50.i + 1)), x51])).i < (Ff 1255 (A ++ [xI x40.i, x50, x51])).i) ∧
(0 < (Ff 1255 (A ++ [xI x40.i, x50, x51])).i)))) ∧
((v53.b = true) →
(let v59 := Ff 260 [xI x0, xI x1, xI x2, xI x3, xI x4, xI x5, (xI (v50.i + (bif (decide (x50.i = 5)) then 0 else (bif (decide (x50.i = 4)) then 0 else (bif (decide (x50.i = 3)) then 0 else (bif (decide (x50.i = 2)) then 0 else (bif (decide (x50.i = 1)) then (1 : Int) else (-1)))))))), (xI (v51.i + (bif (decide (x50.i = 5)) then 0 else (bif (decide (x50.i = 4)) then 0 else (bif (decide (x50.i = 3)) then 1 else (bif (decide (x50.i = 2)) then ((-1) : Int) else 0)))))), (xI (v52.i + (bif (decide (x50.i = 5)) then 1 else (bif (decide (x50.i = 4)) then ((-1) : Int) else 0))))]; (Px 1235 [xI x0, xI x1, xI x2, xI x3, xI x4, xI x5, x6, x8, x31, x32, xI v59.i] ∧
(let v61 := Ff 1223 [xI x0, xI x1, xI x2, xI x3, xI x4, xI x5, x6, x8, x31, x32, xI v59.i]; (((v61.b = true) →
((x40.i < x51.i) ∧
(Px 1236 [xI x0, xI x1, xI x2, xI x3, xI x4, xI x5, x6, x8, x31, x32, xI x40.i, xI 0, (xI (x9.r v59.i 0).i), (xI (bits Go.BinOp.xor Go.IntKind.i64 x50.i 1))] ∧
((0 ≤ v59.i) ∧
((v59.i < x9.i) ∧
((x40.i < x51.i) ∧
((x40.i < x51.i) ∧
(Px 1236 [xI x0, xI x1, xI x2, xI x3, xI x4, xI x5, x6, x8, x31, x32, xI x40.i, xI 1, (xI (x9.r v59.i 1).i), (xI (bits Go.BinOp.xor Go.IntKind.i64 x50.i 1))] ∧
((0 ≤ v59.i) ∧
((v59.i < x9.i) ∧
((x40.i < x51.i) ∧
((x40.i < x51.i) ∧
(Px 1236 [xI x0, xI x1, xI x2, xI x3, xI x4, xI x5, x6, x8, x31, x32, xI x40.i, xI 2, (xI (x9.r v59.i 2).i), (xI (bits Go.BinOp.xor Go.IntKind.i64 x50.i 1))] ∧
((0 ≤ v59.i) ∧
((v59.i < x9.i) ∧
((x40.i < x51.i) ∧
((x40.i < x51.i) ∧
(Px 1236 [xI x0, xI x1, xI x2, xI x3, xI x4, xI x5, x6, x8, x31, x32, xI x40.i, xI 3, (xI (x9.r v59.i 3).i), (xI (bits Go.BinOp.xor Go.IntKind.i64 x50.i 1))] ∧
((0 ≤ v59.i) ∧
((v59.i < x9.i) ∧
((x40.i < x51.i) ∧
(let v84 := Ff 1224 [xI x0, xI x1, xI x2, xI x3, xI x4, xI x5, x6, x8, x31, x32, xI x40.i, xI 0, (xI (x9.r v59.i 0).i), (xI (bits Go.BinOp.xor Go.IntKind.i64 x50.i 1))]; let v85 := Ff 1224 [xI x0, xI x1, xI x2, xI x3, xI x4, xI x5, x6, x8, x31, x32, xI x40.i, xI 1, (xI (x9.r v59.i 1).i), (xI (bits Go.BinOp.xor Go.IntKind.i64 x50.i 1))]; let v86 := Ff 1224 [xI x0, xI x1, xI x2, xI x3, xI x4, xI x5, x6, x8, x31, x32, xI x40.i, xI 2, (xI (x9.r v59.i 2).i), (xI (bits Go.BinOp.xor Go.IntKind.i64 x50.i 1))]; let v87 := Ff 1224 [xI x0, xI x1, xI x2, xI x3, xI x4, xI x5, x6, x8, x31, x32, xI x40.i, xI 3, (xI (x9.r v59.i 3).i), (xI (bits Go.BinOp.xor Go.IntKind.i64 x50.i 1))]; (Px 1247 (A ++ [xI x40.i, (xI (x50.i + 1)), (mkX (rwSet (rwSet (rwSet (rwSet x51.r x40.i 0 (xI (max (x51.r x40.i 0).i v84.i))) x40.i 1 (xI (max (x51.r x40.i 1).i v85.i))) x40.i 2 (xI (max (x51.r x40.i 2).i v86.i))) x40.i 3 (xI (max (x51.r x40.i 3).i v87.i))) x51.i)]) ∧
(((Ff 1255 (A ++ [xI x40.i, (xI (x50.i + 1)), (mkX (rwSet (rwSet (rwSet (rwSet x51.r x40.i 0 (xI (max (x51.r x40.i 0).i v84.i))) x40.i 1 (xI (max (x51.r x40.i 1).i v85.i))) x40.i 2 (xI (max (x51.r x40.i 2).i v86.i))) x40.i 3 (xI (max (x51.r x40.i 3).i v87.i))) x51.i)])).i < (Ff 1255 (A ++ [xI x40.i, x50, x51])).i) ∧
(0 < (Ff 1255 (A ++ [xI x40.i, x50, x51])).i))))))))))))))))))))))))) ∧
((¬ (v61.b = true)) →
(Px 1247 (A ++ [xI x40.i, (xI (x50.i + 1)), x51]) ∧
(((Ff 1255 (A ++ [xI x40.i, (xI (x50.i + 1)), x51])).i < (Ff 1255 (A ++ [xI x40.i, x50, x51])).i) ∧
(0 < (Ff 1255 (A ++ [xI x40.i, x50, x51])).i)))))))))))) ∧
((¬ (x50.i < 6)) →
(Px 1246 (A ++ [(xI (x40.i + 1)), x51]) ∧
(((Ff 1254 (A ++ [(xI (x40.i + 1)), x51])).i < (Ff 1254 (A ++ [x40, x41])).i) ∧
(0 < (Ff 1254 (A ++ [x40, x41])).i))))))))))))))))))))))))) ∧
((¬ (x40.i < x6.i)) →
(rowEq SLv (Ff 1200 A) x41.r x41.i 2097152)))))))))))))))))))
theorem StPL (x0 x1 x2 x3 x4 x5 : Int) (x6 : X) (x7 : X) (x8 : X) (x9 : X) : (ctrR (fun j => Ff j [xI x0, xI x1, xI x2, xI x3, xI x4, xI x5, x6, x7, x8, x9]) cStP.fs cStP.res { ρ0 with x := fun j => [xI x0, xI x1, xI x2, xI x3, xI x4, xI x5, x6, x7, x8, x9].getD j (xI 0) } (walkR Tryd.prog (cfG none [cIn, cIndex, cAt] [cFade, cEmit, cIs, cPass, cOwn] lpStP sm33) Tryd.f18 600 shSt)) = StPP x0 x1 x2 x3 x4 x5 x6 x7 x8 x9 := by kernel_rfl
set_option maxHeartbeats 4000000 in
theorem StPO (x0 x1 x2 x3 x4 x5 : Int) (x6 : X) (x7 : X) (x8 : X) (x9 : X) (g0 : -1048575 ≤ x0 ∧ x0 ≤ 1048575) (g1 : -1048575 ≤ x1 ∧ x1 ≤ 1048575) (g2 : -1048575 ≤ x2 ∧ x2 ≤ 1048575) (g3 : -1048575 ≤ x3 ∧ x3 ≤ 1048575) (g4 : -1048575 ≤ x4 ∧ x4 ≤ 1048575) (g5 : -1048575 ≤ x5 ∧ x5 ≤ 1048575) (g6 : 0 ≤ x6.i ∧ x6.i ≤ 2097152 ∧ RowOk SMat x6.r x6.i.toNat) (g7 : 0 ≤ x7.i ∧ x7.i ≤ 9223372036854775807 ∧ RowOk SMt x7.r x7.i.toNat) (g8 : 0 ≤ x8.i ∧ x8.i ≤ 9223372036854775807 ∧ RowOk [.bool] x8.r x8.i.toNat) (g9 : 0 ≤ x9.i ∧ x9.i ≤ 9223372036854775807 ∧ RowOk SLv x9.r x9.i.toNat) (gp : Px cStP.pre.get! [xI x0, xI x1, xI x2, xI x3, xI x4, xI x5, x6, x7, x8, x9]) : StPP x0 x1 x2 x3 x4 x5 x6 x7 x8 x9 := by
 unfold StPP
 intro A
 obtain ⟨ok, go⟩ : okC (grX (xI x0) (xI x1) (xI x2) (xI x3) (xI x4) (xI x5) x6) x7 x8 = true ∧ x9.i = x6.i := gp
 obtain ⟨gv, ht, hkk, el, hv, hm⟩ := grok g6.1 ok
 have hcs : ∀ j : Int, 0 ≤ j → j < x6.i → (lstX deI x6).getD j.toNat 0 = (x6.r j 0).i := fun j h0 h1 => lxI_at h0 h1
 refine andI ?_ fun o0 => ?_
 ·exact ⟨Int.le_refl _, g6.1, rfl, rfl, fun j hj => absurd hj (by show ¬ (j : Int) < 0; omega)⟩
 intro x30 x31 x32 h1 r2 r3 p4
 obtain ⟨q0, q1, q2, q3, q4⟩ : 0 ≤ x30.i ∧ x30.i ≤ x6.i ∧ x31.i = x30.i ∧ x32.i = x30.i ∧ ∀ j : Nat, (j : Int) < x30.i → scnQ x6 x7 x31 x32 j := p4
 refine And.intro ?_ ?_
 ·intro h6
  refine andI ?_ fun o7 => ?_
  ·omega
  refine andI ?_ fun o8 => ?_
  ·exact ht
  refine andI ?_ fun o9 => ?_
  ·exact ht
  refine andI ?_ fun o10 => ?_
  ·omega
  refine andI ?_ fun o11 => ?_
  ·omega
  intro v12 v13 v14 v15
  refine andI ?_ fun o16 => ?_
  ·exact ⟨by show 0 ≤ x30.i + 1; omega, by show x30.i + 1 ≤ x6.i; omega, by show x31.i + 1 = x30.i + 1; omega, by show x32.i + 1 = x30.i + 1; omega, scn_step q4 q0 q2 q3 rfl rfl rfl rfl⟩
  refine andI ?_ fun o17 => ?_
  ·show x6.i + 1 - (x30.i + 1) < x6.i + 1 - x30.i
   omega
  show 0 < x6.i + 1 - x30.i
  omega
 intro h18
 have hs : ∀ j : Int, 0 ≤ j → j < x6.i → scnQ x6 x7 x31 x32 j := fun j h0 h1 => scn_at q4 h0 (by omega)
 refine andI ?_ fun o19 => ?_
 ·exact ⟨Int.le_refl _, g6.1, rfl, fun j hj => st46_zero j⟩
 intro x40 x41 h20 r21 p22
 obtain ⟨u0, u1, u2, u3⟩ : 0 ≤ x40.i ∧ x40.i ≤ x6.i ∧ x41.i = x6.i ∧ ∀ j : Nat, (j : Int) < x6.i → rowQ x41 j fun ch => if (j : Int) < x40.i then stpF (bxI x0 x1 x2 x3 x4 x5) (lstX deI x6) x7 x8 (lvX x9) j ch else 0 := p22
 refine And.intro ?_ ?_
 ·intro h24
  refine andI ?_ fun o25 => ?_
  ·have a8 : x8.i = 0 ∨ x40.i < x8.i := by omega
   exact ⟨u0, a8⟩
  intro v26
  refine And.intro ?_ ?_
  ·intro h28
   refine andI ?_ fun o29 => ?_
   ·exact ⟨by show 0 ≤ x40.i + 1; omega, by show x40.i + 1 ≤ x6.i; omega, u2, st46_skip u3 h28⟩
   refine andI ?_ fun o30 => ?_
   ·show x6.i + 1 - (x40.i + 1) < x6.i + 1 - x40.i
    omega
   show 0 < x6.i + 1 - x40.i
   omega
  intro h31
  have hkn : knwX x8 x40.i = true := h31
  obtain ⟨s0, s1, s2, s3⟩ := hs x40.i u0 h24
  have a31 : x40.i < x31.i := by omega
  have a32 : x40.i < x32.i := by omega
  refine andI ?_ fun o32 => ?_
  ·omega
  refine andI ?_ fun o33 => ?_
  ·exact ⟨u0, a31, a32⟩
  refine andI ?_ fun o34 => ?_
  ·omega
  refine andI ?_ fun o35 => ?_
  ·exact ⟨u0, a31, a32⟩
  refine andI ?_ fun o36 => ?_
  ·omega
  refine andI ?_ fun o37 => ?_
  ·exact ⟨u0, a31, a32⟩
  refine andI ?_ fun o38 => ?_
  ·omega
  refine andI ?_ fun o39 => ?_
  ·exact ⟨u0, a31, a32⟩
  intro v40 v41 v42 v43
  refine andI ?_ fun o44 => ?_
  ·have eo : ∀ c : Int, 0 ≤ c → c < 4 → ownS (bxI x0 x1 x2 x3 x4 x5) x31 x32 x40.i c = ownB (bxI x0 x1 x2 x3 x4 x5) (lstX deI x6) x7 x40.i c := fun c h0 h1 => by
    unfold ownS ownB
    rw [hcs _ u0 h24, s0]
    by_cases h3 : c = 3
    ·rw [if_pos h3, if_pos h3]
    ·rw [if_neg h3, if_neg h3]
     have hc : c = 0 ∨ c = 1 ∨ c = 2 := by omega
     rcases hc with rfl | rfl | rfl
     ·exact s1
     ·exact s2
     ·exact s3
   exact ⟨u0, h24, Int.le_refl _, by decide, hkn, u2, st47_own u3 ⟨eo 0 (by decide) (by decide), eo 1 (by decide) (by decide), eo 2 (by decide) (by decide), eo 3 (by decide) (by decide)⟩⟩
  intro x50 x51 h45 r46 p47
  obtain ⟨_, _, w2, w3, _, w5, w6⟩ : 0 ≤ x40.i ∧ x40.i < x6.i ∧ 0 ≤ x50.i ∧ x50.i ≤ 6 ∧ knwX x8 x40.i = true ∧ x51.i = x6.i ∧ ∀ j : Nat, (j : Int) < x6.i → rowQ x51 j fun ch => if (j : Int) < x40.i then stpF (bxI x0 x1 x2 x3 x4 x5) (lstX deI x6) x7 x8 (lvX x9) j ch else if (j : Int) = x40.i then lgtN (bxI x0 x1 x2 x3 x4 x5) (lstX deI x6) x7 x8 (lvX x9) j ch x50.i.toNat else 0 := p47
  refine And.intro ?_ ?_
  ·intro h49
   have ed : ((x50.i.toNat : Nat) : Int) = x50.i := Int.toNat_of_nonneg w2
   have ed1 : (x50.i + 1).toNat = x50.i.toNat + 1 := by omega
   intro v50 v51 v52 v53
   refine And.intro ?_ ?_
   ·intro h55
    have hn : ¬ ngbB (bxI x0 x1 x2 x3 x4 x5) x8 ((bxI x0 x1 x2 x3 x4 x5).at x40.i) (x50.i.toNat : Nat) = true := fun hn => h55 (by
     rw [ed] at hn
     exact (ngb_ix hv hn).2.1)
    refine andI ?_ fun o56 => ?_
    ·refine ⟨u0, h24, by show 0 ≤ x50.i + 1; omega, by show x50.i + 1 ≤ 6; omega, hkn, w5, ?_⟩
     show ∀ j : Nat, (j : Int) < x6.i → rowQ x51 j fun ch => if (j : Int) < x40.i then stpF (bxI x0 x1 x2 x3 x4 x5) (lstX deI x6) x7 x8 (lvX x9) j ch else if (j : Int) = x40.i then lgtN (bxI x0 x1 x2 x3 x4 x5) (lstX deI x6) x7 x8 (lvX x9) j ch (x50.i + 1).toNat else 0
     rw [ed1]
     exact st47_stay w6 hn
    refine andI ?_ fun o57 => ?_
    ·show 7 - (x50.i + 1) < 7 - x50.i
     omega
    show 0 < 7 - x50.i
    omega
   intro h58 v59
   have hh : (bxI x0 x1 x2 x3 x4 x5).has (stpP ((bxI x0 x1 x2 x3 x4 x5).at x40.i) x50.i) = true := h58
   have e59 : v59.i = (bxI x0 x1 x2 x3 x4 x5).idx (stpP ((bxI x0 x1 x2 x3 x4 x5).at x40.i) x50.i) := rfl
   have hi := idx_ok hh
   rw [← e59] at hi
   refine andI ?_ fun o60 => ?_
   ·have a8 : x8.i = 0 ∨ v59.i < x8.i := by omega
    exact ⟨hi.1, a8⟩
   intro v61
   refine And.intro ?_ ?_
   ·intro h63
    refine andI ?_ fun o64 => ?_
    ·omega
    refine andI ?_ fun o65 => ?_
    ·exact ⟨u0, a31, a32⟩
    refine andI ?_ fun o66 => ?_
    ·exact hi.1
    refine andI ?_ fun o67 => ?_
    ·omega
    refine andI ?_ fun o68 => ?_
    ·omega
    refine andI ?_ fun o69 => ?_
    ·omega
    refine andI ?_ fun o70 => ?_
    ·exact ⟨u0, a31, a32⟩
    refine andI ?_ fun o71 => ?_
    ·exact hi.1
    refine andI ?_ fun o72 => ?_
    ·omega
    refine andI ?_ fun o73 => ?_
    ·omega
    refine andI ?_ fun o74 => ?_
    ·omega
    refine andI ?_ fun o75 => ?_
    ·exact ⟨u0, a31, a32⟩
    refine andI ?_ fun o76 => ?_
    ·exact hi.1
    refine andI ?_ fun o77 => ?_
    ·omega
    refine andI ?_ fun o78 => ?_
    ·omega
    refine andI ?_ fun o79 => ?_
    ·omega
    refine andI ?_ fun o80 => ?_
    ·exact ⟨u0, a31, a32⟩
    refine andI ?_ fun o81 => ?_
    ·exact hi.1
    refine andI ?_ fun o82 => ?_
    ·omega
    refine andI ?_ fun o83 => ?_
    ·omega
    intro v84 v85 v86 v87
    have hn : ngbB (bxI x0 x1 x2 x3 x4 x5) x8 ((bxI x0 x1 x2 x3 x4 x5).at x40.i) (x50.i.toNat : Nat) = true := by
     rw [ed]
     show ((bxI x0 x1 x2 x3 x4 x5).has (stpP ((bxI x0 x1 x2 x3 x4 x5).at x40.i) x50.i) && knwX x8 ((bxI x0 x1 x2 x3 x4 x5).idx (stpP ((bxI x0 x1 x2 x3 x4 x5).at x40.i) x50.i))) = true
     rw [hh, Bool.true_and]
     exact h63
    have ep : ∀ c n : Int, pssB (x31.r x40.i 0).i c (if bits Go.BinOp.xor Go.IntKind.i64 x50.i 1 = 4 then 5 else 0) n = pssB (fadX x7 ((lstX deI x6).getD x40.i.toNat 0)) c (x50.i.toNat : Nat) n := fun c n => by
     rw [hcs _ u0 h24, s0, ed]
     exact pss_dir (xor_dir w2 h49)
    refine andI ?_ fun o88 => ?_
    ·refine ⟨u0, h24, by show 0 ≤ x50.i + 1; omega, by show x50.i + 1 ≤ 6; omega, hkn, w5, ?_⟩
     show ∀ j : Nat, (j : Int) < x6.i → rowQ (mkX (rwSet (rwSet (rwSet (rwSet x51.r x40.i 0 (xI (max (x51.r x40.i 0).i v84.i))) x40.i 1 (xI (max (x51.r x40.i 1).i v85.i))) x40.i 2 (xI (max (x51.r x40.i 2).i v86.i))) x40.i 3 (xI (max (x51.r x40.i 3).i v87.i))) x51.i) j fun ch => if (j : Int) < x40.i then stpF (bxI x0 x1 x2 x3 x4 x5) (lstX deI x6) x7 x8 (lvX x9) j ch else if (j : Int) = x40.i then lgtN (bxI x0 x1 x2 x3 x4 x5) (lstX deI x6) x7 x8 (lvX x9) j ch (x50.i + 1).toNat else 0
     rw [ed1]
     refine st47_step w6 u0 h24 hn fun c h0 h1 => ?_
     rw [← ep, ed, ← e59]
     have hc : c = 0 ∨ c = 1 ∨ c = 2 ∨ c = 3 := by omega
     rcases hc with rfl | rfl | rfl | rfl <;> rfl
    refine andI ?_ fun o89 => ?_
    ·show 7 - (x50.i + 1) < 7 - x50.i
     omega
    show 0 < 7 - x50.i
    omega
   intro h90
   have hn : ¬ ngbB (bxI x0 x1 x2 x3 x4 x5) x8 ((bxI x0 x1 x2 x3 x4 x5).at x40.i) (x50.i.toNat : Nat) = true := fun hn => h90 (by
    rw [ed] at hn
    exact (ngb_ix hv hn).2.2)
   refine andI ?_ fun o91 => ?_
   ·refine ⟨u0, h24, by show 0 ≤ x50.i + 1; omega, by show x50.i + 1 ≤ 6; omega, hkn, w5, ?_⟩
    show ∀ j : Nat, (j : Int) < x6.i → rowQ x51 j fun ch => if (j : Int) < x40.i then stpF (bxI x0 x1 x2 x3 x4 x5) (lstX deI x6) x7 x8 (lvX x9) j ch else if (j : Int) = x40.i then lgtN (bxI x0 x1 x2 x3 x4 x5) (lstX deI x6) x7 x8 (lvX x9) j ch (x50.i + 1).toNat else 0
    rw [ed1]
    exact st47_stay w6 hn
   refine andI ?_ fun o92 => ?_
   ·show 7 - (x50.i + 1) < 7 - x50.i
    omega
   show 0 < 7 - x50.i
   omega
  intro h93
  rw [show x50.i.toNat = 6 by omega] at w6
  refine andI ?_ fun o94 => ?_
  ·exact ⟨by show 0 ≤ x40.i + 1; omega, by show x40.i + 1 ≤ x6.i; omega, w5, st47_done w6 hkn⟩
  refine andI ?_ fun o95 => ?_
  ·show x6.i + 1 - (x40.i + 1) < x6.i + 1 - x40.i
   omega
  show 0 < x6.i + 1 - x40.i
  omega
 intro h96
 refine rowEq_lv u2 g6.1 (by omega) fun j hj => rowQ_congr (u3 j hj) fun c _ _ => if_pos (by omega)
theorem kStP : RCtrOk Tryd.prog ρ0 cStP := by
 refine rctr_ofN (cf := cfG none [cIn, cIndex, cAt] [cFade, cEmit, cIs, cPass, cOwn] lpStP sm33) (cfG_ok (((keep0.cons kAt nAt).cons kIndex nIndex).cons kIn nIn) (((((keepR0.cons kOwn nOwn).cons kPass nPass).cons kIs nIs).cons kEmit nEmit).cons kFade nFade) noF) Tryd.func18 rfl 600 rfl (sh := shSt) (by kernel_rfl) st_rsh fun ds hr hp => ?_
 have hr := rshX_flat hr
 match ds, hr, hp with
 | [d0, d1, d2, d3, d4, d5, d6, d7, d8, d9], hr, hp =>
  obtain ⟨⟨e0, l0, u0⟩, ⟨e1, l1, u1⟩, ⟨e2, l2, u2⟩, ⟨e3, l3, u3⟩, ⟨e4, l4, u4⟩, ⟨e5, l5, u5⟩, l6, l7, l8, l9, _⟩ := hr
  generalize d0.i = x0, d1.i = x1, d2.i = x2, d3.i = x3, d4.i = x4, d5.i = x5, d6 = x6, d7 = x7, d8 = x8, d9 = x9 at *
  subst e0 e1 e2 e3 e4 e5
  exact Eq.mpr (StPL x0 x1 x2 x3 x4 x5 x6 x7 x8 x9) (StPO x0 x1 x2 x3 x4 x5 x6 x7 x8 x9 ⟨l0, u0⟩ ⟨l1, u1⟩ ⟨l2, u2⟩ ⟨l3, u3⟩ ⟨l4, u4⟩ ⟨l5, u5⟩ l6 l7 l8 l9 hp)
theorem nStP : Hs cStP.f := ⟨_, Tryd.func18, by kernel_rfl, by kernel_rfl⟩
end Vc
end Go.Proofs.YtelbilnnmmbmdaaDoor
