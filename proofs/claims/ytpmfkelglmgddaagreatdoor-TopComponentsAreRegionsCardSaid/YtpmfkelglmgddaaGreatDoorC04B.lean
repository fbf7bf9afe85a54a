/- Layer 4 in plain terms: the table of functions. -/
import Derived.Test.YtpmfkelglmgddaaGreatDoorCX
import Derived.Test.YtpmfkelglmgddaaGreatDoorC04A
import Derived.LaidMore
namespace Go.Proofs.YtpmfkelglmgddaaGreatDoor
namespace Vc
open Go Go.RowKit
set_option linter.unusedVariables false
def Ff : Nat → List X → X
 | 200, [a, b, c, d, e, f] => xB (!decide (lK a.i b.i c.i d.i e.i f.i))
 | 201, [x, y, z, a, b, c, d, e, f] => xB (decide (jS x.i y.i z.i a.i b.i c.i d.i e.i f.i))
 | 205, [a, b, c, d, e, f] => xI (yc a.i b.i c.i d.i e.i f.i a.i d.i)
 | 206, [a, b, c, d, e, f] => xI (yc a.i b.i c.i d.i e.i f.i b.i e.i)
 | 207, [a, b, c, d, e, f] => xI (yc a.i b.i c.i d.i e.i f.i c.i f.i)
 | 210, [a, b, c, d, e, f] => xI (fw a.i b.i c.i d.i e.i f.i)
 | 220, [a, b, c, d, e, f, a', b', c', d', e', f'] => xI (Da a.i b.i c.i d.i e.i f.i a'.i b'.i c'.i d'.i e'.i f'.i (max a.i a'.i))
 | 221, [a, b, c, d, e, f, a', b', c', d', e', f'] => xI (Da a.i b.i c.i d.i e.i f.i a'.i b'.i c'.i d'.i e'.i f'.i (max b.i b'.i))
 | 222, [a, b, c, d, e, f, a', b', c', d', e', f'] => xI (Da a.i b.i c.i d.i e.i f.i a'.i b'.i c'.i d'.i e'.i f'.i (max c.i c'.i))
 | 223, [a, b, c, d, e, f, a', b', c', d', e', f'] => xI (Da a.i b.i c.i d.i e.i f.i a'.i b'.i c'.i d'.i e'.i f'.i (min d.i d'.i))
 | 224, [a, b, c, d, e, f, a', b', c', d', e', f'] => xI (Da a.i b.i c.i d.i e.i f.i a'.i b'.i c'.i d'.i e'.i f'.i (min e.i e'.i))
 | 225, [a, b, c, d, e, f, a', b', c', d', e', f'] => xI (Da a.i b.i c.i d.i e.i f.i a'.i b'.i c'.i d'.i e'.i f'.i (min f.i f'.i))
 | 230, [a, b, c, d, e, f, a', b', c', d', e', f'] => xI (Ms a.i b.i c.i d.i e.i f.i a'.i b'.i c'.i d'.i e'.i f'.i a.i a'.i (min a.i a'.i))
 | 231, [a, b, c, d, e, f, a', b', c', d', e', f'] => xI (Ms a.i b.i c.i d.i e.i f.i a'.i b'.i c'.i d'.i e'.i f'.i b.i b'.i (min b.i b'.i))
 | 232, [a, b, c, d, e, f, a', b', c', d', e', f'] => xI (Ms a.i b.i c.i d.i e.i f.i a'.i b'.i c'.i d'.i e'.i f'.i c.i c'.i (min c.i c'.i))
 | 233, [a, b, c, d, e, f, a', b', c', d', e', f'] => xI (Ms a.i b.i c.i d.i e.i f.i a'.i b'.i c'.i d'.i e'.i f'.i d.i d'.i (max d.i d'.i))
 | 234, [a, b, c, d, e, f, a', b', c', d', e', f'] => xI (Ms a.i b.i c.i d.i e.i f.i a'.i b'.i c'.i d'.i e'.i f'.i e.i e'.i (max e.i e'.i))
 | 235, [a, b, c, d, e, f, a', b', c', d', e', f'] => xI (Ms a.i b.i c.i d.i e.i f.i a'.i b'.i c'.i d'.i e'.i f'.i f.i f'.i (max f.i f'.i))
 | 240, [a, b, c, d, e, f, a', b', c', d', e', f'] => xB (decide (OB a.i b.i c.i d.i e.i f.i a'.i b'.i c'.i d'.i e'.i f'.i))
 | 250, [x, y, z, a, b, c, d, e, f] => xI (Rm x.i y.i z.i a.i b.i c.i d.i e.i f.i)
 | 260, [a, b, c, d, e, f, x, y, z] => xI (sP a.i b.i c.i d.i e.i f.i x.i y.i z.i)
 | 270, [a, b, c, d, e, f, i] => xI (JT a.i b.i c.i d.i e.i f.i i.i)
 | 271, [a, b, c, d, e, f, i] => xI (JU a.i b.i c.i d.i e.i f.i i.i)
 | 272, [a, b, c, d, e, f, i] => xI (JV a.i b.i c.i d.i e.i f.i i.i)
 | 273, [a, b, c, d, e, f, i] => xB (decide (okB a.i b.i c.i d.i e.i f.i i.i))
 | 280, [a, b, c, d, e, f] => xI (OC a.i b.i c.i d.i e.i f.i)
 | 290, [s, x, y, z] => xI (OD s.i 0 x.i y.i z.i)
 | 291, [s, x, y, z] => xI (OD s.i 1 x.i y.i z.i)
 | 292, [s, x, y, z] => xI (OD s.i 2 x.i y.i z.i)
 | 293, [s, x, y, z] => xI (OE s.i 0 x.i y.i z.i)
 | 294, [s, x, y, z] => xI (OE s.i 1 x.i y.i z.i)
 | 295, [s, x, y, z] => xI (OE s.i 2 x.i y.i z.i)
 | 300, [s, a, b, c, d, e, f] => xI (OF s.i 0 a.i b.i c.i d.i e.i f.i)
 | 301, [s, a, b, c, d, e, f] => xI (OF s.i 1 a.i b.i c.i d.i e.i f.i)
 | 302, [s, a, b, c, d, e, f] => xI (OF s.i 2 a.i b.i c.i d.i e.i f.i)
 | 303, [s, a, b, c, d, e, f] => xI (OG s.i 0 a.i b.i c.i d.i e.i f.i)
 | 304, [s, a, b, c, d, e, f] => xI (OG s.i 1 a.i b.i c.i d.i e.i f.i)
 | 305, [s, a, b, c, d, e, f] => xI (OG s.i 2 a.i b.i c.i d.i e.i f.i)
 | 310, [a, b] => xI (Rn a.i b.i)
 | 311, [a] => xI (Ro a.i)
 | 312, [a] => xB (Rp a.i)
 | 313, [a] => Rq a.i
 | 320, [x, y, z] => xI (OH x.i y.i z.i)
 | n, l => Fx n l
theorem GC (x y z a b c d e f : X) : Ff 201 [x, y, z, a, b, c, d, e, f] = xB (decide (jS x.i y.i z.i a.i b.i c.i d.i e.i f.i)) := rfl
theorem yd (a b c d e f : X) : Ff 205 [a, b, c, d, e, f] = xI (yc a.i b.i c.i d.i e.i f.i a.i d.i) := rfl
theorem ye (a b c d e f : X) : Ff 206 [a, b, c, d, e, f] = xI (yc a.i b.i c.i d.i e.i f.i b.i e.i) := rfl
theorem GD (a b c d e f : X) : Ff 207 [a, b, c, d, e, f] = xI (yc a.i b.i c.i d.i e.i f.i c.i f.i) := rfl
theorem JW (a b c d e f : X) : Ff 210 [a, b, c, d, e, f] = xI (fw a.i b.i c.i d.i e.i f.i) := rfl
theorem MC (a b c d e f x y z : X) : Ff 260 [a, b, c, d, e, f, x, y, z] = xI (sP a.i b.i c.i d.i e.i f.i x.i y.i z.i) := rfl
theorem OI (a b c d e f i : X) : Ff 270 [a, b, c, d, e, f, i] = xI (JT a.i b.i c.i d.i e.i f.i i.i) := rfl
theorem OJ (a b c d e f i : X) : Ff 271 [a, b, c, d, e, f, i] = xI (JU a.i b.i c.i d.i e.i f.i i.i) := rfl
theorem OK (a b c d e f i : X) : Ff 272 [a, b, c, d, e, f, i] = xI (JV a.i b.i c.i d.i e.i f.i i.i) := rfl
theorem OL (a b c d e f i : X) : Ff 273 [a, b, c, d, e, f, i] = xB (decide (okB a.i b.i c.i d.i e.i f.i i.i)) := rfl
theorem zS (a b c d e f : Int) : yc a b c d e f a d * yc a b c d e f b e * yc a b c d e f c f = fw a b c d e f := by
 unfold yc fw
 by_cases h : lK a b c d e f
 ·simp only [if_pos h]
 ·simp only [if_neg h, Int.zero_mul]
theorem Dm {x y z m : Int} (hm : 0 ≤ m) (hx : 0 ≤ x ∧ x ≤ m) (hy : 0 ≤ y ∧ y ≤ m) (hz : 0 ≤ z ∧ z ≤ m) : 0 ≤ x * y * z ∧ x * y * z ≤ m * m * m := by
 have h1 : 0 ≤ x * y := Int.mul_nonneg hx.1 hy.1
 have h2 : x * y ≤ m * m := Int.mul_le_mul hx.2 hy.2 hy.1 hm
 exact ⟨Int.mul_nonneg h1 hz.1, Int.mul_le_mul h2 hz.2 hz.1 (Int.mul_nonneg hm hm)⟩
theorem tZ {a b c d e f : Int} (ha : -1048575 ≤ a ∧ a ≤ 1048575) (hb : -1048575 ≤ b ∧ b ≤ 1048575) (hc : -1048575 ≤ c ∧ c ≤ 1048575) (hd : -1048575 ≤ d ∧ d ≤ 1048575) (he : -1048575 ≤ e ∧ e ≤ 1048575) (hf : -1048575 ≤ f ∧ f ≤ 1048575) :
 0 ≤ fw a b c d e f ∧ fw a b c d e f ≤ 9223345648600875000 := by
 unfold fw
 by_cases h : lK a b c d e f
 ·simp only [if_pos h]
  unfold lK at h
  have := Dm (x := d - a) (y := e - b) (z := f - c) (m := 2097150) (by omega) (by omega) (by omega) (by omega)
  omega
 ·simp only [if_neg h]; omega
theorem JX {a b c d e f : Int} (h : lK a b c d e f) : fw a b c d e f = (d - a) * (e - b) * (f - c) := by unfold fw; exact if_pos h
theorem ua {x y z a b c d e f : Int} (h : jS x y z a b c d e f) : lK a b c d e f := by unfold jS at h; unfold lK; omega
theorem zT {x y z X Y Z : Int} (hx : 0 ≤ x ∧ x < X) (hy : 0 ≤ y ∧ y < Y) (hz : 0 ≤ z ∧ z < Z) : 0 ≤ (z * Y + y) * X + x ∧ (z * Y + y) * X + x < X * Y * Z := by
 have h1 : 0 ≤ z * Y := Int.mul_nonneg hz.1 (by omega)
 have h2 : 0 ≤ (z * Y + y) * X := Int.mul_nonneg (by omega) (by omega)
 have h3 : z * Y ≤ (Z - 1) * Y := Int.mul_le_mul_of_nonneg_right (by omega) (by omega)
 have h4 : z * Y + y + 1 ≤ Z * Y := by rw [Int.sub_mul] at h3; omega
 have h5 : (z * Y + y + 1) * X ≤ Z * Y * X := Int.mul_le_mul_of_nonneg_right h4 (by omega)
 have h6 : Z * Y * X = X * Y * Z := by rw [Int.mul_comm (Z * Y) X, Int.mul_comm Z Y, Int.mul_assoc]
 rw [Int.add_mul] at h5
 omega
theorem zU {a b c d e f x y z : Int} (ha : -1048575 ≤ a ∧ a ≤ 1048575) (hb : -1048575 ≤ b ∧ b ≤ 1048575) (hc : -1048575 ≤ c ∧ c ≤ 1048575) (hd : -1048575 ≤ d ∧ d ≤ 1048575) (he : -1048575 ≤ e ∧ e ≤ 1048575) (hf : -1048575 ≤ f ∧ f ≤ 1048575) (h : jS x y z a b c d e f) :
 0 ≤ sP a b c d e f x y z ∧ sP a b c d e f x y z < fw a b c d e f ∧ sP a b c d e f x y z ≤ 9223345648600874999 := by
 have ne := ua h
 have hv := tZ ha hb hc hd he hf
 have := zT (x := x - a) (y := y - b) (z := z - c) (X := d - a) (Y := e - b) (Z := f - c) (by unfold jS at h; omega) (by unfold jS at h; omega) (by unfold jS at h; omega)
 unfold fw at hv ⊢
 unfold sP
 simp only [if_pos h, if_pos ne] at hv ⊢
 omega
theorem Dn {a b c d e f i : Int} (h : okB a b c d e f i) : lK a b c d e f := by
 unfold okB fw at h
 by_cases q : lK a b c d e f
 ·exact q
 ·simp only [if_neg q] at h; omega
theorem JY {a b c d e f i : Int} (ha : -1048575 ≤ a ∧ a ≤ 1048575) (hb : -1048575 ≤ b ∧ b ≤ 1048575) (hc : -1048575 ≤ c ∧ c ≤ 1048575) (hd : -1048575 ≤ d ∧ d ≤ 1048575) (he : -1048575 ≤ e ∧ e ≤ 1048575) (hf : -1048575 ≤ f ∧ f ≤ 1048575) (h : okB a b c d e f i) :
 jS (a + i % (d - a)) (b + i / (d - a) % (e - b)) (c + i / (d - a) / (e - b)) a b c d e f := by
 have ne := Dn h
 unfold okB fw at h
 simp only [if_pos ne] at h
 unfold lK at ne
 have X0 : 0 < d - a := by omega
 have Y0 : 0 < e - b := by omega
 have m1 := Int.emod_nonneg i (show d - a ≠ 0 by omega)
 have m2 := Int.emod_lt_of_pos i X0
 have m3 := Int.emod_nonneg (i / (d - a)) (show e - b ≠ 0 by omega)
 have m4 := Int.emod_lt_of_pos (i / (d - a)) Y0
 have q1 : 0 ≤ i / (d - a) := Int.ediv_nonneg h.1 (by omega)
 have q2 : 0 ≤ i / (d - a) / (e - b) := Int.ediv_nonneg q1 (by omega)
 have q3 : i / (d - a) / (e - b) < f - c := by
  rw [Int.ediv_ediv_of_nonneg (by omega)]
  exact Int.ediv_lt_of_lt_mul (Int.mul_pos X0 Y0) (by rw [Int.mul_comm]; exact h.2)
 unfold jS
 omega
end Vc
end Go.Proofs.YtpmfkelglmgddaaGreatDoor
namespace Go.Proofs.YtpmfkelglmgddaaGreatDoor
namespace Vc
open Go Go.RowKit Go.ChangeShapes Go.WideShapes Go.ChangeAt
set_option linter.unusedVariables false
def eqs : List (TypeId × List Kd) := OM ++ [(23, List.replicate 3 (.int .i64)), (25, List.replicate 6 (.int .i64))]
def ρ0 : Env := { x := fun _ => xI 0, f := Ff, p := Px, g := bL }
noncomputable def pI (cs : List kq) : a8 := { N4 := eqs, vV := cs, pJ := [], fns := OA, F := none, bL := bL, JZ := bq }
theorem gh {cs : List kq} (h : ∀ c ∈ cs, fZ Tryz.prog ρ0 c ∧ ∃ fn, Tryz.prog.funcs[c.f]? = some fn ∧ fn.body.isSome = true ∧ (fn.name == "runtime.NumGoroutine") = false) : aP Tryz.prog ρ0 (pI cs) where
 eq := gz (by kernel_rfl)
 bL := rfl
 F := fun F h => by cases h
 mixed := by kernel_rfl
 fns := JS.look
 pK := fun c hc => (h c (by simpa [pI] using hc)).1
 fn := fun c hc => (h c (by simpa [pI] using hc)).2
theorem ON : Tryz.prog.globalNamed "voxel/fill.steps" = some 1 := by kernel_rfl
theorem OO : (Tryz.prog.globals[1]?).map (·.type) = some 158 := by kernel_rfl
theorem Dp (W : World) : DataW.trod (H := Unit) (fun _ => ()) Tryz.prog W 0 (fun _ => true) false 9 158 GF = some (Rows.laid_voxel_fill_steps, []) := by kernel_rfl
theorem OP : Tryz.prog.globalNamed "voxel/faces.sides" = some 0 := by kernel_rfl
theorem OQ : (Tryz.prog.globals[0]?).map (·.type) = some 105 := by kernel_rfl
theorem Dq (W : World) : DataW.trod (H := Unit) (fun _ => ()) Tryz.prog W 0 (fun _ => true) false 9 105 GG = some (Rows.laid_voxel_faces_sides, []) := by kernel_rfl
theorem GB {W : World} (h : laidMetH Tryz.prog [("voxel/fill.steps", Rows.laid_voxel_fill_steps), ("voxel/faces.sides", Rows.laid_voxel_faces_sides)] W) : cE bL W.heap.size W := by
 rw [MakeChecks.laidMetH_plain _ _ _ (by kernel_rfl)] at h
 obtain ⟨ps, ⟨g0, t0, cs0, f0, p0, q0, hg0, ht0, hv0, hd0, ⟨g1, t1, cs1, f1, p1, q1, hg1, ht1, hv1, hd1, _⟩, _⟩, _, _⟩ := h
 obtain rfl := Option.some.inj (ON.symm.trans hg0)
 obtain rfl := Option.some.inj (OO.symm.trans ht0)
 obtain rfl := Option.some.inj (OP.symm.trans hg1)
 obtain rfl := Option.some.inj (OQ.symm.trans ht1)
 have hcs : cs0.toList = GF := lL (m := 5) (ks := List.replicate 18 (.int .i64)) (by kernel_rfl) hd0 (Dp W) rfl
 have hcs1 : cs1.toList = GG := lL (m := 5) (ks := [.int .i64, .bool, .int .i64, .int .i64, .int .i64, .int .i64, .bool, .int .i64, .int .i64, .int .i64, .int .i64, .bool, .int .i64, .int .i64, .int .i64, .int .i64, .bool, .int .i64, .int .i64, .int .i64, .int .i64, .bool, .int .i64, .int .i64, .int .i64, .int .i64, .bool, .int .i64, .int .i64, .int .i64]) (by kernel_rfl) hd1 (Dq W) rfl
 have hcell : ∀ j v, GF[j]? = some v → W.cell? ⟨1, j, none⟩ = some v := fun j v hj => by
  rw [World.var?_cell hg0 hv0 j]
  rw [← hcs] at hj
  simpa using hj
 have hcell1 : ∀ j v, GG[j]? = some v → W.cell? ⟨0, j, none⟩ = some v := fun j v hj => by
  rw [World.var?_cell hg1 hv1 j]
  rw [← hcs1] at hj
  simpa using hj
 intro x hx
 rcases List.mem_cons.1 hx with rfl | hx
 ·exact ⟨pL (hcell 0 _ rfl), hcell⟩
 ·rcases List.mem_cons.1 hx with rfl | hx
  ·exact ⟨pL (hcell1 0 _ rfl), hcell1⟩
  ·cases hx
theorem Dk (os : Os) (args : Array Value) : laidMetH Tryz.prog [("voxel/fill.steps", Rows.laid_voxel_fill_steps), ("voxel/faces.sides", Rows.laid_voxel_faces_sides)] ((World.doorLaid Tryz.prog 400 os).forCall (fun _ _ => 0) ⟨#[], args, []⟩).memory :=
 laidMetH_of_parts3 (fuel := 8) (laidMet_of_run' 8 (by kernel_rfl) (by kernel_rfl)) (by kernel_rfl) (by kernel_rfl)
end Vc
end Go.Proofs.YtpmfkelglmgddaaGreatDoor
