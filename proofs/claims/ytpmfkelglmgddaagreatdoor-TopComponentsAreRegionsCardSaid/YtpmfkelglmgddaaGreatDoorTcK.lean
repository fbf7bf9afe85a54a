/- Lists of lists, maps of lists, sets of points: what the operations do. -/
import Derived.Test.YtpmfkelglmgddaaGreatDoorTcC
namespace Go.Proofs.YtpmfkelglmgddaaGreatDoor
namespace Vc
open Go Go.RowKit
set_option linter.unusedVariables false
def wz : List SC → Option (List E)
 | [] => some []
 | .int .i64 e _ _ :: r => (match wz r with | some es => some (e :: es) | none => none)
 | _ => none
def kV (k : List Int) : Value := .agg (k.map (Value.int .i64)).toArray
theorem eA (l : List X) : lI l = kV (dG l) := by
 unfold lI kV dG
 rw [List.map_map]; rfl
theorem yD {a b : List Int} (h : kV a = kV b) : a = b := by
 simp only [kV, Value.agg.injEq, Array.mk.injEq] at h
 exact (List.map_inj_right (fun a b hab => by cases hab; rfl)).1 h
theorem wA (k : List Int) : ai Dc (List.replicate k.length (.int .i64)) (k.map (Value.int .i64)) := by
 induction k with
 | nil => trivial
 | cons a r ih => exact ⟨⟨a, rfl⟩, ih⟩
theorem s8 : ∀ (a b : List Int), a.length = b.length → fj (a.map (Value.int .i64)) (b.map (Value.int .i64)) = decide (a = b)
 | [], [], _ => rfl
 | x :: r, y :: s, h => by
  have ih := s8 r s (by simpa using h)
  show ((x == y) && fj _ _) = _
  rw [ih, Bool.eq_iff_iff]
  simp
 | [], _ :: _, h => by cases h
 | _ :: _, [], h => by cases h
section
variable {P : Program} {ρ : Env} {B : Nat} {w0 w : World} {ls : Ls} {hp : SH} {tm : aw} {a : Act} {G : E}
theorem jr : ∀ {cs : List SC} {es : List E} {vs : List Value}, wz cs = some es → ai (RS ρ ls) cs vs → Value.agg vs.toArray = lI (ev ρ (aL es)).l ∧ es.length = cs.length
 | [], _, [], h, _ => by cases h; exact ⟨rfl, rfl⟩
 | .int .i64 e lo hi :: r, es, v :: vs, h, hr => by
  simp only [wz] at h
  split at h
  ·rename_i es' h'
   cases h
   obtain ⟨h1, h2⟩ := jr h' hr.2
   obtain ⟨rfl, _⟩ := hr.1
   refine ⟨?_, by simp [h2]⟩
   have e1 : vs = ((ev ρ (aL es')).l.map fun x => Value.int .i64 x.i) := by
    simpa [lI] using h1
   show _ = lI ((ev ρ e).x :: (ev ρ (aL es')).l)
   rw [e1]; rfl
  ·cases h
theorem qg {kt : TypeId} {n : Nat} (hE : im P kt (List.replicate n (.int .i64))) {k : List Int} (hk : k.length = n) : ∀ (es : List MapEntry) (i : Nat), (∀ e ∈ es, ∃ k' : List Int, k'.length = n ∧ e.key = kV k') →
 (∃ (j : Nat) (e : MapEntry), es[j]? = some e ∧ e.key = kV k ∧ (Instr.findAsking kt (kV k) es i).run P w = .ok (some (i + j, e.val)) w) ∨ ((∀ e ∈ es, e.key ≠ kV k) ∧ (Instr.findAsking kt (kV k) es i).run P w = .ok none w)
 | [], i, _ => .inr ⟨(fun e he => by cases he), rfl⟩
 | e :: r, i, h => by
  obtain ⟨k', h1, h2⟩ := h e List.mem_cons_self
  have hq : (Op.equal kt (kV k) e.key).run P w = .ok (decide (k = k')) w := by
   rw [h2, ← s8 k k' (by omega)]
   exact hE.eq _ _ w (by rw [← hk]; exact wA k) (by rw [← h1]; exact wA k')
  by_cases e1 : k = k'
  ·refine .inl ⟨0, e, rfl, by rw [h2, e1], ?_⟩
   rw [decide_eq_true e1] at hq
   simp only [Instr.findAsking, Sem.run_bind, hq, Result.andThen_ok, if_true]
   rfl
  ·have hrun : (Instr.findAsking kt (kV k) (e :: r) i).run P w = (Instr.findAsking kt (kV k) r (i + 1)).run P w := by
    rw [decide_eq_false e1] at hq
    simp only [Instr.findAsking, Sem.run_bind, hq, Result.andThen_ok]
    rfl
   rw [hrun]
   rcases qg hE hk r (i + 1) (fun x hx => h x (List.mem_cons_of_mem _ hx)) with ⟨j, x, q1, q2, q3⟩ | ⟨q1, q2⟩
   ·exact .inl ⟨j + 1, x, q1, q2, by rw [q3]; congr 3; omega⟩
   ·refine .inr ⟨fun x hx => ?_, q2⟩
    rcases List.mem_cons.1 hx with rfl | hx
    ·rw [h2]; exact fun q => e1 (yD q).symm
    ·exact q1 x hx
theorem iq {kt : TypeId} {n : Nat} {fs : Array Field} (hu : P.underlying kt = some (.struct fs)) (hE : im P kt (List.replicate n (.int .i64))) {k : List Int} (hk : k.length = n) (es : List MapEntry) (h : ∀ e ∈ es, ∃ k' : List Int, k'.length = n ∧ e.key = kV k') :
 (∃ (j : Nat) (e : MapEntry), es[j]? = some e ∧ e.key = kV k ∧ (Instr.findKey kt (kV k) es).run P w = .ok (some (j, e.val)) w) ∨ ((∀ e ∈ es, e.key ≠ kV k) ∧ (Instr.findKey kt (kV k) es).run P w = .ok none w) := by
 cases es with
 | nil => exact .inr ⟨(fun e he => by cases he), by simp [Instr.findKey, run_underlying hu, Instr.findNow]⟩
 | cons e r =>
  obtain ⟨k', _, h2⟩ := h e List.mem_cons_self
  have hn : Instr.findNow (.struct fs) (kV k) (e :: r) 0 = none := by
   unfold Instr.findNow
   rw [h2]; rfl
  have hrun : (Instr.findKey kt (kV k) (e :: r)).run P w = (Instr.findAsking kt (kV k) (e :: r) 0).run P w := by
   simp only [Instr.findKey, Sem.run_bind, run_underlying hu, Result.andThen_ok, hn]
  rw [hrun]
  rcases qg hE hk (e :: r) 0 h with ⟨j, x, q1, q2, q3⟩ | q
  ·exact .inl ⟨j, x, q1, q2, by rw [q3]; congr 3; omega⟩
  ·exact .inr q
end
def Qj (P : Program) (tm : aw) (hp : SH) (G : E) (o : Oper) : Option (SV × Ow) := match o.op with
 | .indexAddr t x y => (match cA tm G x, cA tm G y, P.underlying t with
  | some (.c (.abs 0 [l] .nil)), some (.c (.int k e il ih)), some (.slice el) => (match hp[l]? with
   | some ⟨_, _, .abs 0 [] (.cons d .nil)⟩ => if dp P el = some 1 then some (.c (.abs 1 [l] (.cons (fB e) .nil)), ⟨qh e il ih (.div d (.ic 64)) 1, none⟩) else none
   | _ => none)
  | some (.c (.abs 2 [l] (.cons q .nil))), some (.c (.int k e il ih)), some (.slice el) => (match hp[l]? with
   | some ⟨_, _, .abs 0 [] (.cons d .nil)⟩ => if dp P el = some 1 then some (.c (.abs 3 [l] (.cons q (.cons (fB e) .nil))), ⟨qh e il ih (.ic 64) 64, none⟩) else none
   | _ => none)
  | some (.c (.abs 4 [l] ks)), some (.c (.int k e il ih)), some (.slice el) => (match hp[l]? with
   | some ⟨_, _, .abs 2 [] (.cons g .nil)⟩ => if dp P el = some 1 then some (.c (.abs 5 [l] (.cons (fB e) ks)), ⟨qh e il ih (.app 990 (.cons g ks)) 0, none⟩) else none
   | _ => none)
  | _, _, _ => none)
 | .load t x => (match cA tm G x, cj P t with
  | some (.c (.abs 1 [l] (.cons k .nil))), some false => (match hp[l]? with
   | some ⟨_, _, .abs 0 [] (.cons d .nil)⟩ => some (.c (.abs 2 [l] (.cons k .nil)), ⟨[], none⟩)
   | _ => none)
  | some (.c (.abs 3 [l] (.cons k (.cons i .nil)))), some false => (match hp[l]? with
   | some ⟨_, _, .abs 0 [] (.cons d .nil)⟩ => some (.c (.int .i64 (.Aw d (.add (.mul (.ic 64) k) i) (.ic 0)) 0 255), ⟨[], none⟩)
   | _ => none)
  | some (.c (.abs 5 [l] (.cons i ks))), some false => (match hp[l]? with
   | some ⟨_, _, .abs 2 [] (.cons g .nil)⟩ => some (.c (.int .i64 (.Aw (.app 990 (.cons g ks)) i (.ic 0)) 0 1000000), ⟨[], none⟩)
   | _ => none)
  | _, _ => none)
 | .call { callee := .builtin .len, args, argTypes } => (match args.toList, argTypes.toList with
  | [x], [t] => (match cA tm G x, qi P t with
   | some (.c (.abs 0 [l] .nil)), true => (match hp[l]? with
    | some ⟨_, _, .abs 0 [] (.cons d .nil)⟩ => some (.c (.int .i64 (.div d (.ic 64)) 1 8), ⟨[], none⟩)
    | _ => none)
   | some (.c (.abs 2 [l] (.cons q .nil))), true => (match hp[l]? with
    | some ⟨_, _, .abs 0 [] (.cons d .nil)⟩ => some (.c (.int .i64 (.ic 64) 64 64), ⟨[], none⟩)
    | _ => none)
   | some (.c (.abs 4 [l] ks)), true => (match hp[l]? with
    | some ⟨_, _, .abs 2 [] (.cons g .nil)⟩ => some (.c (.int .i64 (.app 990 (.cons g ks)) 0 1000000), ⟨[], none⟩)
    | _ => none)
   | _, _ => none)
  | _, _ => none)
 | .lookup t x y false => (match cA tm G x, cA tm G y with
  | some (.c (.mp l)), some (.agg cs) => (match hp[l]?, wz cs with
   | some ⟨_, _, .abs 1 [l2] .nil⟩, some es => (match hp[l2]? with
    | some ⟨_, _, .abs 2 [] (.cons g .nil)⟩ => if t = 62 ∧ es.length = 6 then some (.c (.abs 4 [l2] (aL es)), ⟨[], none⟩) else none
    | _ => none)
   | some ⟨_, _, .abs 3 [] (.cons R .nil)⟩, some es => if t = 129 ∧ es.length = 3 then some (.c (.bool (.app 991 (.cons R (aL es)))), ⟨[], none⟩) else none
   | _, _ => none)
  | _, _ => none)
 | .makeInterface t x => if t = 46 then (match cA tm G x with
  | some (.agg cs) => (match wB cs with | some _ => some (.c (Hu cs), ⟨[], none⟩) | none => none)
  | _ => none) else none
 | _ => none
section
variable {ρ : Env} {B : Nat} {w0 w : World} {ls : Ls} {hp : SH} {tm : aw} {a : Act} {G : E}
def Ji (P : Program) (t : TypeId) : Bool := match P.underlying t with | some (.struct _) => true | _ => false
theorem qj {P : Program} {t : TypeId} (h : Ji P t = true) : ∃ fs, P.underlying t = some (.struct fs) := by
 unfold Ji at h
 split at h
 ·exact ⟨_, by assumption⟩
 ·cases h
theorem Jj : ∃ fs, Tryz.prog.underlying 66 = some (.struct fs) := qj (by kernel_rfl)
theorem Qk : ∃ fs, Tryz.prog.underlying 46 = some (.struct fs) := qj (by kernel_rfl)
theorem Ed : ∃ fs, Tryz.prog.underlying 23 = some (.struct fs) := qj (by kernel_rfl)
theorem Oe : Tryz.prog.underlying 62 = some (.map 66 26) := by kernel_rfl
theorem Ee : Tryz.prog.underlying 129 = some (.map 23 4) := by kernel_rfl
theorem Jk : im Tryz.prog 66 (List.replicate 6 (.int .i64)) := gz (l := eqs) (by kernel_rfl) _ _ (by kernel_rfl)
theorem Ef : im Tryz.prog 23 (List.replicate 3 (.int .i64)) := gz (l := eqs) (by kernel_rfl) _ _ (by kernel_rfl)
theorem K6 (b : Bool) (k0 k1 k2 k3 k4 k5 : Int) : (Instr.checkKey b 10000 66 (kV [k0, k1, k2, k3, k4, k5])).run Tryz.prog w = .ok () w := by kernel_rfl
theorem Hv (b : Bool) (k0 k1 k2 : Int) : (Instr.checkKey b 10000 23 (kV [k0, k1, k2])).run Tryz.prog w = .ok () w := by kernel_rfl
theorem Nr : (zeroValue 26).run Tryz.prog w = .ok (.slice none 0 0) w := by kernel_rfl
theorem Ns : (zeroValue 4).run Tryz.prog w = .ok (.bool false) w := by kernel_rfl
theorem Ax {k : List Int} (hk : k.length = 6) (b : Bool) : (Instr.checkKey b 10000 66 (kV k)).run Tryz.prog w = .ok () w := by
 match k, hk with
 | [_, _, _, _, _, _], _ => exact K6 ..
theorem Ql {k : List Int} (hk : k.length = 3) (b : Bool) : (Instr.checkKey b 10000 23 (kV k)).run Tryz.prog w = .ok () w := by
 match k, hk with
 | [_, _, _], _ => exact Hv ..
theorem Eh {l l2 : Nat} {b b' : Bool} {ty ty' : TypeId} {ho g : E} {m : Value} (hl : hp[l]? = some ⟨b, ty, .abs 1 [l2] ho⟩) (hl2 : hp[l2]? = some ⟨b', ty', .abs 2 [] (.cons g .nil)⟩) (hh : aB ρ B w0 ls hp w) (hm : RS ρ ls (.mp l) m) :
 ∃ L arr, m = .map (some L) ∧ ls[l]? = some (.pointer (some ⟨L, 0, none⟩)) ∧ ls[l2]? = some (.agg arr) ∧ Nt B w (.pointer (some ⟨L, 0, none⟩)) (.agg arr) (ev ρ ho).l ∧ s9 B w (.agg arr) (ev ρ g).x := by
 obtain ⟨v, vs, h1, h2, h3⟩ := hh.bA l _ hl
 obtain ⟨u, us, g1, g2, g3⟩ := hh.bA l2 _ hl2
 obtain ⟨L, m1, rfl⟩ := hm
 rw [h1] at m1
 cases m1
 match vs, us, h2, g2, h3, g3 with
 | [x], [], h2, _, h3, g3 =>
  have h3 := h3.2
  have g3 : s9 B w u (ev ρ g).x := g3.2
  have e0 := Option.some.inj (h2.1.symm.trans g1)
  rw [e0] at h3
  obtain ⟨arr, n, e, g4⟩ := id g3
  subst e
  exact ⟨L, arr, rfl, h1, g1, h3, g3⟩
theorem Ei {l l2 : Nat} {b b' : Bool} {ty ty' : TypeId} {g : E} {m : Value} {ky : List X} (hl : hp[l]? = some ⟨b, ty, .abs 1 [l2] .nil⟩) (hl2 : hp[l2]? = some ⟨b', ty', .abs 2 [] (.cons g .nil)⟩) (hh : aB ρ B w0 ls hp w) (hm : RS ρ ls (.mp l) m) (hk : ky.length = 6) :
 ∃ z, (Instr.lookup 62 m (lI ky) false).run Tryz.prog w = .ok z w ∧ ∃ u, ls[l2]? = some u ∧ Ej 4 [u] ky z := by
 obtain ⟨L, arr, rfl, h1, h2, h3, h4⟩ := Eh hl hl2 hh hm
 obtain ⟨L', arr', es, clock, e1, e2, _, h5, h6, _, h7⟩ := h3
 cases e1
 cases e2
 obtain ⟨_, mm, e, k1, _, _, _, k2, _⟩ := h4
 cases e
 have hsz : arr.size = 2 * es.size := by
  rcases h6 with h6 | ⟨_, h6, _⟩
  ·exact h6
  ·exact absurd rfl h6
 obtain ⟨fs, hu⟩ := Jj
 have hkeys : ∀ e ∈ es.toList, ∃ k' : List Int, k'.length = 6 ∧ e.key = kV k' := fun e he => by
  obtain ⟨j, hj, rfl⟩ := List.mem_iff_getElem.1 he
  have hj' : j < es.size := by simpa using hj
  obtain ⟨A, n, c, _, ky', q0, q1, _⟩ := k2 j (by omega)
  have := (h7 j _ (Array.getElem?_eq_getElem hj')).1
  rw [this] at q1
  injection q1 with q1
  exact ⟨dG ky', by simp [dG, q0], by simpa [eA] using q1⟩
 have hk' : (dG ky).length = 6 := by simp [dG, hk]
 rw [eA]
 rcases iq (w := w) hu Jk hk' es.toList hkeys with ⟨j, e, q1, q2, q3⟩ | ⟨q1, q2⟩
 ·refine ⟨e.val, ?_, .agg arr, h2, .inl ⟨j, ?_, ?_⟩⟩
  ·simp only [Instr.lookup, Sem.run_bind, run_underlying Oe, Result.andThen_ok, getM h5, Sem.run_pure, Ax hk', q3]
   rfl
  ·rw [(h7 j e (by simpa using q1)).1, q2, eA]
  ·exact (h7 j e (by simpa using q1)).2 (.inl rfl)
 ·refine ⟨.slice none 0 0, ?_, .agg arr, h2, .inr ⟨fun j hj => ?_, rfl⟩⟩
  ·simp only [Instr.lookup, Sem.run_bind, run_underlying Oe, Result.andThen_ok, getM h5, Sem.run_pure, Ax hk', q2, Nr]
   rfl
  ·by_cases hlt : j < es.size
   ·have e1 := Array.getElem?_eq_getElem hlt
    rw [(h7 j _ e1).1, eA] at hj
    injection hj with hj
    exact q1 _ (by simp) hj
   ·rw [Array.getElem?_eq_none (by omega)] at hj
    cases hj
theorem B3 {l : Nat} {b : Bool} {ty : TypeId} {R : E} {m : Value} {ky : List X} (hl : hp[l]? = some ⟨b, ty, .abs 3 [] (.cons R .nil)⟩) (hh : aB ρ B w0 ls hp w) (hm : RS ρ ls (.mp l) m) (hk : ky.length = 3) :
 (Instr.lookup 129 m (lI ky) false).run Tryz.prog w = .ok (.bool (Db (ev ρ R).x (dG ky)[0]! (dG ky)[1]! (dG ky)[2]!)) w := by
 obtain ⟨v, vs, h1, h2, h3⟩ := hh.bA l _ hl
 obtain ⟨L, m1, rfl⟩ := hm
 rw [h1] at m1
 cases m1
 match vs, h2, h3 with
 | [], _, h3 =>
  obtain ⟨L', es, clock, e1, _, h5, h6, h7, h8, h9⟩ := h3.2
  cases e1
  obtain ⟨fs, hu⟩ := Ed
  have hkeys : ∀ e ∈ es.toList, ∃ k' : List Int, k'.length = 3 ∧ e.key = kV k' := fun e he => by
   obtain ⟨j, hj, rfl⟩ := List.mem_iff_getElem.1 he
   have hj' : j < es.size := by simpa using hj
   refine ⟨[((ev ρ R).x.r j 0).i, ((ev ρ R).x.r j 1).i, ((ev ρ R).x.r j 2).i], rfl, ?_⟩
   have := (h9 j _ (Array.getElem?_eq_getElem hj')).2
   rw [Array.getElem_toList]; exact this
  have hk' : (dG ky).length = 3 := by simp [dG, hk]
  rw [eA]
  obtain ⟨x, y, z, hxyz⟩ : ∃ x y z, dG ky = [x, y, z] := by
   match dG ky, hk' with
   | [x, y, z], _ => exact ⟨x, y, z, rfl⟩
  rw [hxyz] at hk' ⊢
  show _ = Result.ok (Value.bool (Db (ev ρ R).x x y z)) w
  rcases iq (w := w) hu Ef hk' es.toList hkeys with ⟨j, e, q1, q2, q3⟩ | ⟨q1, q2⟩
  ·have hv := h9 j e (by simpa using q1)
   have hlt : j < es.size := by
    have := (List.getElem?_eq_some_iff.1 q1).1; simpa using this
   have hb : Db (ev ρ R).x x y z = true := by
    refine List.any_eq_true.2 ⟨j, List.mem_range.2 (by omega), ?_⟩
    have e3 : kV [((ev ρ R).x.r j 0).i, ((ev ρ R).x.r j 1).i, ((ev ρ R).x.r j 2).i] = kV [x, y, z] := hv.2.symm.trans q2
    have := yD e3
    simp only [List.cons.injEq] at this
    simp [this]
   rw [hb]
   simp only [Instr.lookup, Sem.run_bind, run_underlying Ee, Result.andThen_ok, getM h5, Sem.run_pure, Ql hk', q3, hv.1]
   rfl
  ·have hb : Db (ev ρ R).x x y z = false := by
    refine Bool.eq_false_iff.2 fun hc => ?_
    obtain ⟨j, hj, hc⟩ := List.any_eq_true.1 hc
    have hlt : j < es.size := by rw [h8]; exact List.mem_range.1 hj
    have hc := of_decide_eq_true hc
    refine q1 es[j] (by simp) ?_
    rw [(h9 j _ (Array.getElem?_eq_getElem hlt)).2]
    show kV [_, _, _] = _
    rw [hc.1, hc.2.1, hc.2.2]
   rw [hb]
   simp only [Instr.lookup, Sem.run_bind, run_underlying Ee, Result.andThen_ok, getM h5, Sem.run_pure, Ql hk', q2, Ns]
   rfl
theorem K7 (g : X) (ky : List X) : Ff 990 (g :: ky) = ⟨(kr g (dG ky)).length, false, .nilIface, fun j _ => ⟨(kr g (dG ky)).getD j.toNat 0, false, .nilIface⟩⟩ := rfl
theorem ni {l : Nat} {b : Bool} {ty : TypeId} {d : E} (hl : hp[l]? = some ⟨b, ty, .abs 0 [] (.cons d .nil)⟩) (hh : aB ρ B w0 ls hp w) : ∃ v, ls[l]? = some v ∧ K8 w v (ev ρ d).x := by
 obtain ⟨v, vs, h1, h2, h3⟩ := hh.bA l _ hl
 match vs, h2, h3 with
 | [], _, h3 => exact ⟨v, h1, h3.2⟩
theorem oZ {l : Nat} {b : Bool} {ty : TypeId} {g : E} (hl : hp[l]? = some ⟨b, ty, .abs 2 [] (.cons g .nil)⟩) (hh : aB ρ B w0 ls hp w) : ∃ v, ls[l]? = some v ∧ s9 B w v (ev ρ g).x := by
 obtain ⟨v, vs, h1, h2, h3⟩ := hh.bA l _ hl
 match vs, h2, h3 with
 | [], _, h3 => exact ⟨v, h1, h3.2⟩
theorem Hw (log : X) (k : List Int) : ((kr log k).length : Int) ≤ max log.i 0 := by
 unfold kr
 rw [List.length_map]
 have := List.length_filter_le (fun (i : Nat) => dG (wi log i) == k) (List.range log.i.toNat)
 rw [List.length_range] at this
 omega
theorem Ek {log : X} {k : List Int} (h : ∀ i : Nat, (i : Int) < log.i → dG (wi log i) ≠ k) : kr log k = [] := by
 unfold kr
 rw [List.filter_eq_nil_iff.2]
 ·rfl
 ·intro i hi
  have := h i (by have := List.mem_range.1 hi; omega)
  simpa using this
theorem Hx {log : X} {k : List Int} {j : Nat} (h : j < (kr log k).length) : ∃ i : Int, 0 ≤ i ∧ i < log.i ∧ (kr log k)[j]? = some (log.r i 6).i := by
 have h1 : (kr log k)[j] ∈ kr log k := List.getElem_mem h
 obtain ⟨i, hi, e⟩ := List.mem_map.1 h1
 have := List.mem_range.1 (List.mem_filter.1 hi).1
 exact ⟨i, by omega, by omega, by rw [List.getElem?_eq_getElem h, e]⟩
theorem ux {l : Nat} {b : Bool} {ty : TypeId} {g ks : E} {v : Value} (hl : hp[l]? = some ⟨b, ty, .abs 2 [] (.cons g .nil)⟩) (hh : aB ρ B w0 ls hp w) (hv : RS ρ ls (.abs 4 [l] ks) v) :
 ∃ A n c, v = .slice A n c ∧ n = (kr (ev ρ g).x (dG (ev ρ ks).l)).length ∧ n ≤ 1000000 ∧ w.ownsRow B 3 1 (.slice A n c) n ((kr (ev ρ g).x (dG (ev ρ ks).l)).map (Value.int .i64)) := by
 obtain ⟨u, h1, h2⟩ := oZ hl hh
 obtain ⟨us, g1, g2⟩ := hv
 match us, g1, g2 with
 | [x], g1, g2 =>
  have := h1.symm.trans g1.1
  cases this
  obtain ⟨arr, m, rfl, k1, k2, k3, kv, k4, k5, k6, k7⟩ := h2
  have hlen : ∀ k, ((kr (ev ρ g).x k).length : Int) ≤ 1000000 := fun k => by
   have := Hw (ev ρ g).x k
   omega
  rcases g2 with ⟨j, q1, q2⟩ | ⟨q1, rfl⟩
  ·have hj : j < m := by
    have := (Array.getElem?_eq_some_iff.1 q1).1
    omega
   obtain ⟨A, n, c, p1, ky, _, p2, p3, p4⟩ := k4 j hj
   rw [q2] at p1
   injection p1 with p1
   rw [q1] at p2
   injection p2 with p2
   have p2 := Hy p2
   rw [p2]
   exact ⟨A, n, c, p1, p3, by have := hlen (dG ky); omega, p4⟩
  ·have e : kr (ev ρ g).x (dG (ev ρ ks).l) = [] := Ek fun i hi e => by
    obtain ⟨j, hj, e1⟩ := k6 i hi
    exact q1 j (by rw [e1]; congr 1; exact yE e)
   rw [e]
   exact ⟨none, 0, 0, rfl, rfl, by decide, World.ownsRow_nil w B _ _⟩
theorem El {e : TypeId} {a0 : Addr} {n c : Nat} {zs : List Int} {j : Nat} {z : Int} (h : w.ownsRow B e 1 (.slice (some a0) n c) n (zs.map (Value.int .i64))) (hj : zs[j]? = some z) : w.cell? (a0.add j) = some (.int .i64 z) := by
 rcases h.2 with ⟨e5, _⟩ | ⟨g', cap, cur, e5, _⟩
 ·cases e5
 ·injection e5 with e5
  cases e5
  exact h.cells (g := g') rfl _ _ (by rw [List.getElem?_map, hj]; rfl)
theorem K9 {x : Nat → X} {k : Nat → Option Loop} {ob : Gh} {o : Oper} {s : SV} {ow : Ow} (h : Qj Tryz.prog tm hp G o = some (s, ow)) (hw : ow.Ok (ρ0.sw x k ob)) (hr : aX (ρ0.sw x k ob) ls tm a) (hG : al (ρ0.sw x k ob) G = true) (hh : aB (ρ0.sw x k ob) B w0 ls hp w) :
 ∃ z, (execOp a.eval o).run Tryz.prog w = .ok (.value z) w ∧ RV (ρ0.sw x k ob) ls s z := by
 obtain ⟨ρ', hρ⟩ : ∃ ρ', ρ' = ρ0.sw x k ob := ⟨_, rfl⟩
 have hf : ρ'.f = Ff := by rw [hρ]; rfl
 rw [← hρ] at hw hr hG hh ⊢
 have fev : ∀ (g ks : E), (ev ρ' (.app 990 (.cons g ks))).x = Ff 990 ((ev ρ' g).x :: (ev ρ' ks).l) := fun g ks => by
  show ρ'.f 990 _ = _
  rw [hf]; rfl
 obtain ⟨dst, op, ty, pos, after, guard⟩ := o
 unfold Qj at h
 simp only at h
 split at h
 ·rename_i t x y
  split at h
  ·rename_i l k e il ih el hx hy ht
   split at h
   ·rename_i d hl
    split at h
    ·rename_i hsz
     cases h
     obtain ⟨v, h1, arr, A, N, C, rfl, h2, h3, h4, h5, h6, h7, _, h8⟩ := ni hl hh
     obtain ⟨us, g1, g2⟩ := aj hx hr hG
     obtain ⟨gi, r1, r2⟩ := aj hy hr hG
     match us, g1, g2 with
     | [u], g1, g2 =>
      have := h1.symm.trans g1.1
      cases this
      have g2 : arr[0]? = some _ := g2
      rw [h2] at g2
      injection g2 with g2
      have hd : aa ρ' (.div d (.ic 64)) = N := by
       show (ev ρ' d).x.i / 64 = _
       omega
      obtain ⟨q1, q2⟩ := js hw.1 r1 r2 (by rw [hd]; omega)
      rw [hd] at q2
      obtain ⟨a0, _, _, rfl, _⟩ := h8 0 h4
      refine ⟨_, bb (by rw [← g2, gi]; exact cU ht hsz ⟨q1, q2⟩), [.agg arr], ⟨h1, trivial⟩, a0, N, C, h2, ?_, ?_⟩
      ·rw [Nat.mul_one]
       show _ = Value.pointer (some (a0.add (aa ρ' (fB e)).toNat))
       rw [gd]
      ·show 0 ≤ aa ρ' (fB e) ∧ aa ρ' (fB e) < N
       rw [gd]; exact ⟨q1, q2⟩
    ·cases h
   ·cases h
  ·rename_i l q k e il ih el hx hy ht
   split at h
   ·rename_i d hl
    split at h
    ·rename_i hsz
     cases h
     obtain ⟨v, h1, arr, A, N, C, rfl, h2, h3, h4, h5, h6, h7, _, h8⟩ := ni hl hh
     obtain ⟨us, g1, g2⟩ := aj hx hr hG
     obtain ⟨gi, r1, r2⟩ := aj hy hr hG
     match us, g1, g2 with
     | [u], g1, g2 =>
      have := h1.symm.trans g1.1
      cases this
      obtain ⟨A', N', C', g2, g3, g4, g5⟩ := g2
      rw [h2] at g2
      cases g2
      obtain ⟨q1, q2⟩ := js hw.1 r1 r2 (Int.le_refl _)
      have q2 : aa ρ' e < 64 := q2
      obtain ⟨a0, b0, c0, rfl, c1, p1, p2, p3⟩ := h8 (aa ρ' q).toNat (by show (aa ρ' q).toNat < N; have g5 : aa ρ' q < N := g5; have g4 : 0 ≤ aa ρ' q := g4; omega)
      have g3 : arr[(aa ρ' q).toNat + 1]? = _ := g3
      rw [p1] at g3
      injection g3 with g3
      refine ⟨_, bb (by rw [← g3, gi]; exact cU ht hsz ⟨q1, q2⟩), [.agg arr], ⟨h1, trivial⟩, _, N, C, b0, c0, h2, p1, ?_, g4, g5, ?_⟩
      ·rw [Nat.mul_one]
       show _ = Value.pointer (some (b0.add (aa ρ' (fB e)).toNat))
       rw [gd]
      ·show 0 ≤ aa ρ' (fB e) ∧ aa ρ' (fB e) < 64
       rw [gd]; exact ⟨q1, q2⟩
    ·cases h
   ·cases h
  ·rename_i l ks k e il ih el hx hy ht
   split at h
   ·rename_i g hl
    split at h
    ·rename_i hsz
     cases h
     have hu := aj hx hr hG
     obtain ⟨A, n, c, e1, e2, e3, e4⟩ := ux hl hh hu
     obtain ⟨gi, r1, r2⟩ := aj hy hr hG
     have hn : aa ρ' (.app 990 (.cons g ks)) = n := by
      unfold aa
      rw [fev, K7, e2]
     obtain ⟨q1, q2⟩ := js hw.1 r1 r2 (by rw [hn]; omega)
     rw [hn] at q2
     have hA : ∃ a0, A = some a0 := by
      rcases e4.2 with ⟨e5, e6⟩ | ⟨g', cap, cur, e5, _⟩
      ·omega
      ·injection e5 with e5; exact ⟨_, e5⟩
     obtain ⟨a0, rfl⟩ := hA
     obtain ⟨us, g1, g2⟩ := hu
     match us, g1, g2 with
     | [u], g1, g2 =>
      obtain ⟨v, h1, h2⟩ := oZ hl hh
      obtain ⟨arr, m, rfl, _⟩ := h2
      have := h1.symm.trans g1.1
      cases this
      rcases g2 with ⟨j, q3, q4⟩ | ⟨_, q3⟩
      ·refine ⟨_, bb (by rw [e1, gi]; exact cU ht hsz ⟨q1, q2⟩), [.agg arr], ⟨h1, trivial⟩, j, a0, n, c, q3, by rw [q4, e1], ?_, ?_⟩
       ·rw [Nat.mul_one]
        show _ = Value.pointer (some (a0.add (aa ρ' (fB e)).toNat))
        rw [gd]
       ·show 0 ≤ aa ρ' (fB e) ∧ aa ρ' (fB e) < n
        rw [gd]; exact ⟨q1, q2⟩
      ·rw [e1] at q3; cases q3
    ·cases h
   ·cases h
  ·cases h
 ·rename_i t x
  have ld : ∀ {ad : Addr} {z : Value}, a.eval x = .pointer (some ad) → (loadVar t ad).run Tryz.prog w = .ok z w → (execOp a.eval ⟨dst, .load t x, ty, pos, after, guard⟩).run Tryz.prog w = .ok (.value z) w := fun {ad z} he q1 => bb (by
   rw [he]
   simp only [Instr.loadAt, Instr.sureAddr, Sem.run_bind, Sem.run_pure, Result.andThen_ok]
   exact q1)
  split at h
  ·rename_i l k hx ht
   split at h
   ·rename_i d hl
    cases h
    obtain ⟨v, h1, arr, A, N, C, rfl, h2, h3, h4, h5, h6, h7, _, h8⟩ := ni hl hh
    obtain ⟨us, g1, g2⟩ := aj hx hr hG
    match us, g1, g2 with
    | [u], g1, g2 =>
     have := h1.symm.trans g1.1
     cases this
     obtain ⟨a0, N', C', g2, g3, g4, g5⟩ := g2
     rw [h2] at g2
     cases g2
     obtain ⟨a0', b0, c0, e0, c1, p1, p2, p3⟩ := h8 (aa ρ' k).toNat (by have g5 : aa ρ' k < N := g5; have g4 : 0 ≤ aa ρ' k := g4; omega)
     cases e0
     exact ⟨_, ld g3 (cr ht p2), [.agg arr], ⟨h1, trivial⟩, _, N, C, h2, p1, g4, g5⟩
   ·cases h
  ·rename_i l k i hx ht
   split at h
   ·rename_i d hl
    cases h
    obtain ⟨v, h1, arr, A, N, C, rfl, h2, h3, h4, h5, h6, h7, hv, h8⟩ := ni hl hh
    obtain ⟨us, g1, g2⟩ := aj hx hr hG
    match us, g1, g2 with
    | [u], g1, g2 =>
     have := h1.symm.trans g1.1
     cases this
     obtain ⟨A', N', C', b0, c0, g2, g3, g4, g5, g6, g7, g8⟩ := g2
     rw [h2] at g2
     cases g2
     have g5 : 0 ≤ aa ρ' k := g5
     have g6 : aa ρ' k < N := g6
     have g7 : 0 ≤ aa ρ' i := g7
     have g8 : aa ρ' i < 64 := g8
     obtain ⟨a0', b0', c0', e0, c1, p1, p2, p3⟩ := h8 (aa ρ' k).toNat (by omega)
     have g3 : arr[(aa ρ' k).toNat + 1]? = _ := g3
     rw [p1] at g3
     cases g3
     have hc := p3 (aa ρ' i).toNat (by omega)
     have hidx : (64 * (((aa ρ' k).toNat : Nat) : Int) + ((aa ρ' i).toNat : Nat)) = 64 * aa ρ' k + aa ρ' i := by omega
     rw [hidx] at hc
     have hrg := hv (64 * aa ρ' k + aa ρ' i) (by omega) (by omega)
     exact ⟨_, ld g4 (cr ht hc), rfl, hrg⟩
   ·cases h
  ·rename_i l i ks hx ht
   split at h
   ·rename_i g hl
    cases h
    obtain ⟨us, g1, g2⟩ := aj hx hr hG
    match us, g1, g2 with
    | [u], g1, g2 =>
     obtain ⟨v, h1, h2⟩ := oZ hl hh
     obtain ⟨arr, m, rfl, k1, k2, k3, kv, _⟩ := h2
     have := h1.symm.trans g1.1
     cases this
     obtain ⟨j, a0, n, c, q1, q2, q3, q4, q5⟩ := g2
     have q4 : 0 ≤ aa ρ' i := q4
     have q5 : aa ρ' i < n := q5
     obtain ⟨A, n', c', e1, e2, e3, e4⟩ := ux (ks := ks) hl hh ⟨[.agg arr], ⟨h1, trivial⟩, .inl ⟨j, q1, q2⟩⟩
     cases e1
     have hlt : (aa ρ' i).toNat < (kr (ev ρ' g).x (dG (ev ρ' ks).l)).length := by omega
     obtain ⟨m', m1, m2, m3⟩ := Hx hlt
     have hc := El e4 m3
     have hz : (ev ρ' (.Aw (.app 990 (.cons g ks)) i (.ic 0))).x.i = ((ev ρ' g).x.r m' 6).i := by
      show ((ev ρ' (.app 990 (.cons g ks))).x.r (ev ρ' i).x.i 0).i = _
      rw [fev, K7]
      show (kr (ev ρ' g).x (dG (ev ρ' ks).l)).getD (aa ρ' i).toNat 0 = _
      rw [List.getD_eq_getElem?_getD, m3]; rfl
     refine ⟨_, ld q3 (cr ht hc), ?_, ?_⟩
     ·unfold aa; rw [hz]
     ·unfold aa; rw [hz]; exact kv m' m1 m2
   ·cases h
  ·cases h
 ·rename_i args argTypes
  split at h
  ·rename_i x t hargs hts
   have ea : args = #[x] := by rw [show args = args.toList.toArray by simp, hargs]
   have et : argTypes = #[t] := by rw [show argTypes = argTypes.toList.toArray by simp, hts]
   subst ea et
   have ln : ∀ {A : Option Addr} {n c : Nat}, a.eval x = .slice A n c → qi Tryz.prog t = true → (execOp a.eval ⟨dst, .call { callee := .builtin .len, args := #[x], argTypes := #[t] }, ty, pos, after, guard⟩).run Tryz.prog w = .ok (.value (.int .i64 n)) w := fun {A n c} he hsl => by
    obtain ⟨el, ht⟩ := lX hsl
    simp [execOp, resolve, invoke, he, builtin, Builtin.len_, run_underlying ht, goInt]
   split at h
   ·rename_i l hx hsl
    split at h
    ·rename_i d hl
     cases h
     obtain ⟨v, h1, arr, A, N, C, rfl, h2, h3, h4, h5, h6, h7, _, h8⟩ := ni hl hh
     obtain ⟨us, g1, g2⟩ := aj hx hr hG
     match us, g1, g2 with
     | [u], g1, g2 =>
      have := h1.symm.trans g1.1
      cases this
      have g2 : arr[0]? = some _ := g2
      rw [h2] at g2
      injection g2 with g2
      have hd : aa ρ' (.div d (.ic 64)) = N := by
       show (ev ρ' d).x.i / 64 = _
       omega
      exact ⟨_, ln g2.symm hsl, by rw [hd], by rw [hd]; omega, by rw [hd]; omega⟩
    ·cases h
   ·rename_i l q hx hsl
    split at h
    ·rename_i d hl
     cases h
     obtain ⟨v, h1, arr, A, N, C, rfl, h2, h3, h4, h5, h6, h7, _, h8⟩ := ni hl hh
     obtain ⟨us, g1, g2⟩ := aj hx hr hG
     match us, g1, g2 with
     | [u], g1, g2 =>
      have := h1.symm.trans g1.1
      cases this
      obtain ⟨A', N', C', g2, g3, g4, g5⟩ := g2
      rw [h2] at g2
      cases g2
      have g4 : 0 ≤ aa ρ' q := g4
      have g5 : aa ρ' q < N := g5
      obtain ⟨a0, b0, c0, e0, c1, p1, p2, p3⟩ := h8 (aa ρ' q).toNat (by omega)
      have g3 : arr[(aa ρ' q).toNat + 1]? = _ := g3
      rw [p1] at g3
      injection g3 with g3
      exact ⟨_, ln g3.symm hsl, rfl, by show (64 : Int) ≤ 64; omega, by show (64 : Int) ≤ 64; omega⟩
    ·cases h
   ·rename_i l ks hx hsl
    split at h
    ·rename_i g hl
     cases h
     obtain ⟨A, n, c, e1, e2, e3, e4⟩ := ux hl hh (aj hx hr hG)
     have hn : aa ρ' (.app 990 (.cons g ks)) = n := by
      unfold aa
      rw [fev, K7, e2]
     exact ⟨_, ln e1 hsl, by rw [hn], by rw [hn]; omega, by rw [hn]; omega⟩
    ·cases h
   ·cases h
  ·cases h
 ·rename_i t x y
  split at h
  ·rename_i l cs hx hy
   obtain ⟨vs, hvs, hcs⟩ := aj hy hr hG
   split at h
   ·rename_i l2 es hl he
    split at h
    ·rename_i g hl2
     split at h
     ·rename_i hc
      obtain ⟨rfl, hlen⟩ := hc
      cases h
      obtain ⟨h1, h2⟩ := jr he hcs
      obtain ⟨z, q1, u, q2, q3⟩ := Ei (ky := (ev ρ' (aL es)).l) hl hl2 hh (aj hx hr hG) (by rw [bM]; simpa [aM] using hlen)
      exact ⟨z, bb (by rw [hvs, h1]; exact q1), [u], ⟨q2, trivial⟩, q3⟩
     ·cases h
    ·cases h
   ·rename_i R es hl he
    split at h
    ·rename_i hc
     obtain ⟨rfl, hlen⟩ := hc
     cases h
     obtain ⟨h1, h2⟩ := jr he hcs
     have hk : (ev ρ' (aL es)).l.length = 3 := by rw [bM]; simpa [aM] using hlen
     refine ⟨_, bb (by rw [hvs, h1]; exact B3 hl hh (aj hx hr hG) hk), ?_⟩
     show Value.bool _ = Value.bool (ρ'.f 991 ((ev ρ' R).x :: (ev ρ' (aL es)).l)).b
     rw [hf]
     match (ev ρ' (aL es)).l, hk with
     | [x, y, z], _ => rfl
    ·cases h
   ·cases h
  ·cases h
 ·rename_i t x
  split at h
  ·rename_i ht
   subst ht
   split at h
   ·rename_i cs hx
    split at h
    ·cases h
     obtain ⟨vs, hvs, hcs⟩ := aj hx hr hG
     obtain ⟨fs, hu⟩ := Qk
     exact ⟨_, bb (by rw [hvs]; simp only [Instr.makeInterface, Sem.run_bind, run_underlying hu, Result.andThen_ok]; rfl), Az hcs⟩
    ·cases h
   ·cases h
  ·cases h
 ·cases h
end
end Vc
end Go.Proofs.YtpmfkelglmgddaaGreatDoor
namespace Go.Proofs.YtpmfkelglmgddaaGreatDoor
namespace Vc
open Go Go.RowKit
set_option linter.unusedVariables false
def Nu : List E → E → E → Nat → E
 | [], _, R, _ => R
 | k :: ks, g, R, o => Nu ks g (.dL R g (.ic o) k) (o + 1)
def fO (g : E) (ks : List E) (e : E) : E := .eY (.dL (Nu ks g g 0) g (.ic 6) e) (.add g (.ic 1))
def td : SH → Nat → Nat → Option Nat
 | [], _, _ => none
 | ⟨true, _, .abs 1 [l] .nil⟩ :: r, l', n => if Nat.beq l l' then some n else td r l' (n + 1)
 | _ :: r, l', n => td r l' (n + 1)
theorem wC : ∀ {hs : SH} {l n m : Nat}, td hs l n = some m → n ≤ m ∧ ∃ ty, hs[m - n]? = some ⟨true, ty, .abs 1 [l] .nil⟩
 | [], _, _, _, h => by cases h
 | x :: r, l, n, m, h => by
  have tail : td r l (n + 1) = some m → n ≤ m ∧ ∃ ty, (x :: r)[m - n]? = some ⟨true, ty, .abs 1 [l] .nil⟩ := fun h => by
   obtain ⟨h1, ty, h2⟩ := wC h
   refine ⟨by omega, ty, ?_⟩
   rw [show m - n = (m - (n + 1)) + 1 by omega, List.getElem?_cons_succ]; exact h2
  unfold td at h
  split at h
  ·cases h
  ·rename_i heq
   cases heq
   split at h
   ·rename_i he
    cases h
    have := Nat.eq_of_beq_eq_true he
    subst this
    exact ⟨Nat.le_refl _, _, by rw [Nat.sub_self]; rfl⟩
   ·exact tail h
  ·rename_i heq
   cases heq
   exact tail h
def La (hp : SH) (l la : Nat) (ty tya : TypeId) (g : E) (ks : List E) (e : E) : SH :=
 @List.set HE (hp.set l ⟨true, ty, .dead⟩ ++ [⟨true, ty, .abs 2 [] (.cons (fO g ks e) .nil)⟩]) la ⟨true, tya, .abs 1 [hp.length] (aL ks)⟩
def isTrue : Option SV → Bool
 | some (.c (.bool (.bc true))) => true
 | some (.c (.di (.bool true))) => true
 | _ => false
def B4 (P : Program) (tm : aw) (hp : SH) (G : E) (t : TypeId) (m k x : Operand) : Option (SV × SH × Ow) := match cA tm G m, cA tm G k with
 | some (.c (.mp l)), some (.agg cs) => (match hp[l]?, wz cs with
  | some ⟨true, ty, .abs 1 [l2] ho⟩, some es => (match hp[l2]?, cA tm G x with
   | some ⟨_, _, .abs 2 [] (.cons g .nil)⟩, some (.c (.abs 4 [l3] A)) => if t = 62 ∧ es.length = 6 ∧ l3 = l2 ∧ aY A ho = true ∧ aY A (aL es) = true then some (.c .kW, hp.set l ⟨true, ty, .abs 1 [l2] .nil⟩, ⟨[], none⟩) else none
   | _, _ => none)
  | some ⟨true, ty, .abs 3 [] (.cons R .nil)⟩, some [x0, x1, x2] => if t = 129 ∧ isTrue (cA tm G x) = true then some (.c .kW, hp.set l ⟨true, ty, .abs 3 [] (.cons (.eY (.dL (.dL (.dL R R (.ic 0) x0) R (.ic 1) x1) R (.ic 2) x2) (.add R (.ic 1))) .nil)⟩, ⟨[bp (.app 991 (.cons R (aL [x0, x1, x2]))), .lt R (.ic 1000000)], none⟩) else none
  | _, _ => none)
 | _, _ => none
def ij (P : Program) (tm : aw) (hp : SH) (G : E) (o : Oper) : Option (SV × SH × Ow) := match o.op with
 | .makeMap t none => if t = 62 then some (.c (.mp (hp.length + 1)), hp ++ [⟨true, 0, .abs 2 [] (.cons (.eY (.bE 1 .nil) (.ic 0)) .nil)⟩] ++ [⟨true, 0, .abs 1 [hp.length] .nil⟩], ⟨[], none⟩)
  else if t = 129 then some (.c (.mp hp.length), hp ++ [⟨true, 0, .abs 3 [] (.cons (.eY (.bE 1 .nil) (.ic 0)) .nil)⟩], ⟨[], none⟩) else none
 | .call { callee := .builtin .append, args, argTypes } => (match args.toList, argTypes.toList with
  | [x, y], [t, t'] => if t = 26 ∧ t' = 26 then (match cA tm G x, cA tm G y with
   | some (.c (.abs 4 [l] (.cons k0 (.cons k1 (.cons k2 (.cons k3 (.cons k4 (.cons k5 .nil)))))))), some v => (match hp[l]?, td hp l 0, nj hp 1 v with
    | some ⟨true, ty, .abs 2 [] (.cons g .nil)⟩, some la, some (1, _, [.int .i64 e lo hs]) => (match hp[la]? with
     | some ⟨_, tya, _⟩ => if 0 ≤ lo ∧ hs ≤ 1000000 then some (.c (.abs 4 [hp.length] (aL [k0, k1, k2, k3, k4, k5])), La hp l la ty tya g [k0, k1, k2, k3, k4, k5] e, ⟨[.lt g (.ic 1000000)], none⟩) else none
     | none => none)
    | _, _, _ => none)
   | _, _ => none) else none
  | _, _ => none)
 | .mapUpdate t m k x => B4 P tm hp G t m k x
 | .insert t m k x => B4 P tm hp G t m k x
 | _ => none
section
variable {ρ : Env} {B : Nat} {w0 w : World} {ls : Ls} {hp : SH} {tm : aw} {a : Act} {G : E}
theorem Hz {g e : E} {ks : List E} : (ev ρ (fO g ks e)).x.i = (ev ρ g).x.i + 1 := rfl
theorem nk {g e k0 k1 k2 k3 k4 k5 : E} {j o : Int} (hj : j ≠ (ev ρ g).x.i) : (ev ρ (fO g [k0, k1, k2, k3, k4, k5] e)).x.r j o = (ev ρ g).x.r j o := by
 show (if j = (ev ρ g).x.i ∧ o = 6 then _ else if j = (ev ρ g).x.i ∧ o = 5 then _ else if j = (ev ρ g).x.i ∧ o = 4 then _ else if j = (ev ρ g).x.i ∧ o = 3 then _ else if j = (ev ρ g).x.i ∧ o = 2 then _ else if j = (ev ρ g).x.i ∧ o = 1 then _ else if j = (ev ρ g).x.i ∧ o = 0 then _ else _) = _
 simp [hj]
theorem te {g e k0 k1 k2 k3 k4 k5 : E} : ((ev ρ (fO g [k0, k1, k2, k3, k4, k5] e)).x.r (ev ρ g).x.i 6).i = aa ρ e := by
 show (if (ev ρ g).x.i = (ev ρ g).x.i ∧ (6 : Int) = 6 then (ev ρ e).x.y else _).i = _
 rw [if_pos ⟨rfl, rfl⟩]; rfl
theorem ql {g e k0 k1 k2 k3 k4 k5 : E} : dG (wi (ev ρ (fO g [k0, k1, k2, k3, k4, k5] e)).x (ev ρ g).x.i) = dG (ev ρ (aL [k0, k1, k2, k3, k4, k5])).l := by
 have h : ∀ o : Int, (ev ρ (fO g [k0, k1, k2, k3, k4, k5] e)).x.r (ev ρ g).x.i o = if o = 6 then (ev ρ e).x.y else if o = 5 then (ev ρ k5).x.y else if o = 4 then (ev ρ k4).x.y else if o = 3 then (ev ρ k3).x.y else if o = 2 then (ev ρ k2).x.y else if o = 1 then (ev ρ k1).x.y else if o = 0 then (ev ρ k0).x.y else (ev ρ g).x.r (ev ρ g).x.i o := fun o => by
  show (if (ev ρ g).x.i = (ev ρ g).x.i ∧ o = 6 then _ else if (ev ρ g).x.i = (ev ρ g).x.i ∧ o = 5 then _ else if (ev ρ g).x.i = (ev ρ g).x.i ∧ o = 4 then _ else if (ev ρ g).x.i = (ev ρ g).x.i ∧ o = 3 then _ else if (ev ρ g).x.i = (ev ρ g).x.i ∧ o = 2 then _ else if (ev ρ g).x.i = (ev ρ g).x.i ∧ o = 1 then _ else if (ev ρ g).x.i = (ev ρ g).x.i ∧ o = 0 then _ else _) = _
  simp only [true_and]
 simp only [wi, h]
 rfl
theorem Em {g e k0 k1 k2 k3 k4 k5 : E} {k : List Int} (h0 : 0 ≤ (ev ρ g).x.i) : kr (ev ρ (fO g [k0, k1, k2, k3, k4, k5] e)).x k = kr (ev ρ g).x k ++ if dG (ev ρ (aL [k0, k1, k2, k3, k4, k5])).l = k then [aa ρ e] else [] := by
 have hn : (ev ρ (fO g [k0, k1, k2, k3, k4, k5] e)).x.i.toNat = (ev ρ g).x.i.toNat + 1 := by rw [Hz]; omega
 have hl : (((ev ρ g).x.i.toNat : Nat) : Int) = (ev ρ g).x.i := by omega
 have jW : ∀ i : Nat, i ∈ List.range (ev ρ g).x.i.toNat → ∀ o : Int, (ev ρ (fO g [k0, k1, k2, k3, k4, k5] e)).x.r i o = (ev ρ g).x.r i o := fun i hi o => nk (by have := List.mem_range.1 hi; omega)
 unfold kr
 rw [hn, List.range_succ, List.filter_append, List.map_append]
 congr 1
 ·rw [List.filter_congr fun i hi => by rw [show wi (ev ρ (fO g [k0, k1, k2, k3, k4, k5] e)).x i = wi (ev ρ g).x i by simp only [wi, jW i hi]]]
  exact List.map_congr_left fun i hi => by rw [jW i (List.mem_filter.1 hi).1]
 ·by_cases hk : dG (ev ρ (aL [k0, k1, k2, k3, k4, k5])).l = k
  ·have hb : (dG (wi (ev ρ (fO g [k0, k1, k2, k3, k4, k5] e)).x ((ev ρ g).x.i.toNat : Nat)) == k) = true := by rw [hl, ql]; simpa using hk
   simp only [List.filter_cons, List.filter_nil]
   rw [if_pos hk, if_pos hb, List.map_cons, List.map_nil, hl, te]
  ·have hb : ¬ (dG (wi (ev ρ (fO g [k0, k1, k2, k3, k4, k5] e)).x ((ev ρ g).x.i.toNat : Nat)) == k) = true := by rw [hl, ql]; simpa using hk
   simp only [List.filter_cons, List.filter_nil]
   rw [if_neg hk, if_neg hb, List.map_nil]
theorem ir {A : Option Addr} {n c b : Nat} : (Value.slice A n c).ownBlock = some b ↔ bU (some (.slice A n c)) = some b := by
 cases A <;> rfl
def GL (B : Nat) (w : World) (arr : Array Value) (log : X) (j : Nat) : Prop :=
 ∃ A n c, arr[2 * j]? = some (.slice A n c) ∧ (∃ ky : List X, ky.length = 6 ∧ arr[2 * j + 1]? = some (lI ky) ∧ n = (kr log (dG ky)).length ∧ w.ownsRow B 3 1 (.slice A n c) n ((kr log (dG ky)).map (Value.int .i64)))
theorem Qm : ∃ ie zv, Tryz.prog.info? 3 = some ie ∧ ie.zero = some zv ∧ ie.size = 1 ∧ ie.bytes = 8 ∧ zv.cells.size = 1 := by
 have h : (Tryz.prog.info? 3).map (fun i => (i.zero, i.size, i.bytes)) = some (some (.int .i64 0), 1, 8) := by kernel_rfl
 obtain ⟨ie, h1, h2⟩ := Option.map_eq_some_iff.1 h
 simp only [Prod.mk.injEq] at h2
 exact ⟨ie, _, h1, h2.1, h2.2.1, h2.2.2, rfl⟩
theorem Nv : Tryz.prog.underlying 26 = some (.slice 3) := by kernel_rfl
theorem HA {rt ty tya : TypeId} {l la l2 : Nat} {g e k0 k1 k2 k3 k4 k5 : E} {lo hs : Int} {y : SV} {u v : Value}
 (hl : hp[l]? = some ⟨true, ty, .abs 2 [] (.cons g .nil)⟩) (hla : hp[la]? = some ⟨true, tya, .abs 1 [l] .nil⟩) (hn : nj hp 1 y = some (1, l2, [.int .i64 e lo hs])) (h1 : 0 ≤ lo) (h2 : hs ≤ 1000000)
 (hob : al ρ (.lt g (.ic 1000000)) = true) (hh : aB ρ B w0 ls hp w) (hu : RS ρ ls (.abs 4 [l] (aL [k0, k1, k2, k3, k4, k5])) u) (hv : RV ρ ls y v) :
 ∃ z w' ls', (Builtin.append_ #[26, 26] rt #[u, v]).run Tryz.prog w = .ok z w' ∧ Ext ls ls' ∧ aB ρ B w0 ls' (La hp l la ty tya g [k0, k1, k2, k3, k4, k5] e) w' ∧ RS ρ ls' (.abs 4 [hp.length] (aL [k0, k1, k2, k3, k4, k5])) z := by
 have hlt : (ev ρ g).x.i < 1000000 := of_decide_eq_true hob
 obtain ⟨A, n, c, rfl, e1, e2, e3⟩ := ux hl hh hu
 obtain ⟨uu, g1, arr, m, rfl, s1, s2, s3, sv, s4, s5, s6, s7⟩ := oZ hl hh
 obtain ⟨us, q1, q2⟩ := hu
 match us, q1, q2 with
 | [x], q1, q2 =>
 have := g1.symm.trans q1.1
 cases this
 obtain ⟨ad, cc, us, rfl, n1, n2, n3, n4⟩ := nm hn hh hv
 have hus : ∃ x, us = [x] ∧ x = .int .i64 (aa ρ e) ∧ lo ≤ aa ρ e ∧ aa ρ e ≤ hs := by
  match us, n1 with
  | [x], n1 => exact ⟨x, rfl, n1.1⟩
 obtain ⟨x, rfl, rfl, x1, x2⟩ := hus
 obtain ⟨ky, hky⟩ : ∃ ky, ky = (ev ρ (aL [k0, k1, k2, k3, k4, k5])).l := ⟨_, rfl⟩
 have hky6 : ky.length = 6 := by rw [hky]; rfl
 rw [← hky] at e1 e3 q2
 obtain ⟨ie, zv, i1, i2, i3, i4, i5⟩ := Qm
 obtain ⟨z, w', r1, r2, r3, _, r5⟩ := run_append_own_at (P := Tryz.prog) w B 26 rt 3 ie zv 1 8 Nv i1 i2 i3 i4 i5 (by omega) _ _ _ e3 ad 1 cc [.int .i64 (aa ρ e)] rfl n3 n4 (by simp only [maxLen]; omega) (by omega) hh.size
 obtain ⟨A', c2, rfl⟩ := eL r2
 have hll : l < hp.length := (List.getElem?_eq_some_iff.1 hl).1
 have hlal : la < hp.length := (List.getElem?_eq_some_iff.1 hla).1
 have hne : la ≠ l := fun h => by rw [h, hl] at hla; cases hla
 have hlsl : ls.length = hp.length := hh.len
 -- the new places
 obtain ⟨log', hlog⟩ : ∃ X, X = (ev ρ (fO g [k0, k1, k2, k3, k4, k5] e)).x := ⟨_, rfl⟩
 have hflt : ∀ k, kr log' k = kr (ev ρ g).x k ++ if dG ky = k then [aa ρ e] else [] := fun k => by rw [hlog, hky]; exact Em s2
 have hli : log'.i = (ev ρ g).x.i + 1 := by rw [hlog]; rfl
 have hval : ∀ i : Int, 0 ≤ i → i < log'.i → 0 ≤ (log'.r i 6).i ∧ (log'.r i 6).i ≤ 1000000 := fun i hi0 hi1 => by
  by_cases hi : i = (ev ρ g).x.i
  ·rw [hlog, hi, te]; omega
  ·rw [hlog, nk hi]; exact sv i hi0 (by omega)
 have hkyl : ∀ i : Nat, (i : Int) < log'.i → (i : Int) < (ev ρ g).x.i ∧ wi log' i = wi (ev ρ g).x i ∨ dG (wi log' i) = dG ky := fun i hi => by
  by_cases hi' : (i : Int) = (ev ρ g).x.i
  ·right; rw [hlog, hi', ql, hky]
  ·left
   refine ⟨by omega, ?_⟩
   rw [hlog]
   simp only [wi, nk hi']
 have hfresh : ∀ {b : Nat}, bU (some (Value.slice A' (n + 1) c2)) = some b → bU (some (Value.slice A n c)) = some b ∨ b = w.heap.size := fun {b} hb => by
  have hb := ir.2 hb
  rcases r5 with h | h
  ·left; exact ir.1 (by rw [← h]; exact hb)
  ·right; rw [h] at hb; exact (Option.some.inj hb).symm
 have hold : ∀ {j : Nat} {v : Value} {b : Nat}, j < m → arr[2 * j]? = some v → bU (some v) = some b → b < w.heap.size := fun {j v b} hj hv hb => by
  obtain ⟨A1, n1, c1, p1, ky1, _, _, _, p5⟩ := s4 j hj
  rw [hv] at p1
  cases p1
  exact (p5.lt b (ir.2 hb)).2
 have other : ∀ {j : Nat} {arr' : Array Value}, j < m → (∀ b, bU arr[2 * j]? = some b → (Value.slice A n c).ownBlock ≠ some b) → arr'[2 * j]? = arr[2 * j]? → arr'[2 * j + 1]? = arr[2 * j + 1]? → arr[2 * j + 1]? ≠ some (lI ky) → GL B w' arr' log' j := fun {j arr'} hj hb h1 h2 h3 => by
  obtain ⟨A1, n1, c1, p1, ky1, p0, p2, p3, p5⟩ := s4 j hj
  have hk : dG ky ≠ dG ky1 := fun h => h3 (by rw [p2, yE h])
  refine ⟨A1, n1, c1, h1.trans p1, ky1, p0, h2.trans p2, ?_, ?_⟩
  ·rw [hflt, if_neg hk, List.append_nil]; exact p3
  ·rw [hflt, if_neg hk, List.append_nil]
   refine p5.kept r3 ?_
   cases A1 with
   | none => exact .inl rfl
   | some a1 => exact .inr fun h => hb a1.block (by rw [p1]; rfl) h.symm
 -- the list of the key itself
 have own : w'.ownsRow B 3 1 (.slice A' (n + 1) c2) (n + 1) ((kr log' (dG ky)).map (Value.int .i64)) := by
  rw [hflt, if_pos rfl, List.map_append]; exact r2
 have ownn : n + 1 = (kr log' (dG ky)).length := by rw [hflt, if_pos rfl, List.length_append, e1]; rfl
 -- both ways
 have fin : ∀ (arr' : Array Value) (j0 m' : Nat), arr'.size = 2 * m' → j0 < m' → m ≤ m' → (∀ j, j < m' → j ≠ j0 → j < m ∧ arr'[2 * j]? = arr[2 * j]? ∧ arr'[2 * j + 1]? = arr[2 * j + 1]? ∧ arr[2 * j + 1]? ≠ some (lI ky)) → arr'[2 * j0]? = some (.slice A' (n + 1) c2) → arr'[2 * j0 + 1]? = some (lI ky) →
  (∀ j, j < m → j ≠ j0 → ∀ b, bU arr[2 * j]? = some b → (Value.slice A n c).ownBlock ≠ some b) → (∀ b, bU (some (Value.slice A n c)) = some b → eK (some (.agg arr)) b) → (∀ j, j < m → arr'[2 * j + 1]? = arr[2 * j + 1]?) → (m' = m ∨ (m' = m + 1 ∧ j0 = m)) →
  ∃ z w' ls', (Builtin.append_ #[26, 26] rt #[.slice A n c, .slice (some ad) 1 cc]).run Tryz.prog w = .ok z w' ∧ Ext ls ls' ∧ aB ρ B w0 ls' (La hp l la ty tya g [k0, k1, k2, k3, k4, k5] e) w' ∧ RS ρ ls' (.abs 4 [hp.length] (aL [k0, k1, k2, k3, k4, k5])) z := by
  intro arr' j0 m' f1 f2 f3 f4 f5 f6 f7 f8 f9 f10
  have hfam : s9 B w' (.agg arr') log' := by
   refine ⟨arr', m', rfl, f1, by omega, by omega, hval, fun j hj => ?_, fun j k hj hk hjk => ?_, fun i hi => ?_, fun j k b hj hk hb hb' => ?_⟩
   ·by_cases h : j = j0
    ·subst h; exact ⟨A', n + 1, c2, f5, ky, hky6, f6, ownn, own⟩
    ·obtain ⟨o1, o2, o3, o4⟩ := f4 j hj h
     exact other o1 (f7 j o1 h) o2 o3 o4
   ·by_cases h : j = j0 <;> by_cases h' : k = j0
    ·omega
    ·obtain ⟨o1, o2, o3, o4⟩ := f4 k hk h'
     rw [h, f6, o3] at hjk
     exact absurd hjk.symm o4
    ·obtain ⟨o1, o2, o3, o4⟩ := f4 j hj h
     rw [h', f6, o3] at hjk
     exact absurd hjk o4
    ·obtain ⟨o1, o2, o3, o4⟩ := f4 j hj h
     obtain ⟨o1', o2', o3', o4'⟩ := f4 k hk h'
     rw [o3, o3'] at hjk
     exact s5 j k o1 o1' hjk
   ·rcases hkyl i hi with ⟨h, h'⟩ | h
    ·obtain ⟨j, hj, hj'⟩ := s6 i h
     exact ⟨j, by omega, by rw [h', f9 j hj]; exact hj'⟩
    ·exact ⟨j0, f2, by rw [f6, yE h]⟩
   ·by_cases h : j = j0 <;> by_cases h' : k = j0
    ·omega
    ·obtain ⟨o1, o2, o3, o4⟩ := f4 k hk h'
     rw [h, f5] at hb
     rw [o2] at hb'
     rcases hfresh hb with hb | hb
     ·exact absurd (ir.2 hb) (f7 k o1 h' b hb')
     ·cases hv : arr[2 * k]? with
      | none => rw [hv] at hb'; cases hb'
      | some v => rw [hv] at hb'; have := hold o1 hv hb'; omega
    ·obtain ⟨o1, o2, o3, o4⟩ := f4 j hj h
     rw [h', f5] at hb'
     rw [o2] at hb
     rcases hfresh hb' with hb' | hb'
     ·exact absurd (ir.2 hb') (f7 j o1 h b hb)
     ·cases hv : arr[2 * j]? with
      | none => rw [hv] at hb; cases hb
      | some v => rw [hv] at hb; have := hold o1 hv hb; omega
    ·obtain ⟨o1, o2, o3, o4⟩ := f4 j hj h
     obtain ⟨o1', o2', o3', o4'⟩ := f4 k hk h'
     rw [o2] at hb
     rw [o2'] at hb'
     exact s7 j k b o1 o1' hb hb'
  have hG : aB ρ B w0 (ls ++ [.agg arr']) (hp.set l ⟨true, ty, .dead⟩ ++ [⟨true, ty, .abs 2 [] (.cons (fO g [k0, k1, k2, k3, k4, k5] e) .nil)⟩]) w' := by
   refine hh.En hl rfl g1 r3 (fun b hb => f8 b (ir.1 hb)) (fun b hb => ?_) ⟨.agg arr', [], by simp, trivial, rfl, ?_⟩
   ·obtain ⟨j, a0, mm, c0, hj, hbb⟩ := hb.mS
    have hj2 : j < 2 * m' := by rw [← f1]; exact (Array.getElem?_eq_some_iff.1 hj).1
    rcases Nat.mod_two_eq_zero_or_one j with ej | ej
    ·have ej' : 2 * (j / 2) = j := by omega
     by_cases h : j / 2 = j0
     ·rw [← ej', h, f5] at hj
      cases hj
      rcases hfresh (b := b) (by rw [← hbb]; rfl) with h | h
      ·exact .inl (f8 b h)
      ·exact .inr (by omega)
     ·obtain ⟨o1, o2, o3, o4⟩ := f4 (j / 2) (by omega) h
      rw [← ej', o2] at hj
      exact .inl (.inr ⟨arr, _, a0, mm, c0, rfl, hj, hbb⟩)
    ·have ej' : 2 * (j / 2) + 1 = j := by omega
     by_cases h : j / 2 = j0
     ·rw [← ej', h, f6] at hj
      cases hj
     ·obtain ⟨o1, o2, o3, o4⟩ := f4 (j / 2) (by omega) h
      rw [← ej', o3] at hj
      exact .inl (.inr ⟨arr, _, a0, mm, c0, rfl, hj, hbb⟩)
   ·rw [← hlog]; exact hfam
  have hlar : (hp.set l ⟨true, ty, .dead⟩ ++ [⟨true, ty, .abs 2 [] (.cons (fO g [k0, k1, k2, k3, k4, k5] e) .nil)⟩])[la]? = some ⟨true, tya, .abs 1 [l] .nil⟩ := by
   rw [List.getElem?_append_left (by rw [List.length_set]; exact hlal), List.getElem?_set_ne (Ne.symm hne)]; exact hla
  obtain ⟨v, vs, t1, t2, t3⟩ := hG.bA la _ hlar
  match vs, t2, t3 with
  | [u'], t2, t3 =>
  have t2' : (ls ++ [Value.agg arr'])[l]? = some u' := t2.1
  rw [List.getElem?_append_left (by omega), g1] at t2'
  cases t2'
  obtain ⟨_, L, arr0, es, clock, rfl, y2, y3, y4, y5, y6, y7⟩ := t3
  cases y2
  have hsz : arr.size = 2 * es.size := by
   rcases y5 with h | ⟨_, h, _⟩
   ·exact h
   ·exact absurd rfl h
  have hbl : eK (ls ++ [Value.agg arr'])[la]? L := by rw [t1]; exact .inl rfl
  refine ⟨_, w', ls ++ [.agg arr'], r1, Ext.snoc ls _, ?_, [.agg arr'], ⟨by rw [← hlsl]; simp, trivial⟩, .inl ⟨j0, by rw [← hky]; exact f6, f5⟩⟩
  refine hG.lY hlar rfl (aN (Below.refl _ _) none) (.inl rfl) ⟨_, [.agg arr'], t1, ⟨by rw [← hlsl]; simp, trivial⟩, rfl, L, arr', es, clock, rfl, rfl, y3, y4, ?_, .inr ⟨j0, by rw [← hky]; exact f6⟩, fun j x hx => ?_⟩
  ·rcases f10 with h | ⟨h, h'⟩
   ·left; omega
   ·right
    refine ⟨by omega, (fun h => by rw [← hky] at h; rw [h] at hky6; cases hky6), ?_⟩
    rw [show es.size = j0 by omega, ← hky]; exact f6
  ·obtain ⟨z1, z2⟩ := y7 j x hx
   have hjm : j < m := by
    have := (Array.getElem?_eq_some_iff.1 hx).1
    omega
   rw [f9 j hjm]
   refine ⟨z1, ?_⟩
   by_cases h : j = j0
   ·rintro (h' | h')
    ·have h' : (ev ρ (aL [k0, k1, k2, k3, k4, k5])).l = [] := h'
     rw [← hky] at h'; rw [h'] at hky6; cases hky6
    ·refine absurd ?_ h'
     have e9 := f9 j hjm
     rw [h, f6] at e9
     rw [h] at z1
     have e10 := e9.trans z1
     rw [← hky]
     exact (Option.some.inj e10).symm
   ·obtain ⟨o1, o2, o3, o4⟩ := f4 j (by omega) h
    exact fun _ => o2.trans (z2 (.inl rfl))
 rcases q2 with ⟨j0, q3, q4⟩ | ⟨q3, q4⟩
 ·have hj0 : j0 < m := by
   have := (Array.getElem?_eq_some_iff.1 q3).1
   omega
  have hs : ∀ i, i ≠ 2 * j0 → (arr.setIfInBounds (2 * j0) (.slice A' (n + 1) c2))[i]? = arr[i]? := fun i hi => Array.getElem?_setIfInBounds_ne (Ne.symm hi)
  refine fin (arr.setIfInBounds (2 * j0) (.slice A' (n + 1) c2)) j0 m (by simpa using s1) hj0 (Nat.le_refl _) (fun j hj hne => ⟨hj, hs _ (by omega), hs _ (by omega), fun h => hne (s5 j j0 hj hj0 (h.trans q3.symm))⟩) (Array.getElem?_setIfInBounds_self_of_lt (by omega)) (by rw [hs _ (by omega)]; exact q3) (fun j hj hne b hb hb' => hne (s7 j j0 b hj hj0 hb (by rw [q4]; exact ir.1 hb'))) (fun b hb => ?_) (fun j hj => hs _ (by omega)) (.inl rfl)
  cases A with
  | none => cases hb
  | some a1 => exact .inr ⟨arr, _, a1, n, c, rfl, q4, Option.some.inj hb⟩
 ·cases q4
  have hs : ∀ i, i < 2 * m → ((arr.push (.slice A' (0 + 1) c2)).push (lI ky))[i]? = arr[i]? := fun i hi => by
   rw [Array.getElem?_push, if_neg (by simp; omega), Array.getElem?_push, if_neg (by omega)]
  refine fin ((arr.push (.slice A' (0 + 1) c2)).push (lI ky)) m (m + 1) (by simp; omega) (Nat.lt_succ_self _) (Nat.le_succ _) (fun j hj hne => ⟨by omega, hs _ (by omega), hs _ (by omega), q3 j⟩) ?_ ?_ (fun j hj hne b hb hb' => by cases hb') (fun b hb => by cases hb) (fun j hj => hs _ (by omega)) (.inr ⟨rfl, rfl⟩)
  ·rw [Array.getElem?_push, if_neg (by simp; omega), Array.getElem?_push, if_pos (by omega)]
  ·rw [Array.getElem?_push, if_pos (by simp; omega)]
theorem B5 (l : List Int) : ∀ n, Instr.sameBits (n + 1) (kV l) (kV l) = true := fun n => by
 have h : ∀ (l : List Int) (m : Nat), ((l.map (Value.int .i64)).zip (l.map (Value.int .i64))).all (fun (x, y) => Instr.sameBits m x y) = true := fun l m => by
  induction l with
  | nil => rfl
  | cons a r ih =>
   simp only [List.map_cons, List.zip_cons_cons, List.all_cons, Bool.and_eq_true]
   refine ⟨?_, ih⟩
   cases m <;> simp [Instr.sameBits]
 show (((l.map (Value.int .i64)).toArray.size == (l.map (Value.int .i64)).toArray.size) && _) = true
 simp only [beq_self_eq_true, Bool.true_and]
 exact h l n
theorem yF {k : List Int} : (Instr.keyThatStays (kV k) (kV k)).run Tryz.prog w = .ok (kV k) w := by
 unfold Instr.keyThatStays
 rw [if_pos (B5 k 9999)]
 rfl
theorem HB {l l2 : Nat} {ty ty' : TypeId} {b' : Bool} {g ho A : E} {m x : Value} {ky : List X} (hl : hp[l]? = some ⟨true, ty, .abs 1 [l2] ho⟩) (hl2 : hp[l2]? = some ⟨b', ty', .abs 2 [] (.cons g .nil)⟩) (hho : (ev ρ ho).l = ky) (hA : (ev ρ A).l = ky) (hk : ky.length = 6)
 (hh : aB ρ B w0 ls hp w) (hm : RS ρ ls (.mp l) m) (hx : RS ρ ls (.abs 4 [l2] A) x) :
 ∃ w', (Instr.mapUpdate 62 m (lI ky) x).run Tryz.prog w = .ok () w' ∧ aB ρ B w0 ls (hp.set l ⟨true, ty, .abs 1 [l2] .nil⟩) w' := by
 obtain ⟨L, arr, rfl, h1, h2, h3, h4⟩ := Eh hl hl2 hh hm
 obtain ⟨L', arr', es, clock, e1, e2, hB, h5, h6, h8, h7⟩ := h3
 cases e1
 cases e2
 rw [hho] at h6 h7 h8
 have hne : ky ≠ [] := fun h => by rw [h] at hk; cases hk
 obtain ⟨jk, hjk⟩ : ∃ j : Nat, arr[2 * j + 1]? = some (lI ky) := h8.resolve_left hne
 obtain ⟨us, g1, g2⟩ := hx
 match us, g1, g2 with
 | [u], g1, g2 =>
 have := h2.symm.trans g1.1
 cases this
 rw [hA] at g2
 have hxj : arr[2 * jk]? = some x := by
  rcases g2 with ⟨j, q1, q2⟩ | ⟨q1, _⟩
  ·obtain ⟨_, mm, e, k1, _, _, _, k2, k3, _⟩ := h4
   cases e
   have hj : j < mm := by have := (Array.getElem?_eq_some_iff.1 q1).1; omega
   have hj' : jk < mm := by have := (Array.getElem?_eq_some_iff.1 hjk).1; omega
   rw [k3 jk j hj' hj (hjk.trans q1.symm)]; exact q2
  ·exact absurd hjk (q1 jk)
 obtain ⟨_, mm, e, k1, _, _, _, k2, k3, _⟩ := h4
 cases e
 have hlen : es.size ≤ mm := by omega
 have hjm : jk < mm := by have := (Array.getElem?_eq_some_iff.1 hjk).1; omega
 obtain ⟨fs, hu⟩ := Jj
 have hkeys : ∀ e ∈ es.toList, ∃ k' : List Int, k'.length = 6 ∧ e.key = kV k' := fun e he => by
  obtain ⟨j, hj, rfl⟩ := List.mem_iff_getElem.1 he
  have hj' : j < es.size := by simpa using hj
  obtain ⟨A, n, c, _, ky', q0, q1, _⟩ := k2 j (by omega)
  have := (h7 j _ (Array.getElem?_eq_getElem hj')).1
  rw [this] at q1
  injection q1 with q1
  exact ⟨dG ky', by simp [dG, q0], by simpa [eA] using q1⟩
 have hk' : (dG ky).length = 6 := by simp [dG, hk]
 have hL : L < w.heap.size := (Array.getElem?_eq_some_iff.1 h5).1
 have hbl : eK ls[l]? L := by rw [h1]; exact .inl rfl
 have last : ∀ (es' : Array MapEntry) (c' : Nat), arr.size = 2 * es'.size → (∀ (j : Nat) (e : MapEntry), es'[j]? = some e → arr[2 * j + 1]? = some e.key ∧ arr[2 * j]? = some e.val) → aB ρ B w0 ls (hp.set l ⟨true, ty, .abs 1 [l2] .nil⟩) { w with heap := w.heap.setIfInBounds L (.map es' c') } := fun es' c' f1 f2 =>
  hh.lY hl rfl (qm w L _) (.inr ⟨L, rfl, hbl⟩) ⟨_, [.agg arr], h1, ⟨h2, trivial⟩, rfl, L, arr, es', c', rfl, rfl, hB, uy hL, .inl f1, .inl rfl, fun j e he => ⟨(f2 j e he).1, fun _ => (f2 j e he).2⟩⟩
 rw [eA]
 rw [eA] at hjk
 rcases iq (w := w) hu Jk hk' es.toList hkeys with ⟨j, e, q1, q2, q3⟩ | ⟨q1, q2⟩
 ·have q1' : es[j]? = some e := by simpa using q1
  have hjs : j < es.size := (Array.getElem?_eq_some_iff.1 q1').1
  have hjj : j = jk := k3 j jk (by omega) hjm (by rw [(h7 j e q1').1, q2, hjk])
  have hsz : arr.size = 2 * es.size := by
   rcases h6 with h6 | ⟨h6, _, h9⟩
   ·exact h6
   ·have := k3 jk es.size hjm (by omega) (by rw [h9, hjk, eA])
    omega
  refine ⟨_, ?_, last (es.modify j fun e => { e with key := kV (dG ky), val := x }) clock (by simpa using hsz) fun i f hf => ?_⟩
  ·simp only [Instr.mapUpdate, Sem.run_bind, run_underlying Oe, Result.andThen_ok, getM h5, Ax hk', q3, q1', Option.map_some, Option.getD_some, q2, yF, Lb _ h5]
  ·by_cases hij : i = j
   ·subst hij
    have : f = { e with key := kV (dG ky), val := x } := by
     rw [Array.getElem?_modify, if_pos rfl, q1'] at hf
     exact (Option.some.inj hf).symm
    subst this
    exact ⟨by rw [hjj]; exact hjk, by rw [hjj]; exact hxj⟩
   ·rw [Array.getElem?_modify, if_neg (Ne.symm hij)] at hf
    obtain ⟨z1, z2⟩ := h7 i f hf
    refine ⟨z1, z2 (.inr fun h => hij ?_)⟩
    have his : i < es.size := (Array.getElem?_eq_some_iff.1 hf).1
    have := k3 i jk (by omega) hjm (by rw [z1, h, hjk, eA])
    omega
 ·have hsz : arr.size = 2 * es.size + 2 := by
   rcases h6 with h6 | ⟨h6, _, h9⟩
   ·have hjs : jk < es.size := by omega
    have e1 := Array.getElem?_eq_getElem hjs
    have := (h7 jk _ e1).1
    rw [hjk] at this
    exact absurd (Option.some.inj this).symm (q1 _ (by simp))
   ·exact h6
  have hje : jk = es.size := by
   rcases h6 with h6 | ⟨h6, _, h9⟩
   ·omega
   ·exact k3 jk es.size hjm (by omega) (by rw [h9, hjk, eA])
  refine ⟨_, ?_, last (es.push { key := kV (dG ky), val := x, born := clock }) (clock + 1) (by simp; omega) fun i f hf => ?_⟩
  ·simp only [Instr.mapUpdate, Sem.run_bind, run_underlying Oe, Result.andThen_ok, getM h5, Ax hk', q2, Lb _ h5]
  ·rw [Array.getElem?_push] at hf
   split at hf
   ·rename_i hi
    cases hf
    subst hi
    exact ⟨by rw [← hje]; exact hjk, by rw [← hje]; exact hxj⟩
   ·obtain ⟨z1, z2⟩ := h7 i f hf
    refine ⟨z1, z2 (.inr fun h => q1 f ?_ (by rw [h, eA]))⟩
    exact Array.mem_toList_iff.2 (Array.mem_of_getElem? hf)
theorem HC {l : Nat} {ty : TypeId} {R x0 x1 x2 : E} {m : Value} (hl : hp[l]? = some ⟨true, ty, .abs 3 [] (.cons R .nil)⟩) (hh : aB ρ B w0 ls hp w) (hm : RS ρ ls (.mp l) m) (hno : Db (ev ρ R).x (aa ρ x0) (aa ρ x1) (aa ρ x2) = false) (hlt : (ev ρ R).x.i < 1000000) :
 ∃ w', (Instr.mapUpdate 129 m (lI (ev ρ (aL [x0, x1, x2])).l) (.bool true)).run Tryz.prog w = .ok () w' ∧ aB ρ B w0 ls (hp.set l ⟨true, ty, .abs 3 [] (.cons (.eY (.dL (.dL (.dL R R (.ic 0) x0) R (.ic 1) x1) R (.ic 2) x2) (.add R (.ic 1))) .nil)⟩) w' := by
 obtain ⟨v, vs, h1, h2, h3⟩ := hh.bA l _ hl
 obtain ⟨L, m1, rfl⟩ := hm
 rw [h1] at m1
 cases m1
 match vs, h2, h3 with
 | [], _, h3 =>
 obtain ⟨L', es, clock, e1, hB, h5, h6, h7, h8, h9⟩ := h3.2
 cases e1
 obtain ⟨fs, hu⟩ := Ed
 have hkeys : ∀ e ∈ es.toList, ∃ k' : List Int, k'.length = 3 ∧ e.key = kV k' := fun e he => by
  obtain ⟨j, hj, rfl⟩ := List.mem_iff_getElem.1 he
  have hj' : j < es.size := by simpa using hj
  refine ⟨[((ev ρ R).x.r j 0).i, ((ev ρ R).x.r j 1).i, ((ev ρ R).x.r j 2).i], rfl, ?_⟩
  have := (h9 j _ (Array.getElem?_eq_getElem hj')).2
  rw [Array.getElem_toList]; exact this
 have hk' : (dG (ev ρ (aL [x0, x1, x2])).l).length = 3 := rfl
 have hL : L < w.heap.size := (Array.getElem?_eq_some_iff.1 h5).1
 have hbl : eK ls[l]? L := by rw [h1]; exact .inl rfl
 have hn : (Instr.findKey 23 (kV (dG (ev ρ (aL [x0, x1, x2])).l)) es.toList).run Tryz.prog w = .ok none w := by
  rcases iq (w := w) hu Ef hk' es.toList hkeys with ⟨j, e, q1, q2, q3⟩ | ⟨q1, q2⟩
  ·have q1' : es[j]? = some e := by simpa using q1
   have hlt' : j < es.size := (Array.getElem?_eq_some_iff.1 q1').1
   have e3 : kV [((ev ρ R).x.r j 0).i, ((ev ρ R).x.r j 1).i, ((ev ρ R).x.r j 2).i] = kV [aa ρ x0, aa ρ x1, aa ρ x2] := (h9 j e q1').2.symm.trans q2
   have := yD e3
   simp only [List.cons.injEq] at this
   have hb : Db (ev ρ R).x (aa ρ x0) (aa ρ x1) (aa ρ x2) = true := List.any_eq_true.2 ⟨j, List.mem_range.2 (by omega), by simp [this]⟩
   rw [hno] at hb; cases hb
  ·exact q2
 rw [eA]
 refine ⟨{ w with heap := w.heap.setIfInBounds L (.map (es.push { key := kV (dG (ev ρ (aL [x0, x1, x2])).l), val := .bool true, born := clock }) (clock + 1)) }, ?_, hh.lY hl rfl (qm w L _) (.inr ⟨L, rfl, hbl⟩) ⟨_, [], h1, trivial, rfl, L, _, _, rfl, hB, uy hL, ?_, ?_, ?_, fun j e he => ?_⟩⟩
 ·simp only [Instr.mapUpdate, Sem.run_bind, run_underlying Ee, Result.andThen_ok, getM h5, Ql hk', hn, Lb _ h5]
 ·show 0 ≤ (ev ρ R).x.i + 1
  omega
 ·show (ev ρ R).x.i + 1 ≤ 1000000
  omega
 ·show (es.push _).size = ((ev ρ R).x.i + 1).toNat
  rw [Array.size_push]; omega
 ·have hr : ∀ (i o : Int), (ev ρ (.eY (.dL (.dL (.dL R R (.ic 0) x0) R (.ic 1) x1) R (.ic 2) x2) (.add R (.ic 1)))).x.r i o = if i = (ev ρ R).x.i ∧ o = 2 then (ev ρ x2).x.y else if i = (ev ρ R).x.i ∧ o = 1 then (ev ρ x1).x.y else if i = (ev ρ R).x.i ∧ o = 0 then (ev ρ x0).x.y else (ev ρ R).x.r i o := fun i o => rfl
  rw [Array.getElem?_push] at he
  split at he
  ·rename_i hj
   cases he
   refine ⟨rfl, ?_⟩
   have hj' : (j : Int) = (ev ρ R).x.i := by omega
   unfold Qn
   simp only [hr, hj']
   rfl
  ·rename_i hj
   obtain ⟨z1, z2⟩ := h9 j e he
   refine ⟨z1, z2.trans ?_⟩
   have hj' : (j : Int) ≠ (ev ρ R).x.i := by omega
   unfold Qn
   simp only [hr, hj', false_and, if_false]
theorem gH : (ev ρ (.eY (.bE 1 .nil) (.ic 0))).x.i = 0 := rfl
theorem HD {t : TypeId} (hh : aB ρ B w0 ls hp w) :
 ∃ z w' ls', (Instr.makeMap t none).run Tryz.prog w = .ok z w' ∧ Ext ls ls' ∧ aB ρ B w0 ls' (hp ++ [⟨true, 0, .abs 2 [] (.cons (.eY (.bE 1 .nil) (.ic 0)) .nil)⟩] ++ [⟨true, 0, .abs 1 [hp.length] .nil⟩]) w' ∧ RS ρ ls' (.mp (hp.length + 1)) z := by
 have hl : ls.length = hp.length := hh.len
 have h1 : aB ρ B w0 (ls ++ [.agg #[]]) (hp ++ [⟨true, 0, .abs 2 [] (.cons (.eY (.bE 1 .nil) (.ic 0)) .nil)⟩]) w := by
  refine hh.push (aN (Below.refl _ _) none) ⟨.agg #[], [], by simp, trivial, rfl, #[], 0, rfl, rfl, ?_, ?_, fun i h0 h1 => ?_, (fun j h => absurd h (Nat.not_lt_zero _)), (fun j k h => absurd h (Nat.not_lt_zero _)), fun i h => ?_, (fun j k b h => absurd h (Nat.not_lt_zero _))⟩ (fun b hb => ?_)
  ·rw [gH]; omega
  ·rw [gH]; omega
  ·rw [gH] at h1; omega
  ·rw [gH] at h; omega
  ·obtain ⟨j, a, n, c, e, _⟩ := hb.agg
   cases e
 have h2 := h1.push (World.grownBy_alloc w (.map #[] 0) none) (v := .pointer (some ⟨w.heap.size, 0, none⟩)) (x := ⟨true, 0, .abs 1 [hp.length] .nil⟩) ⟨_, [.agg #[]], by simp, ⟨by rw [← hl]; simp, trivial⟩, rfl, w.heap.size, #[], #[], 0, rfl, rfl, hh.size, heap_alloc_new w _, .inl rfl, .inl rfl, fun j e he => by simp at he⟩ (fun b hb => by cases hb.ptr; exact Nat.le_refl _)
 refine ⟨.map (some w.heap.size), w.alloc (.map #[] 0), _, by simp only [Instr.makeMap, Sem.run_bind, Sem.run_pure, Result.andThen_ok, run_newObj]; rfl, (Ext.snoc ls _).trans (Ext.snoc _ _), h2, ⟨w.heap.size, ?_, rfl⟩⟩
 rw [← hl, show ls.length + 1 = (ls ++ [Value.agg #[]]).length by simp]
 simp
theorem HF {t : TypeId} (hh : aB ρ B w0 ls hp w) :
 ∃ z w' ls', (Instr.makeMap t none).run Tryz.prog w = .ok z w' ∧ Ext ls ls' ∧ aB ρ B w0 ls' (hp ++ [⟨true, 0, .abs 3 [] (.cons (.eY (.bE 1 .nil) (.ic 0)) .nil)⟩]) w' ∧ RS ρ ls' (.mp hp.length) z := by
 have hl : ls.length = hp.length := hh.len
 refine ⟨.map (some w.heap.size), w.alloc (.map #[] 0), ls ++ [.pointer (some ⟨w.heap.size, 0, none⟩)], by simp only [Instr.makeMap, Sem.run_bind, Sem.run_pure, Result.andThen_ok, run_newObj]; rfl, Ext.snoc ls _, hh.push (World.grownBy_alloc w _ none) ⟨_, [], by simp, trivial, rfl, w.heap.size, #[], 0, rfl, hh.size, heap_alloc_new w _, ?_, ?_, rfl, fun j e he => by simp at he⟩ (fun b hb => by cases hb.ptr; exact Nat.le_refl _), ⟨w.heap.size, by rw [← hl]; simp, rfl⟩⟩
 ·rw [gH]; omega
 ·rw [gH]; omega
theorem B7 {x : Operand} (h : isTrue (cA tm G x) = true) (hr : aX ρ ls tm a) (hG : al ρ G = true) : a.eval x = .bool true := by
 unfold isTrue at h
 split at h
 ·rename_i e
  exact aj e hr hG
 ·rename_i e
  exact aj e hr hG
 ·cases h
theorem AA {x' : Nat → X} {k' : Nat → Option Loop} {ob : Gh} {t : TypeId} {m k x : Operand} {s : SV} {hp' : SH} {ow : Ow} (h : B4 Tryz.prog tm hp G t m k x = some (s, hp', ow)) (hw : ow.Ok (ρ0.sw x' k' ob)) (hr : aX (ρ0.sw x' k' ob) ls tm a) (hG : al (ρ0.sw x' k' ob) G = true) (hh : aB (ρ0.sw x' k' ob) B w0 ls hp w) :
 ∃ w', (Instr.mapUpdate t (a.eval m) (a.eval k) (a.eval x)).run Tryz.prog w = .ok () w' ∧ aB (ρ0.sw x' k' ob) B w0 ls hp' w' ∧ s = .c .kW := by
 obtain ⟨ρ', hρ⟩ : ∃ ρ', ρ' = ρ0.sw x' k' ob := ⟨_, rfl⟩
 have hf : ρ'.f = Ff := by rw [hρ]; rfl
 rw [← hρ] at hw hr hG hh ⊢
 unfold B4 at h
 split at h
 ·rename_i l cs hm hk
  obtain ⟨vs, hvs, hcs⟩ := aj hk hr hG
  split at h
  ·rename_i ty l2 ho es hl he
   split at h
   ·rename_i g l3 A hl2 hx
    split at h
    ·rename_i hc
     obtain ⟨rfl, hlen, rfl, e1, e2⟩ := hc
     cases h
     obtain ⟨h1, h2⟩ := jr he hcs
     have e1 := aG e1
     have e2 := aG e2
     obtain ⟨w', q1, q2⟩ := HB (ky := (ev ρ' (aL es)).l) hl hl2 (by rw [← e1, e2]) (by rw [e2]) (by rw [bM]; simpa [aM] using hlen) hh (aj hm hr hG) (aj hx hr hG)
     exact ⟨w', by rw [hvs, h1]; exact q1, q2, rfl⟩
    ·cases h
   ·cases h
  ·rename_i ty R x0 x1 x2 hl he
   split at h
   ·rename_i hc
    obtain ⟨rfl, ht⟩ := hc
    cases h
    obtain ⟨h1, h2⟩ := jr he hcs
    have o1 := hw.1 (bp (.app 991 (.cons R (aL [x0, x1, x2])))) (by simp)
    have o2 : (ev ρ' R).x.i < 1000000 := of_decide_eq_true (hw.1 (.lt R (.ic 1000000)) (by simp))
    have q : al ρ' (bp (.app 991 (.cons R (aL [x0, x1, x2])))) = !al ρ' (.app 991 (.cons R (aL [x0, x1, x2]))) := bV ρ' _
    rw [q, Bool.not_eq_true'] at o1
    have e : al ρ' (.app 991 (.cons R (aL [x0, x1, x2]))) = Db (ev ρ' R).x (aa ρ' x0) (aa ρ' x1) (aa ρ' x2) := by
     show (ρ'.f 991 [(ev ρ' R).x, (ev ρ' x0).x, (ev ρ' x1).x, (ev ρ' x2).x]).b = _
     rw [hf]; rfl
    rw [e] at o1
    obtain ⟨w', q1, q2⟩ := HC hl hh (aj hm hr hG) o1 o2
    exact ⟨w', by rw [hvs, h1, B7 ht hr hG]; exact q1, q2, rfl⟩
   ·cases h
  ·cases h
 ·cases h
theorem HG {P : Program} {K : Value → World → Prop} {dst : Option Tmp} {ty t : TypeId} {pos : String} {after : Array Edge} {guard : Option (Nat × Bool)} {m k x : Operand} (h : ∃ w', (Instr.mapUpdate t (a.eval m) (a.eval k) (a.eval x)).run P w = .ok () w' ∧ K undef w') :
 gy P K ((execOp a.eval ⟨dst, .mapUpdate t m k x, ty, pos, after, guard⟩).run P w) := by
 obtain ⟨w', q1, q2⟩ := h
 have hrun : (execOp a.eval ⟨dst, .mapUpdate t m k x, ty, pos, after, guard⟩).run P w = .ok .skip w' := by
  simp only [execOp, Sem.run_bind, q1, Result.andThen_ok, Sem.run_pure]
 rw [hrun]
 exact q2
theorem HH {P : Program} {K : Value → World → Prop} {dst : Option Tmp} {ty t : TypeId} {pos : String} {after : Array Edge} {guard : Option (Nat × Bool)} {m k x : Operand} (h : ∃ w', (Instr.mapUpdate t (a.eval m) (a.eval k) (a.eval x)).run P w = .ok () w' ∧ K undef w') :
 gy P K ((execOp a.eval ⟨dst, .insert t m k x, ty, pos, after, guard⟩).run P w) := by
 obtain ⟨w', q1, q2⟩ := h
 have hrun : (execOp a.eval ⟨dst, .insert t m k x, ty, pos, after, guard⟩).run P w = .ok .skip w' := by
  simp only [execOp, Sem.run_bind, q1, Result.andThen_ok, Sem.run_pure]
 rw [hrun]
 exact q2
theorem HI {P : Program} (hP : P = Tryz.prog) {x' : Nat → X} {k' : Nat → Option Loop} {ob : Gh} {dst : Option Tmp} {ty t : TypeId} {pos : String} {after : Array Edge} {guard : Option (Nat × Bool)} {m k x : Operand} {s : SV} {hp' : SH} {ow : Ow} (h : B4 P tm hp G t m k x = some (s, hp', ow)) (hw : ow.Ok (ρ0.sw x' k' ob)) (hr : aX (ρ0.sw x' k' ob) ls tm a) (hG : al (ρ0.sw x' k' ob) G = true) (hh : aB (ρ0.sw x' k' ob) B w0 ls hp w) :
 gy P (fun z w' => ∃ ls', Ext ls ls' ∧ aB (ρ0.sw x' k' ob) B w0 ls' hp' w' ∧ RV (ρ0.sw x' k' ob) ls' s z) ((execOp a.eval ⟨dst, .mapUpdate t m k x, ty, pos, after, guard⟩).run P w) :=
 HG ((AA (by rw [← hP]; exact h) hw hr hG hh).imp fun w' hq => ⟨by rw [hP]; exact hq.1, ls, Ext.refl _, hq.2.1, by rw [hq.2.2]; trivial⟩)
theorem HJ {P : Program} (hP : P = Tryz.prog) {x' : Nat → X} {k' : Nat → Option Loop} {ob : Gh} {dst : Option Tmp} {ty t : TypeId} {pos : String} {after : Array Edge} {guard : Option (Nat × Bool)} {m k x : Operand} {s : SV} {hp' : SH} {ow : Ow} (h : B4 P tm hp G t m k x = some (s, hp', ow)) (hw : ow.Ok (ρ0.sw x' k' ob)) (hr : aX (ρ0.sw x' k' ob) ls tm a) (hG : al (ρ0.sw x' k' ob) G = true) (hh : aB (ρ0.sw x' k' ob) B w0 ls hp w) :
 gy P (fun z w' => ∃ ls', Ext ls ls' ∧ aB (ρ0.sw x' k' ob) B w0 ls' hp' w' ∧ RV (ρ0.sw x' k' ob) ls' s z) ((execOp a.eval ⟨dst, .insert t m k x, ty, pos, after, guard⟩).run P w) :=
 HH ((AA (by rw [← hP]; exact h) hw hr hG hh).imp fun w' hq => ⟨by rw [hP]; exact hq.1, ls, Ext.refl _, hq.2.1, by rw [hq.2.2]; trivial⟩)
theorem HL {P : Program} (hP : P = Tryz.prog) {x' : Nat → X} {k' : Nat → Option Loop} {ob : Gh} {o : Oper} {s : SV} {hp' : SH} {ow : Ow} (h : ij P tm hp G o = some (s, hp', ow)) (hw : ow.Ok (ρ0.sw x' k' ob)) (hr : aX (ρ0.sw x' k' ob) ls tm a) (hG : al (ρ0.sw x' k' ob) G = true) (hh : aB (ρ0.sw x' k' ob) B w0 ls hp w) :
 gy P (fun z w' => ∃ ls', Ext ls ls' ∧ aB (ρ0.sw x' k' ob) B w0 ls' hp' w' ∧ RV (ρ0.sw x' k' ob) ls' s z) ((execOp a.eval o).run P w) := by
 obtain ⟨dst, op, ty, pos, after, guard⟩ := o
 unfold ij at h
 simp only at h
 split at h
 ·rename_i t
  split at h
  ·cases h
   obtain ⟨z, w', ls', q1, q0, q2, q3⟩ := HD (t := t) hh
   rw [← hP] at q1
   have hrun : (execOp a.eval ⟨dst, .makeMap t none, ty, pos, after, guard⟩).run P w = .ok (.value z) w' := by
    simp only [execOp, Option.map_none, Sem.run_bind, q1, Result.andThen_ok, Sem.run_pure]
   rw [hrun]
   exact ⟨_, q0, q2, q3⟩
  ·split at h
   ·cases h
    obtain ⟨z, w', ls', q1, q0, q2, q3⟩ := HF (t := t) hh
    rw [← hP] at q1
    have hrun : (execOp a.eval ⟨dst, .makeMap t none, ty, pos, after, guard⟩).run P w = .ok (.value z) w' := by
     simp only [execOp, Option.map_none, Sem.run_bind, q1, Result.andThen_ok, Sem.run_pure]
    rw [hrun]
    exact ⟨_, q0, q2, q3⟩
   ·cases h
 ·rename_i args argTypes
  split at h
  ·rename_i x y t t' hargs hts
   split at h
   ·rename_i he
    obtain ⟨rfl, rfl⟩ := he
    split at h
    ·rename_i l k0 k1 k2 k3 k4 k5 v' hu hv
     split at h
     ·rename_i ty0 g la l2 e lo hs hl hla hn
      split at h
      ·rename_i _ tya _ hla'
       split at h
       ·rename_i hc
        cases h
        obtain ⟨_, tyb, hlb⟩ := wC hla
        rw [Nat.sub_zero] at hlb
        rw [hlb] at hla'
        cases hla'
        obtain ⟨z, w', ls', p2, p3, p4, p5⟩ := HA (rt := ty) hl hlb hn hc.1 hc.2 (hw.1 _ (List.mem_cons_self ..)) hh (aj hu hr hG) (aj hv hr hG)
        rw [← hP] at p2
        have ea : args = #[x, y] := by rw [show args = args.toList.toArray by simp, hargs]
        have et : argTypes = #[26, 26] := by rw [show argTypes = argTypes.toList.toArray by simp, hts]
        have hrun : (execOp a.eval ⟨dst, .call { callee := .builtin .append, args, argTypes }, ty, pos, after, guard⟩).run P w = .ok (.value z) w' := by
         simp only [execOp, resolve, invoke, builtin, ea, et, Sem.run_bind, Sem.run_pure, Result.andThen_ok, List.map_toArray, List.map_cons, List.map_nil, p2]
        rw [hrun]
        exact ⟨ls', p3, p4, p5⟩
       ·cases h
      ·cases h
     ·cases h
    ·cases h
   ·cases h
  ·cases h
 ·exact HI hP h hw hr hG hh
 ·exact HJ hP h hw hr hG hh
 ·cases h
end
end Vc
end Go.Proofs.YtpmfkelglmgddaaGreatDoor
namespace Go.Proofs.YtpmfkelglmgddaaGreatDoor
namespace Vc
open Go Go.RowKit
set_option linter.unusedVariables false
abbrev ku := Program → aw → SH → E → Oper → Option (SV × SH × Ow)
def fp (P : Program) (ee : ku) : Prop := ∀ (x : Nat → X) (k : Nat → Option Loop) (ob : Gh) (tm : aw) (hp : SH) (G : E) (o : Oper) (s : SV) (hp' : SH) (ow : Ow), ee P tm hp G o = some (s, hp', ow) → ∀ (B : Nat) (w0 w : World) (ls : Ls) (a : Act), ow.Ok (ρ0.sw x k ob) → aX (ρ0.sw x k ob) ls tm a → al (ρ0.sw x k ob) G = true → aB (ρ0.sw x k ob) B w0 ls hp w →
 gy P (fun z w' => ∃ ls', Ext ls ls' ∧ aB (ρ0.sw x k ob) B w0 ls' hp' w' ∧ RV (ρ0.sw x k ob) ls' s z) ((execOp a.eval o).run P w)
theorem vZ : fp Tryz.prog ij := fun x k ob tm hp G o s hp' ow h B w0 w ls a hw hr hG hh => HL rfl h hw hr hG hh
def Kz (a b : ku) : ku := fun P tm hp G o => match a P tm hp G o with
 | some r => some r
 | none => b P tm hp G o
theorem Pm {P : Program} {a b : ku} (ha : fp P a) (hb : fp P b) : fp P (Kz a b) := fun x k ob tm hp G o s hp' ow h => by
 unfold Kz at h
 split at h
 ·rename_i r hr
  cases h
  exact ha x k ob tm hp G o s hp' ow hr
 ·exact hb x k ob tm hp G o s hp' ow h
noncomputable def ui (ee : ku) (F : Option (Nat → List X → X)) (cs : List kq) (rs : List br) (ls : List ba) (sm : List FuncId) : a8 := { gx F cs rs ls sm with mX := Qj Tryz.prog, mY := ee Tryz.prog }
theorem ib {ee : ku} {F : Option (Nat → List X → X)} {cs : List kq} {rs : List br} {ls : List ba} {sm : List FuncId} (hx : fp Tryz.prog ee) (h : nS cs) (hr : lV rs) (hF : ∀ G, F = some G → G = Ff) : aP Tryz.prog ρ0 (ui ee F cs rs ls sm) where
 eq := gz (by kernel_rfl)
 bL := rfl
 F := hF
 mixed := by kernel_rfl
 fns := JS.look
 pK := fun c hc => (h c (by simpa [ui, gx, Mv] using hc)).1
 fn := fun c hc => (h c (by simpa [ui, gx, Mv] using hc)).2
 mW := hr
 mX := fun x k ob tm hp G o s ow h B w0 w ls a hw hr hG hh => by
  obtain ⟨z, q1, q2⟩ := K9 h hw hr hG hh
  rw [q1]
  exact ⟨rfl, q2⟩
 mY := hx
noncomputable def JP (sp : List (List Nat × Nat)) (ee : ku) (F : Option (Nat → List X → X)) (cs : List kq) (rs : List br) (ls : List ba) (sm : List FuncId) : a8 := { ui ee F cs rs ls sm with Rc := sp }
theorem yb {sp : List (List Nat × Nat)} {ee : ku} {F : Option (Nat → List X → X)} {cs : List kq} {rs : List br} {ls : List ba} {sm : List FuncId} (hx : fp Tryz.prog ee) (h : nS cs) (hr : lV rs) (hF : ∀ G, F = some G → G = Ff) : aP Tryz.prog ρ0 (JP sp ee F cs rs ls sm) :=
 have q := ib (ls := ls) (sm := sm) hx h hr hF
 ⟨q.eq, q.bL, q.F, q.mixed, q.fns, q.pK, q.fn, q.mW, q.pb, q.mX, q.mY⟩
end Vc
end Go.Proofs.YtpmfkelglmgddaaGreatDoor
