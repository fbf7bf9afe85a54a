/- A method of an interface whose type is known: called. -/
import Derived.Test.YtpmfkelglmgddaaGreatDoorTcBC
import Derived.Test.YtpmfkelglmgddaaGreatDoorTcK
namespace Go.Proofs.YtpmfkelglmgddaaGreatDoor
namespace Vc
open Go Go.RowKit
set_option linter.unusedVariables false
def N8 : a8 := Mv [] none [] [] [] []
def wa : ku := fun P tm hp G o => match o.op with
 | .call { callee := .invoke x m, args, .. } => if m = "Cell" then (match cA tm G x, kS tm G args.toList with
  | some (.c s), some [v] => (match N9 s with
   | some cs => (match iQ hp ig.args [.agg cs, v] with
    | some (es, bg) => some ((ei N8 ig es hp.length).1, hp, ⟨bg, lQ N8 ig.pre es⟩)
    | none => none)
   | none => none)
  | _, _ => none) else none
 | _ => none
theorem M1 (v p : Value) (w : World) : (callMethod (.iface 46 v) "Cell" #[p]).run Tryz.prog w = .ok (.enter 130 #[v, p]) w := by kernel_rfl
section
variable {P : Program} (hP : P = Tryz.prog)
include hP
theorem DP : fp P wa := fun x k ob tm hp G o s hp' ow h B w0 w ls a hw hr hG hh => by
 obtain ⟨dst, op, ty, pos, after, guard⟩ := o
 unfold wa at h
 simp only at h
 split at h
 ·rename_i rc m args at_
  split at h
  ·rename_i hm
   subst hm
   split at h
   ·rename_i s0 v0 hx hvs
    split at h
    ·rename_i cs hu
     split at h
     ·rename_i es bg ha
      cases h
      obtain ⟨us, e1, e2⟩ := DQ hu (aj hx hr hG)
      have q := b8 hr hG hvs
      obtain ⟨pv, hpv⟩ : ∃ pv, args.toList.map a.eval = [pv] := by
       generalize args.toList.map a.eval = l2 at q
       match l2, q with
       | [u], _ => exact ⟨u, rfl⟩
      rw [hpv] at q
      have hargs := dU hh ha hw.1 (vs := [.agg us.toArray, pv]) ⟨⟨us, rfl, e2⟩, q⟩
      have e : args.map a.eval = #[pv] := by rw [← Array.toList_map] at hpv; exact Array.ext' hpv
      have hrun : (execOp a.eval ⟨dst, .call { callee := .invoke rc "Cell", args, argTypes := at_ }, ty, pos, after, guard⟩).run P w = .ok (.enter 130 #[.agg us.toArray, pv]) w := by
       have := M1 (.agg us.toArray) pv w
       rw [← hP] at this
       simp only [execOp, resolve, Sem.run_bind, Sem.run_pure, Result.andThen_ok, invoke, e, e1]
       exact this
      rw [hrun]
      have hpre : (ρ0.sw x k ob).p 710 (aM (ρ0.sw x k ob) es) := gD (ρ := ρ0.sw x k ob) (cf := N8) (pre := some 710) (fun k ds e => by cases e) hw.2
      have hcall := (Kx (aM (ρ0.sw x k ob) es) [.agg us.toArray, pv] w (hh.cS.up hh.size) hargs hpre)
      rw [← hP] at hcall
      refine hcall.mono fun e w' ⟨z, g1, g2, g3⟩ => ⟨z, g1, ls, Ext.refl _, hh.calls g3, ?_⟩
      obtain ⟨u, ⟨q0, q1, q2, q3, q4⟩⟩ := lR (ρ := ρ0.sw x k ob) (cf := N8) (fun F e => by cases e) g2 (by decide)
      exact q2 ls hp.length (fun e => (e (by unfold ei; split <;> rfl)).elim)
     ·cases h
    ·cases h
   ·cases h
  ·cases h
 ·cases h
end
theorem M4 : fp Tryz.prog wa := DP rfl
end Vc
end Go.Proofs.YtpmfkelglmgddaaGreatDoor
namespace Go.Proofs.YtpmfkelglmgddaaGreatDoor
namespace Vc
open Go Go.RowKit
set_option linter.unusedVariables false
def DR : List ba := [⟨[0, 28], 20, [(.tmp 12, 0, 512)], [(.cell 9 1, 23, wb, 512), (.cell 6 0, 23, wb, 10000), (.own 8, 0, [.bool], 0)], BV 11, 975, 924⟩,
 ⟨[0, 59], 30, [(.tmp 10, 0, 6)], [(.cell 9 1, 23, wb, 512), (.cell 6 0, 23, wb, 10000), (.own 8, 0, [.bool], 0)], BV 11 ++ [.ex (.var 20), .part 1 0, .part 1 1, .part 1 2], 976, 926⟩,
 ⟨[0, 61], 40, [(.tmp 8, 0, 512)], [], [.ex (.var 21), .ex (.var 11), .ex (.var 12), .ex (.var 13)], 977, 927⟩]
end Vc
end Go.Proofs.YtpmfkelglmgddaaGreatDoor
