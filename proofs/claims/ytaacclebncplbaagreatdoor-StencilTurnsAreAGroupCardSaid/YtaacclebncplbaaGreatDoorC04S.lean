/- Layer 4: Invert, Mirror and Name, at each of the 48 symmetries. -/
import Derived.Test.YtaacclebncplbaaGreatDoorC04Q
namespace Go.Proofs.YtaacclebncplbaaGreatDoor
namespace Vc
open Go Go.RowKit
set_option linter.unusedVariables false
theorem oneOf {cf : Cfg} (hcf : CfgOk Tryz.prog ρ0 cf) {c : Ctr} {fn : Func} (hf : Tryz.prog.funcs[c.f]? = some fn) (hb : fn.body = some (bodyC fn)) (n : Nat) (hA : c.args = [.one I64]) (out : Fm → Bool) (good : Nat → Fm → Bool)
 (ho : ∀ (ρ : Env) (d : X) (F : Fm), ¬ inT d.i → out F = true → F.ctr ρ (fun j => Ff j [d]) c.fs c.res)
 (hg : ∀ (ρ : Env) (d : X) (s : Nat) (F : Fm), s < 48 → d.i = s → good s F = true → F.ctr ρ (fun j => Ff j [d]) c.fs c.res)
 (w1 : out (walkF Tryz.prog cf fn n (shS [.one (IR (-9223372036854775808) (-1))] 0)) = true) (w2 : out (walkF Tryz.prog cf fn n (shS [.one (IR 48 9223372036854775807)] 0)) = true)
 (w3 : ((List.range 48).all fun s => good s (walkF Tryz.prog cf fn n (shS [.one (IR s s)] 0))) = true) : CtrOk Tryz.prog ρ0 c := by
 refine split48 (sh := []) hA ?_ ?_ fun s hs => ?_
 ·refine ctr_of hcf hf hb n fun ds hr => ?_
  match ds, hr with
  | [d], hr =>
   obtain ⟨⟨⟨_, l, u⟩, _⟩, _⟩ := hr
   have u : d.i ≤ -1 := u
   exact ho _ d _ (by unfold inT; omega) w1
 ·refine ctr_of hcf hf hb n fun ds hr => ?_
  match ds, hr with
  | [d], hr =>
   obtain ⟨⟨⟨_, l, u⟩, _⟩, _⟩ := hr
   have l : 48 ≤ d.i := l
   exact ho _ d _ (by unfold inT; omega) w2
 ·refine ctr_of hcf hf hb n fun ds hr => ?_
  match ds, hr with
  | [d], hr =>
   obtain ⟨⟨⟨_, l, u⟩, _⟩, _⟩ := hr
   exact hg _ d s _ hs (Int.le_antisymm u l) (List.all_eq_true.1 w3 s (by simpa using hs))
theorem iv_rng (s : Nat) (hs : s < 48) : -1 ≤ ivB s ∧ ivB s ≤ 47 := by
 have : ((List.range 48).all fun s => decide (-1 ≤ ivB (s : Nat) ∧ ivB (s : Nat) ≤ 47)) = true := by decide +kernel
 exact of_decide_eq_true (List.all_eq_true.1 this s (by simpa using hs))
theorem iv_o (ρ : Env) (d : X) (F : Fm) (h : ¬ inT d.i) (hF : chkI (-1) F = true) : F.ctr ρ (fun j => Ff j [d]) 311 (.one (IR (-1) 47)) :=
 chkI_ok hF (by rw [F311, xI_i]; unfold ivB; rw [if_neg h]; omega)
theorem iv_g (ρ : Env) (d : X) (s : Nat) (F : Fm) (hs : s < 48) (h : d.i = s) (hF : chkI (ivB s) F = true) : F.ctr ρ (fun j => Ff j [d]) 311 (.one (IR (-1) 47)) :=
 chkI_ok hF (by rw [F311, xI_i, h]; exact ⟨rfl, iv_rng s hs⟩)
theorem mr_o (ρ : Env) (d : X) (F : Fm) (h : ¬ inT d.i) (hF : chkB false F = true) : F.ctr ρ (fun j => Ff j [d]) 312 (.one .bool) :=
 chkB_ok hF (by rw [F312, xB_b]; unfold mrB; exact if_neg h)
theorem mr_g (ρ : Env) (d : X) (s : Nat) (F : Fm) (hs : s < 48) (h : d.i = s) (hF : chkB (mrB s) F = true) : F.ctr ρ (fun j => Ff j [d]) 312 (.one .bool) :=
 chkB_ok hF (by rw [F312, xB_b, h])
theorem nm_o (ρ : Env) (d : X) (F : Fm) (h : ¬ inT d.i) (hF : chkS ⟨#[]⟩ F = true) : F.ctr ρ (fun j => Ff j [d]) 313 (.one (.str 6)) :=
 chkS_ok hF (by rw [F313]; unfold nmX; rw [if_neg h]; exact ⟨rfl, by decide⟩)
theorem nm_g (ρ : Env) (d : X) (s : Nat) (F : Fm) (hs : s < 48) (h : d.i = s) (hF : chkS (nmS s) F = true) : F.ctr ρ (fun j => Ff j [d]) 313 (.one (.str 6)) :=
 chkS_ok hF (by rw [F313, h]; unfold nmX; rw [if_pos (inT_of hs), Int.toNat_natCast]; exact ⟨rfl, by show ((6 : Nat) : Int) ≤ 6; omega⟩)
theorem cfNum : CfgOk Tryz.prog ρ0 (cfF [cNum]) := cfF_ok (keep0.cons kNum nNum)
theorem kInv : CtrOk Tryz.prog ρ0 cInv := oneOf (c := cInv) cfNum Tryz.func80 rfl 5000 rfl (chkI (-1)) (fun s => chkI (ivB s)) iv_o iv_g (by kernel_rfl) (by kernel_rfl) (by kernel_rfl)
theorem nInv : ∃ fn, Tryz.prog.funcs[cInv.f]? = some fn ∧ fn.body.isSome = true ∧ (fn.name == "runtime.NumGoroutine") = false := ⟨_, Tryz.func80, by kernel_rfl, by kernel_rfl⟩
end Vc
end Go.Proofs.YtaacclebncplbaaGreatDoor
