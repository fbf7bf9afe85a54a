/- Two environments that agree on some expressions agree on all that is built over these. -/
import Derived.Test.YtfpecoddgdcaaaaDoorVcK
namespace Go.Proofs.YtfpecoddgdcaaaaDoor
namespace Vc
open Go Go.RowKit

def E.over (ps : List E) : E → Bool
  | .ic _ | .bc _ | .cv _ | .nil => true
  | .var k => memE (.var k) ps
  | .add a b => memE (.add a b) ps || (a.over ps && b.over ps)
  | .sub a b => memE (.sub a b) ps || (a.over ps && b.over ps)
  | .mul a b => memE (.mul a b) ps || (a.over ps && b.over ps)
  | .tdiv a b => memE (.tdiv a b) ps || (a.over ps && b.over ps)
  | .tmod a b => memE (.tmod a b) ps || (a.over ps && b.over ps)
  | .div a b => memE (.div a b) ps || (a.over ps && b.over ps)
  | .mod a b => memE (.mod a b) ps || (a.over ps && b.over ps)
  | .shl a b => a.over ps && b.over ps
  | .shr a b => a.over ps && b.over ps
  | .bit _ _ a b => a.over ps && b.over ps
  | .wrap k a => memE (.wrap k a) ps || a.over ps
  | .mx a b => a.over ps && b.over ps
  | .mn a b => a.over ps && b.over ps
  | .eq a b => memE (.eq a b) ps || (a.over ps && b.over ps)
  | .lt a b => memE (.lt a b) ps || (a.over ps && b.over ps)
  | .le a b => memE (.le a b) ps || (a.over ps && b.over ps)
  | .iff a b => a.over ps && b.over ps
  | .veq a b => a.over ps && b.over ps
  | .not a => a.over ps
  | .and a b => a.over ps && b.over ps
  | .or a b => a.over ps && b.over ps
  | .ite c a b => c.over ps && a.over ps && b.over ps
  | .app f a => memE (.app f a) ps || a.over ps
  | .cons a b => a.over ps && b.over ps
  | .sel r i o => r.over ps && i.over ps && o.over ps
  | .rset r i o e => r.over ps && i.over ps && o.over ps && e.over ps
  | .rtab _ es => es.over ps
  | .rrep es => es.over ps
  | .rcat r n s => r.over ps && n.over ps && s.over ps
  | .rsh r lo => r.over ps && lo.over ps
  | .rcpy a b c d e => a.over ps && b.over ps && c.over ps && d.over ps && e.over ps
theorem over_ev {ρ ρ' : Env} {ps : List E} (hf : ρ'.f = ρ.f) (hp : ∀ p ∈ ps, ev ρ' p = ev ρ p) {e : E} (h : e.over ps = true) : ev ρ' e = ev ρ e := by
  induction e <;> simp only [E.over, Bool.or_eq_true, Bool.and_eq_true] at h <;> first
    | rfl
    | (exact hp _ (memE_ok h))
    | (rcases h with h | h
       · exact hp _ (memE_ok h)
       · simp_all only [ev])
    | (simp_all only [ev])

def SC.over (ps : List E) : SC → Bool
  | .int _ e _ _ => e.over ps
  | .bool e => e.over ps
  | _ => false
def SV.over (ps : List E) : SV → Bool
  | .c s => s.over ps
  | .agg l => l.all (SC.over ps)
  | .tup l => l.all fun x => x.2.all (SC.over ps)
def Fm.over (ps : List E) : Fm → Bool
  | .tru | .fls => true
  | .and a b => a.over ps && b.over ps
  | .imp g a => g.over ps && a.over ps
  | .tst e => e.over ps
  | .pre _ _ => true
  | .leaf v _ => v.over ps

section
variable {ρ ρ' : Env} {ps : List E}
theorem over_ck (hf : ρ'.f = ρ.f) (hp : ∀ p ∈ ps, ev ρ' p = ev ρ p) {hp' : SH} {x : X} {r : Ck} {s : SC} (h : s.over ps = true) : ckChk ρ' hp' x r s = ckChk ρ hp' x r s := by
  cases s <;> simp only [SC.over] at h <;> try (cases h; done)
  · have e := over_ev hf hp h
    cases r <;> simp only [ckChk, slen, evI, e]
    rename_i v
    cases v <;> simp only [e]
  · have e := over_ev hf hp h
    cases r <;> simp only [ckChk, slen, evB, e]
    rename_i v
    cases v <;> simp only [e]
theorem over_ckL (hf : ρ'.f = ρ.f) (hp : ∀ p ∈ ps, ev ρ' p = ev ρ p) {hp' : SH} {f : Nat → X} : ∀ {rs : List Ck} {j : Nat} {ss : List SC}, ss.all (SC.over ps) = true → ckChkL ρ' hp' f j rs ss = ckChkL ρ hp' f j rs ss
  | [], _, [], _ => rfl
  | r :: rs, j, s :: ss, h => by
    simp only [List.all_cons, Bool.and_eq_true] at h
    simp only [ckChkL]
    rw [over_ck hf hp h.1, over_ckL hf hp h.2]
  | [], _, _ :: _, _ => rfl
  | _ :: _, _, [], _ => rfl
theorem over_ckT (hf : ρ'.f = ρ.f) (hp : ∀ p ∈ ps, ev ρ' p = ev ρ p) {hp' : SH} {f : Nat → X} : ∀ {l : List (Bool × List Ck)} {j : Nat} {m : List (Bool × List SC)}, (m.all fun x => x.2.all (SC.over ps)) = true → ckChkT ρ' hp' f j l m = ckChkT ρ hp' f j l m
  | [], _, [], _ => rfl
  | (true, rs) :: l, j, (true, ss) :: m, h => by
    simp only [List.all_cons, Bool.and_eq_true] at h
    simp only [ckChkT]
    rw [over_ckL hf hp h.1, over_ckT hf hp h.2]
  | (false, [r]) :: l, j, (false, [s]) :: m, h => by
    simp only [List.all_cons, List.all_nil, Bool.and_true, Bool.and_eq_true] at h
    simp only [ckChkT]
    rw [over_ck hf hp h.1, over_ckT hf hp h.2]
  | [], _, _ :: _, _ => rfl
  | _ :: _, _, [], _ => by simp [ckChkT]
  | (true, _) :: _, _, (false, _) :: _, _ => by simp [ckChkT]
  | (false, _) :: _, _, (true, _) :: _, _ => by simp [ckChkT]
  | (false, []) :: _, _, (false, _) :: _, _ => by simp [ckChkT]
  | (false, _ :: _ :: _) :: _, _, (false, _) :: _, _ => by simp [ckChkT]
  | (false, [_]) :: _, _, (false, []) :: _, _ => by simp [ckChkT]
  | (false, [_]) :: _, _, (false, _ :: _ :: _) :: _, _ => by simp [ckChkT]
theorem over_chk (hf : ρ'.f = ρ.f) (hp : ∀ p ∈ ps, ev ρ' p = ev ρ p) {f : Nat → X} {j : Nat} {r : Rs} : ∀ {F : Fm}, F.over ps = true → F.chk ρ' f j r = F.chk ρ f j r
  | .tru, _ => rfl
  | .fls, _ => rfl
  | .and a b, h => by
    simp only [Fm.over, Bool.and_eq_true] at h
    simp only [Fm.chk]
    rw [over_chk hf hp h.1, over_chk hf hp h.2]
  | .imp g a, h => by
    simp only [Fm.over, Bool.and_eq_true] at h
    simp only [Fm.chk, evB]
    rw [over_ev hf hp h.1, over_chk hf hp h.2]
  | .tst e, h => by simp only [Fm.chk, evB]; rw [over_ev hf hp h]
  | .pre _ _, _ => rfl
  | .leaf v hp', h => by
    simp only [Fm.over] at h
    simp only [Fm.chk]
    cases v with
    | c s => cases r <;> simp only [resChk]; exact over_ck hf hp h
    | agg l => cases r <;> simp only [resChk]; exact over_ckL hf hp h
    | tup l => cases r <;> simp only [resChk]; exact over_ckT hf hp h
end
end Vc
end Go.Proofs.YtfpecoddgdcaaaaDoor
