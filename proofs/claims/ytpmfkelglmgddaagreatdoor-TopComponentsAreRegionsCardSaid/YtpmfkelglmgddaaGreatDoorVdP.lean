/- A contract out of a walk: what is left at the end of each path is reckoned. -/
import Derived.Test.YtpmfkelglmgddaaGreatDoorVdI
import Derived.ProofKit
import Derived.OpenShut
import Derived.ReadAgain
import Derived.ChangeMaps5
namespace Go.Proofs.YtpmfkelglmgddaaGreatDoor
namespace Vc
open Go Go.RowKit
set_option linter.unusedVariables false
section
variable {P : Program} {ρ : Env} {B : Nat} {w0 w : World} {ls : Ls} {hp : SH} {cf : a8}
end
end Vc
end Go.Proofs.YtpmfkelglmgddaaGreatDoor
namespace Go.Proofs.YtpmfkelglmgddaaGreatDoor
namespace Vc
open Go Go.RowKit
set_option linter.unusedVariables false
def vI (P : Program) (F : TypeId → Option (List Kd)) : Nat → List Field → Option (List Kd)
 | _, [] => some []
 | off, f :: fs => if f.offset = off ∧ f.name ≠ "_" then (match F f.type, dp P f.type with
  | some ks, some n => if n = ks.length then (match vI P F (off + n) fs with | some r => some (ks ++ r) | none => none) else none
  | _, _ => none) else none
def IX (ks : List Kd) : Nat → List Kd
 | 0 => []
 | n + 1 => ks ++ IX ks n
def iX (P : Program) : Nat → TypeId → Option (List Kd)
 | 0, _ => none
 | d + 1, t => match P.underlying t with
  | some .bool => some [.bool]
  | some (.int k) => some [.int k]
  | some .string => some [.str]
  | some (.struct fs) => if P.stoodInHeld t then none else vI P (iX P d) 0 fs.toList
  | some (.array n e) => (match iX P d e, P.info? e with
   | some ks, some i => if i.size = ks.length then some (IX ks n) else none
   | _, _ => none)
  | _ => none
def NU (P : Program) (t : TypeId) (xs : List Value) (u : Value) : Prop := (cj P t = some true ∧ u = .agg xs.toArray) ∨ (cj P t = some false ∧ xs = [u])
theorem NU.agg {P : Program} {t : TypeId} {xs : List Value} {u : Value} (h : NU P t xs u) (ha : cj P t = some true) : u = .agg xs.toArray := by
 rcases h with ⟨_, h⟩ | ⟨e, _⟩
 ·exact h
 ·rw [ha] at e; cases e
def QP (P : Program) (dd : Nat) (t : TypeId) (ks : List Kd) : Prop :=
 ∀ (w : World) (xs ys : List Value) (u v : Value), ai Dc ks xs → ai Dc ks ys → NU P t xs u → NU P t ys v → (Op.equalIn dd t u v).run P w = .ok (fj xs ys) w
theorem jM : ∀ {a c b d : List Value}, a.length = c.length → fj (a ++ b) (c ++ d) = (fj a c && fj b d)
 | [], [], _, _, _ => rfl
 | x :: a, y :: c, b, d, h => by
  simp only [List.cons_append, fj]
  rw [jM (by simpa using h), Bool.and_assoc]
 | [], _ :: _, _, _, h => by cases h
 | _ :: _, [], _, _, h => by cases h
theorem ai.split {α β : Type} {R : α → β → Prop} : ∀ {a b : List α} {c : List β}, ai R (a ++ b) c → ai R a (c.take a.length) ∧ ai R b (c.drop a.length)
 | [], b, c, h => ⟨by simp [ai], by simpa using h⟩
 | x :: a, b, [], h => h.elim
 | x :: a, b, y :: c, h => by
  obtain ⟨h1, h2⟩ := ai.split h.2
  exact ⟨⟨h.1, h1⟩, h2⟩
section
variable {P : Program}
theorem vJ {d : Nat} {t : TypeId} {ks : List Kd} (h : iX P d t = some ks) : cj P t = some true ∨ (cj P t = some false ∧ ks.length = 1) := by
 cases d with
 | zero => cases h
 | succ d =>
  simp only [iX] at h
  unfold cj
  split at h
  ·rename_i e; rw [e]; cases h; exact .inr ⟨rfl, rfl⟩
  ·rename_i e; rw [e]; cases h; exact .inr ⟨rfl, rfl⟩
  ·rename_i e; rw [e]; cases h; exact .inr ⟨rfl, rfl⟩
  ·rename_i e; rw [e]; exact .inl rfl
  ·rename_i e; rw [e]; exact .inl rfl
  ·cases h
theorem kj {d : Nat} {t : TypeId} {ks : List Kd} (h : iX P d t = some ks) (hs : dp P t = some ks.length) {xs : List Value} {off : Nat} (hl : ai Dc ks ((xs.drop off).take ks.length)) (w : World) :
 ∃ u, (part t xs.toArray off).run P w = .ok u w ∧ NU P t ((xs.drop off).take ks.length) u := by
 rcases vJ h with ha | ⟨ha, h1⟩
 ·refine ⟨.agg ((xs.drop off).take ks.length).toArray, ?_, .inl ⟨ha, rfl⟩⟩
  simp [part, fH ha, run_sizeOf hs]
 ·have hlen := hl.len
  rw [h1] at hlen ⊢
  have hlt : off < xs.length := by
   rcases Nat.lt_or_ge off xs.length with h' | h'
   ·exact h'
   ·rw [List.drop_of_length_le h'] at hlen; simp at hlen
  have e1 : (xs.drop off).take 1 = [xs[off]] := by rw [List.drop_eq_getElem_cons hlt]; rfl
  refine ⟨xs[off], ?_, .inr ⟨ha, e1⟩⟩
  simp [part, fH ha, hlt]
theorem om {dd : Nat} {F : TypeId → Option (List Kd)} {d : Nat} (hF : F = iX P d) (IH : ∀ t ks, iX P d t = some ks → QP P dd t ks) : ∀ {fs : List Field} {off : Nat} {ks : List Kd} {xs ys : List Value} (w : World),
 vI P F off fs = some ks → ai Dc ks (xs.drop off) → ai Dc ks (ys.drop off) → (Op.eqFields dd xs.toArray ys.toArray fs).run P w = .ok (fj (xs.drop off) (ys.drop off)) w
 | [], off, ks, xs, ys, w, h, hx, hy => by
  cases h
  have e1 : xs.drop off = [] := List.eq_nil_of_length_eq_zero hx.len.symm
  have e2 : ys.drop off = [] := List.eq_nil_of_length_eq_zero hy.len.symm
  rw [e1, e2]; rfl
 | f :: fs, off, ks, xs, ys, w, h, hx, hy => by
  simp only [vI] at h
  split at h
  ·rename_i hf
   obtain ⟨rfl, hn⟩ := hf
   split at h
   ·rename_i k n hk hs
    split at h
    ·rename_i hnk
     subst hnk
     split at h
     ·rename_i r hr
      cases h
      rw [hF] at hk
      obtain ⟨x1, x2⟩ := ai.split hx
      obtain ⟨y1, y2⟩ := ai.split hy
      obtain ⟨u, hu, iu⟩ := kj hk hs x1 w
      obtain ⟨v, hv, iv⟩ := kj hk hs y1 w
      have he := IH _ _ hk w _ _ u v x1 y1 iu iv
      rw [List.drop_drop] at x2 y2
      have hrest := om hF IH (xs := xs) (ys := ys) w hr x2 y2
      have hlx : ((xs.drop f.offset).take k.length).length = ((ys.drop f.offset).take k.length).length := by rw [← x1.len, ← y1.len]
      have e1 : xs.drop f.offset = (xs.drop f.offset).take k.length ++ xs.drop (f.offset + k.length) := by rw [← List.drop_drop, List.take_append_drop]
      have e2 : ys.drop f.offset = (ys.drop f.offset).take k.length ++ ys.drop (f.offset + k.length) := by rw [← List.drop_drop, List.take_append_drop]
      have hgoal : fj (xs.drop f.offset) (ys.drop f.offset) = (fj ((xs.drop f.offset).take k.length) ((ys.drop f.offset).take k.length) && fj (xs.drop (f.offset + k.length)) (ys.drop (f.offset + k.length))) := by
       conv => lhs; rw [e1, e2]
       exact jM hlx
      rw [hgoal]
      simp only [Op.eqFields, hn, ne_eq, not_false_eq_true, if_true, Sem.run_bind, hu, hv, he, Result.andThen_ok]
      cases fj ((xs.drop f.offset).take k.length) ((ys.drop f.offset).take k.length)
      ·simp
      ·simpa using hrest
     ·cases h
    ·cases h
   ·cases h
  ·cases h
theorem rS {dd : Nat} {d : Nat} {e : TypeId} {ks : List Kd} (hk : iX P d e = some ks) (hs : dp P e = some ks.length) (IH : QP P dd e ks) : ∀ {n j : Nat} {xs ys : List Value} (w : World),
 ai Dc (IX ks n) (xs.drop (j * ks.length)) → ai Dc (IX ks n) (ys.drop (j * ks.length)) → (Op.eqItems dd e ks.length xs.toArray ys.toArray (List.range' j n)).run P w = .ok (fj (xs.drop (j * ks.length)) (ys.drop (j * ks.length))) w
 | 0, j, xs, ys, w, hx, hy => by
  have e1 : xs.drop (j * ks.length) = [] := List.eq_nil_of_length_eq_zero hx.len.symm
  have e2 : ys.drop (j * ks.length) = [] := List.eq_nil_of_length_eq_zero hy.len.symm
  rw [e1, e2]; rfl
 | n + 1, j, xs, ys, w, hx, hy => by
  obtain ⟨x1, x2⟩ := ai.split (a := ks) hx
  obtain ⟨y1, y2⟩ := ai.split (a := ks) hy
  obtain ⟨u, hu, iu⟩ := kj hk hs x1 w
  obtain ⟨v, hv, iv⟩ := kj hk hs y1 w
  have he := IH w _ _ u v x1 y1 iu iv
  have ej : j * ks.length + ks.length = (j + 1) * ks.length := by rw [Nat.add_mul]; omega
  rw [List.drop_drop, ej] at x2 y2
  have hrest := rS hk hs IH (xs := xs) (ys := ys) w x2 y2
  have hlx : ((xs.drop (j * ks.length)).take ks.length).length = ((ys.drop (j * ks.length)).take ks.length).length := by rw [← x1.len, ← y1.len]
  have e1 : xs.drop (j * ks.length) = (xs.drop (j * ks.length)).take ks.length ++ xs.drop ((j + 1) * ks.length) := by rw [← ej, ← List.drop_drop, List.take_append_drop]
  have e2 : ys.drop (j * ks.length) = (ys.drop (j * ks.length)).take ks.length ++ ys.drop ((j + 1) * ks.length) := by rw [← ej, ← List.drop_drop, List.take_append_drop]
  have hgoal : fj (xs.drop (j * ks.length)) (ys.drop (j * ks.length)) = (fj ((xs.drop (j * ks.length)).take ks.length) ((ys.drop (j * ks.length)).take ks.length) && fj (xs.drop ((j + 1) * ks.length)) (ys.drop ((j + 1) * ks.length))) := by
   conv => lhs; rw [e1, e2]
   exact jM hlx
  rw [hgoal]
  simp only [List.range'_succ, Op.eqItems, Sem.run_bind, hu, hv, he, Result.andThen_ok]
  cases fj ((xs.drop (j * ks.length)).take ks.length) ((ys.drop (j * ks.length)).take ks.length)
  ·simp
  ·simpa using hrest
theorem rT : ∀ (d dd : Nat) (t : TypeId) (ks : List Kd), d ≤ dd → iX P d t = some ks → QP P dd t ks
 | 0, _, _, _, _, h => by cases h
 | d + 1, 0, _, _, hd, _ => by omega
 | d + 1, dd + 1, t, ks, hd, h => by
  intro w xs ys u v hx hy iu iv
  simp only [iX] at h
  split at h
  ·rename_i ht
   cases h
   have ha : cj P t = some false := by unfold cj; rw [ht]
   rcases iu with ⟨e, _⟩ | ⟨_, rfl⟩
   ·rw [ha] at e; cases e
   rcases iv with ⟨e, _⟩ | ⟨_, rfl⟩
   ·rw [ha] at e; cases e
   obtain ⟨a, rfl⟩ := hx.1
   obtain ⟨b, rfl⟩ := hy.1
   rw [run_equalIn_bool' w dd t a b ht]
   simp [fj, H7]
  ·rename_i k ht
   cases h
   have ha : cj P t = some false := by unfold cj; rw [ht]
   rcases iu with ⟨e, _⟩ | ⟨_, rfl⟩
   ·rw [ha] at e; cases e
   rcases iv with ⟨e, _⟩ | ⟨_, rfl⟩
   ·rw [ha] at e; cases e
   obtain ⟨a, rfl⟩ := hx.1
   obtain ⟨b, rfl⟩ := hy.1
   rw [run_equalIn_int w dd t k k a b ht]
   simp [fj, H7]
  ·rename_i ht
   cases h
   have ha : cj P t = some false := by unfold cj; rw [ht]
   rcases iu with ⟨e, _⟩ | ⟨_, rfl⟩
   ·rw [ha] at e; cases e
   rcases iv with ⟨e, _⟩ | ⟨_, rfl⟩
   ·rw [ha] at e; cases e
   obtain ⟨a, rfl⟩ := hx.1
   obtain ⟨b, rfl⟩ := hy.1
   rw [run_equalIn_string w dd t a b ht]
   simp [fj, H7]
  ·rename_i fs ht
   split at h
   ·cases h
   ·rename_i hst
    have ha : cj P t = some true := by unfold cj; rw [ht]
    obtain rfl := iu.agg ha
    obtain rfl := iv.agg ha
    have hfs : P.fieldsOf t = fs := by simp [Program.fieldsOf, ht]
    rw [run_equalIn_struct w dd t _ _ (by rw [hfs]; exact ht) (by simpa using hst), hfs]
    exact om rfl (fun t' ks' h' => rT d dd t' ks' (by omega) h') (xs := xs) (ys := ys) w h hx hy
  ·rename_i n e ht
   split at h
   ·rename_i ks' i hk hi
    split at h
    ·rename_i hsz
     cases h
     have ha : cj P t = some true := by unfold cj; rw [ht]
     obtain rfl := iu.agg ha
     obtain rfl := iv.agg ha
     have hs : dp P e = some ks'.length := by simp [dp, hi, hsz]
     have hc : P.cellsOf e = ks'.length := by simp [Program.cellsOf, hi, hsz]
     rw [run_equalIn_array w dd _ _ ht hi, hc, List.range_eq_range']
     have := rS hk hs (rT d dd e ks' (by omega) hk) (n := n) (j := 0) (xs := xs) (ys := ys) w (by simpa using hx) (by simpa using hy)
     simpa using this
    ·cases h
   ·cases h
  ·cases h
theorem im.of {t : TypeId} {ks : List Kd} (h : iX P 9 t = some ks) (ha : cj P t = some true) (hg : P.eqGuardType P.depth t = false) : im P t ks where
 guard := hg
 eq := fun xs ys w hx hy => rT 9 10000 t ks (by decide) h w xs ys _ _ hx hy (.inl ⟨ha, rfl⟩) (.inl ⟨ha, rfl⟩)
def F9 (P : Program) : List (TypeId × List Kd) → Bool
 | [] => true
 | (t, ks) :: r => decide (iX P 9 t = some ks) && (match cj P t with | some true => true | _ => false) && !P.eqGuardType P.depth t && F9 P r
theorem gz : ∀ {l : List (TypeId × List Kd)}, F9 P l = true → ∀ t ks, qD l t = some ks → im P t ks
 | [], _, _, _, h => by cases h
 | (u, k) :: r, h, t, ks, hl => by
  simp only [F9, Bool.and_eq_true, decide_eq_true_eq, Bool.not_eq_true'] at h
  obtain ⟨⟨⟨h1, h2⟩, h3⟩, h4⟩ := h
  simp only [qD] at hl
  split at hl
  ·rename_i he
   cases hl
   have : u = t := by simpa using he
   subst this
   refine im.of h1 ?_ h3
   split at h2
   ·assumption
   ·cases h2
  ·exact gz h4 t ks hl
def vU (P : Program) : List (FuncId × Func) → Prop
 | [] => True
 | (f, fn) :: r => (P.funcs[f]? = some fn ∧ (fn.name == "runtime.NumGoroutine") = false) ∧ vU P r
theorem vU.look : ∀ {l : List (FuncId × Func)}, vU P l → ∀ f fn, lA l f = some fn → P.funcs[f]? = some fn ∧ (fn.name == "runtime.NumGoroutine") = false
 | [], _, _, _, h => by cases h
 | (g, fn') :: r, h, f, fn, hl => by
  simp only [lA] at hl
  split at hl
  ·rename_i he
   cases hl
   have : g = f := by simpa using he
   subst this
   exact h.1
  ·exact vU.look h.2 f fn hl
end
end Vc
end Go.Proofs.YtpmfkelglmgddaaGreatDoor
namespace Go.Proofs.YtpmfkelglmgddaaGreatDoor
namespace Vc
open Go Go.RowKit
set_option linter.unusedVariables false
def E.over (ps : List E) : E → Bool
 | .ic _ | .bc _ | .cv _ | .cs _ | .nil => true
 | .var k => eC (.var k) ps
 | .add a b => eC (.add a b) ps || (a.over ps && b.over ps)
 | .sub a b => eC (.sub a b) ps || (a.over ps && b.over ps)
 | .mul a b => eC (.mul a b) ps || (a.over ps && b.over ps)
 | .tdiv a b => eC (.tdiv a b) ps || (a.over ps && b.over ps)
 | .tmod a b => eC (.tmod a b) ps || (a.over ps && b.over ps)
 | .div a b => eC (.div a b) ps || (a.over ps && b.over ps)
 | .mod a b => eC (.mod a b) ps || (a.over ps && b.over ps)
 | .shl a b => a.over ps && b.over ps
 | .shr a b => a.over ps && b.over ps
 | .bit _ _ a b => a.over ps && b.over ps
 | .wrap k a => eC (.wrap k a) ps || a.over ps
 | .mx a b => a.over ps && b.over ps
 | .mn a b => a.over ps && b.over ps
 | .eq a b => eC (.eq a b) ps || (a.over ps && b.over ps)
 | .lt a b => eC (.lt a b) ps || (a.over ps && b.over ps)
 | .le a b => eC (.le a b) ps || (a.over ps && b.over ps)
 | .iff a b => a.over ps && b.over ps
 | .De a b => a.over ps && b.over ps
 | .not a => a.over ps
 | .and a b => a.over ps && b.over ps
 | .or a b => a.over ps && b.over ps
 | .ite c a b => c.over ps && a.over ps && b.over ps
 | .app f a => eC (.app f a) ps || a.over ps
 | .cons a b => a.over ps && b.over ps
 | .Aw r i o => r.over ps && i.over ps && o.over ps
 | .dL r i o e => r.over ps && i.over ps && o.over ps && e.over ps
 | .bE _ es => es.over ps
 | .kY es => es.over ps
 | .eo r n s => r.over ps && n.over ps && s.over ps
 | .tj r lo => r.over ps && lo.over ps
 | .uF a b c d e => a.over ps && b.over ps && c.over ps && d.over ps && e.over ps
 | .eY a b => a.over ps && b.over ps
 | .can a => a.over ps
 | .wL a => a.over ps
 | .Lx a b => a.over ps && b.over ps
 | .Ly a b => a.over ps && b.over ps
 | .EC a b => a.over ps && b.over ps
 | .mem r n s => r.over ps && n.over ps && s.over ps
def SC.over (ps : List E) : SC → Bool
 | .int _ e _ _ => e.over ps
 | .bool e => e.over ps
 | _ => false
def SV.over (ps : List E) : SV → Bool
 | .c s => s.over ps
 | .agg l => l.all (SC.over ps)
 | .eJ l => l.all fun x => x.2.all (SC.over ps)
def Fm.over (ps : List E) : Fm → Bool
 | .Dd | .c9 => true
 | .and a b => a.over ps && b.over ps
 | .imp g a => g.over ps && a.over ps
 | .yJ e => e.over ps
 | .pre _ _ => true
 | .leaf v _ => v.over ps
 | _ => true
section
variable {ρ ρ' : Env} {ps : List E}
end
end Vc
end Go.Proofs.YtpmfkelglmgddaaGreatDoor
namespace Go.Proofs.YtpmfkelglmgddaaGreatDoor
namespace Vc
open Go Go.RowKit Go.ChangeShapes Go.WideShapes Go.ChangeAt
set_option linter.unusedVariables false
def Fm.law : Env → Fm → Prop
 | _, .Dd => True
 | _, .c9 => False
 | ρ, .and a b => a.law ρ ∧ b.law ρ
 | ρ, .imp g a => sB ρ g → a.law ρ
 | ρ, .yJ e => sB ρ e
 | ρ, .pre k A => ρ.p k (ev ρ A).l
 | ρ, .leaf (.c (.bool e)) _ => sB ρ e
 | _, .leaf _ _ => False
 | ρ, .all m a => ∀ y : X, a.law (ρ.uI m y)
 | ρ, .oI k A a => ρ.p k (ev ρ A).l → a.law ρ
 | ρ, .oJ sh R n hi a => (0 ≤ aa ρ n ∧ aa ρ n ≤ hi ∧ au sh (aU ρ R) (aa ρ n).toNat) → a.law ρ
theorem eG {B : Nat} {w0 : World} : ∀ {F : Fm} {ρ : Env}, F.law ρ → F.holds (fun ρ => bk ρ B w0 fun e w' => e = .returned (.bool true) ∧ Below w0.heap.size w0 w') ρ
 | .Dd, _, _ => trivial
 | .c9, _, h => h
 | .and _ _, _, h => ⟨eG h.1, eG h.2⟩
 | .imp g a, _, h => fun hg => eG (F := a) (h hg)
 | .yJ _, _, h => h
 | .pre _ _, _, h => h
 | .leaf (.c (.bool e)) hp, ρ, h => fun k ls w' val hh hr => by
  have he : al ρ e = true := (bC ρ e).1 h
  have hv : val = .bool (al (ρ.wk k) e) := hr
  rw [qv] at hv
  rw [hv, he]
  exact ⟨rfl, by have := hh.below; rwa [hh.base] at this⟩
 | .leaf (.c .kW) _, _, h => h.elim
 | .leaf (.c (.int ..)) _, _, h => h.elim
 | .leaf (.c (.ptr ..)) _, _, h => h.elim
 | .leaf (.c (.fn ..)) _, _, h => h.elim
 | .leaf (.c (.di ..)) _, _, h => h.elim
 | .leaf (.c (.Gu ..)) _, _, h => h.elim
 | .leaf (.c (.str ..)) _, _, h => h.elim
 | .leaf (.c (.gl ..)) _, _, h => h.elim
 | .leaf (.c (.ow ..)) _, _, h => h.elim
 | .leaf (.c (.sl ..)) _, _, h => h.elim
 | .leaf (.c (.sc ..)) _, _, h => h.elim
 | .leaf (.c (.pe ..)) _, _, h => h.elim
 | .leaf (.c (.ln ..)) _, _, h => h.elim
 | .leaf (.agg _) _, _, h => h.elim
 | .leaf (.eJ _) _, _, h => h.elim
 | .leaf (.c (.Gv _)) _, _, h => h.elim
 | .all m a, ρ, h => fun y => eG (F := a) (h y)
 | .oI _ _ a, _, h => fun hp => eG (F := a) (h hp)
 | .oJ _ _ _ _ a, _, h => fun hp => eG (F := a) (h hp)
theorem pL {w : World} {a : Addr} {v : Value} (h : w.cell? a = some v) : a.block < w.heap.size := by
 unfold World.cell? at h
 rcases Nat.lt_or_ge a.block w.heap.size with h1 | h1
 ·exact h1
 ·rw [Array.getElem?_eq_none h1] at h
  simp at h
def gb (f : Func) : Code := f.body.getD .skip
def kE (P : Program) (cf : a8) (fn : Func) (n : Nat) (vs : List SV) : Fm := go P cf 0 fn n (.code (gb fn)) [] (nJ fn vs) [] none
theorem yf (n : Int) : (xI n).i = n := rfl
theorem J6 (b : Bool) : (xB b).b = b := rfl
inductive Lf where
 | int (k : IntKind) | bool | str
 deriving DecidableEq, Inhabited
def oR : Lf → Value → Prop
 | .int k, v => ∃ n, v = .int k n ∧ hD k ≤ n ∧ n ≤ hU k
 | .bool, v => ∃ b, v = .bool b
 | .str, v => ∃ s : ByteArray, v = .string s ∧ s.size ≤ maxLen
def rep {α : Type} (l : List α) : Nat → List α
 | 0 => []
 | n + 1 => rep l n ++ l
def km (P : Program) (g : TypeId → Option (List Lf)) : List Field → Nat → Option (List Lf)
 | [], _ => some []
 | f :: r, off => match g f.type, km P g r (off + P.cellsOf f.type) with
  | some l, some l' => if l.length = P.cellsOf f.type ∧ f.offset = off then some (l ++ l') else none
  | _, _ => none
def leaves (P : Program) : Nat → TypeId → Option (List Lf)
 | 0, _ => none
 | m + 1, t => match P.underlying t with
  | some (.int k) => some [.int k]
  | some .bool => some [.bool]
  | some .string => some [.str]
  | some (.array n e) => (match leaves P m e with | some l => if l.length = P.cellsOf e ∧ P.cellsOf t = n * P.cellsOf e then some (rep l n) else none | none => none)
  | some (.struct fs) => (match km P (leaves P m) fs.toList 0 with | some l => if l.length = P.cellsOf t then some l else none | none => none)
  | _ => none
theorem Ml {k : IntKind} {n : Int} (h : (Lit.int k n).wf = true) : hD k ≤ n ∧ n ≤ hU k := by
 cases k
 ·exact bounds_i8 h
 ·exact bounds_i16 h
 ·exact bounds_i32 h
 ·exact bounds_i64 h
 ·exact bounds_u8 h
 ·exact bounds_u16 h
 ·exact bounds_u32 h
 ·exact bounds_u64 h
section
variable {H : Type} {enc : TypeId × Value → H} {P : Program} {w : World} {base : Nat} {sp : Nat → Bool} {held : Bool}
theorem rU {g : TypeId → Option (List Lf)} {cs : List Value} : ∀ {fl : List Field} {off : Nat} {ks : List Lf}, km P g fl off = some ks → (∀ f ∈ fl, ∀ l, g f.type = some l → ai oR l ((cs.drop f.offset).take (P.cellsOf f.type))) → ai oR ks ((cs.drop off).take ks.length)
 | [], off, ks, h, _ => by cases h; simp [ai]
 | f :: r, off, ks, h, hf => by
  simp only [km] at h
  split at h
  ·rename_i l l' hl hl'
   split at h
   ·rename_i hif
    obtain ⟨h1, h2⟩ := hif
    cases h
    have a1 := hf f (by simp) l hl
    have a2 := rU hl' fun f' hf' => hf f' (by simp [hf'])
    rw [h2, ← h1] at a1
    rw [← h1, ← List.drop_drop] at a2
    rw [List.length_append, List.take_add]
    exact a1.append a2
   ·cases h
  ·cases h
theorem F' {cs : List Value} {l : List Lf} {sz : Nat} (hl : l.length = sz) : ∀ {n : Nat}, (∀ i, i < n → ai oR l ((cs.drop (i * sz)).take sz)) → ai oR (rep l n) (cs.take (n * sz))
 | 0, _ => by simp [rep, ai]
 | n + 1, h => by
  rw [rep, Nat.add_mul, Nat.one_mul, List.take_add]
  exact (F' hl fun i hi => h i (by omega)).append (h n (by omega))
theorem c8 : ∀ {m n : Nat} {t : TypeId} {cs : List Value} {x : DataW H × List MemPlace} {ks : List Lf}, leaves P m t = some ks → DataW.trod enc P w base sp held n t cs = some x → ai oR ks cs
 | 0, _, _, _, _, _, h, _ => by cases h
 | m + 1, n, t, cs, x, ks, h, hx => by
  simp only [leaves] at h
  split at h
  ·rename_i k ht
   cases h
   obtain ⟨i, rfl, _, hw⟩ := DataW.trod_int ht hx
   exact ⟨⟨i, rfl, Ml hw⟩, trivial⟩
  ·rename_i ht
   cases h
   obtain ⟨b, rfl, _⟩ := DataW.trod_bool ht hx
   exact ⟨⟨b, rfl⟩, trivial⟩
  ·rename_i ht
   cases h
   obtain ⟨s, rfl, _, hs⟩ := DataW.trod_string ht hx
   exact ⟨⟨s, rfl, hs⟩, trivial⟩
  ·rename_i len e ht
   split at h
   ·rename_i l hl
    split at h
    ·rename_i hif
     obtain ⟨h1, h2⟩ := hif
     cases h
     obtain ⟨xs, m', _, _, hlen, hxs, hel⟩ := DataW.trod_array ht hx
     have := F' (cs := cs) h1 (n := len) fun i hi => by
      have := hel i hi
      rw [List.getElem?_eq_getElem (by omega)] at this
      exact c8 hl this
     rw [← h2, ← hlen, List.take_length] at this
     exact this
    ·cases h
   ·cases h
  ·rename_i fs ht
   split at h
   ·rename_i l hl
    split at h
    ·rename_i hif
     cases h
     obtain ⟨xs, m', _, _, hlen, hxs, hel⟩ := DataW.trod_struct ht hx
     have := rU (cs := cs) hl fun f hf l' hl' => by
      obtain ⟨i, hi⟩ := List.getElem?_of_mem hf
      have hi' : fs[i]? = some f := by simpa using hi
      have := hel i f hi'
      have hlt : i < fs.size := (Array.getElem?_eq_some_iff.1 hi').1
      rw [List.getElem?_eq_getElem (by omega)] at this
      exact c8 hl' this
     rw [hif, ← hlen, List.drop_zero, List.take_length] at this
     exact this
    ·cases h
   ·cases h
  ·cases h
theorem oo {g : TypeId → Option (List Lf)} {cs cs' : List Value} : ∀ {fl : List Field} {off : Nat} {ks : List Lf}, km P g fl off = some ks → (∀ f ∈ fl, ∀ l, g f.type = some l → (cs.drop f.offset).take (P.cellsOf f.type) = (cs'.drop f.offset).take (P.cellsOf f.type)) → (cs.drop off).take ks.length = (cs'.drop off).take ks.length
 | [], off, ks, h, _ => by cases h; simp
 | f :: r, off, ks, h, hf => by
  simp only [km] at h
  split at h
  ·rename_i l l' hl hl'
   split at h
   ·rename_i hif
    obtain ⟨h1, h2⟩ := hif
    cases h
    have a1 := hf f (by simp) l hl
    have a2 := oo hl' fun f' hf' => hf f' (by simp [hf'])
    rw [h2, ← h1] at a1
    rw [← h1, ← List.drop_drop, ← List.drop_drop] at a2
    rw [List.length_append, List.take_add, List.take_add, a1, a2]
   ·cases h
  ·cases h
theorem BH {cs cs' : List Value} {sz : Nat} : ∀ {n : Nat}, (∀ i, i < n → (cs.drop (i * sz)).take sz = (cs'.drop (i * sz)).take sz) → cs.take (n * sz) = cs'.take (n * sz)
 | 0, _ => by simp
 | n + 1, h => by
  rw [Nat.add_mul, Nat.one_mul, List.take_add, List.take_add, BH fun i hi => h i (by omega), h n (by omega)]
theorem lL : ∀ {m n n' : Nat} {t : TypeId} {cs cs' : List Value} {x x' : DataW H × List MemPlace} {ks : List Lf}, leaves P m t = some ks → DataW.trod enc P w base sp held n t cs = some x → DataW.trod enc P w base sp held n' t cs' = some x' → x.1 = x'.1 → cs = cs'
 | 0, _, _, _, _, _, _, _, _, h, _, _, _ => by cases h
 | m + 1, n, n', t, cs, cs', x, x', ks, h, hx, hx', he => by
  simp only [leaves] at h
  have hidx : ∀ {xs xs' : List (DataW H × List MemPlace)} {i : Nat} (h1 : i < xs.length) (h2 : i < xs'.length), xs.map (·.1) = xs'.map (·.1) → xs[i].1 = xs'[i].1 := fun {xs xs' i} h1 h2 e => by
   have := congrArg (fun l => l[i]?) e
   simpa [h1, h2] using this
  split at h
  ·rename_i k ht
   obtain ⟨i, rfl, e1, _⟩ := DataW.trod_int ht hx
   obtain ⟨i', rfl, e2, _⟩ := DataW.trod_int ht hx'
   rw [e1, e2] at he
   injection he with he; injection he with _ he
   rw [he]
  ·rename_i ht
   obtain ⟨b, rfl, e1⟩ := DataW.trod_bool ht hx
   obtain ⟨b', rfl, e2⟩ := DataW.trod_bool ht hx'
   rw [e1, e2] at he
   injection he with he; injection he with he
   rw [he]
  ·rename_i ht
   obtain ⟨s, rfl, e1, _⟩ := DataW.trod_string ht hx
   obtain ⟨s', rfl, e2, _⟩ := DataW.trod_string ht hx'
   rw [e1, e2] at he
   injection he with he; injection he with he
   have : s = s' := by
    obtain ⟨⟨l⟩⟩ := s
    obtain ⟨⟨l'⟩⟩ := s'
    simp at he
    subst he; rfl
   rw [this]
  ·rename_i len e ht
   split at h
   ·rename_i l hl
    split at h
    ·rename_i hif
     obtain ⟨h1, h2⟩ := hif
     obtain ⟨xs, m1, _, e1, hlen, hxs, hel⟩ := DataW.trod_array ht hx
     obtain ⟨xs', m2, _, e2, hlen', hxs', hel'⟩ := DataW.trod_array ht hx'
     rw [e1, e2] at he
     injection he with he
     have := BH (cs := cs) (cs' := cs') (sz := P.cellsOf e) (n := len) fun i hi => by
      have g1 := hel i hi
      have g2 := hel' i hi
      rw [List.getElem?_eq_getElem (by omega)] at g1 g2
      exact lL hl g1 g2 (hidx (by omega) (by omega) he)
     rw [← h2, List.take_of_length_le (by omega), List.take_of_length_le (by omega)] at this
     exact this
    ·cases h
   ·cases h
  ·rename_i fs ht
   split at h
   ·rename_i l hl
    split at h
    ·rename_i hif
     obtain ⟨xs, m1, _, e1, hlen, hxs, hel⟩ := DataW.trod_struct ht hx
     obtain ⟨xs', m2, _, e2, hlen', hxs', hel'⟩ := DataW.trod_struct ht hx'
     rw [e1, e2] at he
     injection he with he
     have := oo (cs := cs) (cs' := cs') hl fun f hf l' hl' => by
      obtain ⟨i, hi⟩ := List.getElem?_of_mem hf
      have hi' : fs[i]? = some f := by simpa using hi
      have g1 := hel i f hi'
      have g2 := hel' i f hi'
      have hlt : i < fs.size := (Array.getElem?_eq_some_iff.1 hi').1
      rw [List.getElem?_eq_getElem (by omega)] at g1 g2
      exact lL hl' g1 g2 (hidx (by omega) (by omega) he)
     rw [hif, List.drop_zero, List.drop_zero, List.take_of_length_le (by omega), List.take_of_length_le (by omega)] at this
     exact this
    ·cases h
   ·cases h
  ·cases h
def zN : Value → X
 | .int _ n => xI n
 | .bool b => xB b
 | .string s => xS s
 | v => xV v
theorem vK {W W' : World} (hb : Below W.heap.size W W') {p : MemPlace} (hp : p.block < W.heap.size) : W.sameAt W' p := by
 cases p with
 | cell b off => exact hb.cell (p := ⟨b, off, none⟩) hp
 | map b => exact hb.block b hp
theorem kM {W W' : World} {sp : Nat → Bool} (K : Kids P (· < P.types.size)) (hz : ∀ t e, t < P.types.size → P.underlying t = some (.slice e) → 0 < P.cellsOf e) (hb : Below W.heap.size W W') : ∀ {ts : List TypeId} {vs : List Value} {ds : List (DataW H)} {ps : List MemPlace}, (∀ t ∈ ts, t < P.types.size) →
 DataW.TrodAll enc P W 0 (fun _ => true) true ts vs ds ps → (∀ p ∈ ps, p.block < W.heap.size ∧ sp p.block = true) → DataW.TrodAll enc P W' 0 sp true ts vs ds ps
 | [], [], [], _, _, h, _ => h
 | t :: ts, v :: vs, d :: ds, _, hT, ⟨p, q, ⟨n, h1⟩, h2, e⟩, hs => by
  subst e
  refine ⟨p, q, ⟨n, ?_⟩, kM K hz hb (fun t ht => hT t (by simp [ht])) h2 fun x hx => hs x (by simp [hx]), rfl⟩
  have h3 := DataW.trod_carry (w' := W') n t _ _ h1 fun x hx => vK hb (hs x (by simp [hx])).1
  exact DataW.trod_respare K hz n t _ _ (hT t (by simp)) h3 fun x hx => (hs x (by simp [hx])).2
 | [], _ :: _, _, _, _, h, _ => by simp [DataW.TrodAll] at h
 | [], [], _ :: _, _, _, h, _ => by simp [DataW.TrodAll] at h
 | _ :: _, [], _, _, _, h, _ => by simp [DataW.TrodAll] at h
 | _ :: _, _ :: _, [], _, _, h, _ => by simp [DataW.TrodAll] at h
end
theorem nO {H : Type} {enc : TypeId × Value → H} {P : Program} {w : World} {base : Nat} {sp : Nat → Bool} {held : Bool} : ∀ {ts : List TypeId} {vs : List Value} {ds : List (DataW H)} {ps : List MemPlace}, DataW.TrodAll enc P w base sp held ts vs ds ps → ds.length = ts.length
 | [], [], [], _, _ => rfl
 | _ :: _, _ :: _, _ :: _, _, ⟨_, _, _, h, _⟩ => by simp [nO h]
 | [], _ :: _, _, _, h => by simp [DataW.TrodAll] at h
 | [], [], _ :: _, _, h => by simp [DataW.TrodAll] at h
 | _ :: _, [], _, _, h => by simp [DataW.TrodAll] at h
 | _ :: _, _ :: _, [], _, h => by simp [DataW.TrodAll] at h
theorem Dl {H : Type} {enc : TypeId × Value → H} {P : Program} {f : Func} {s : ChangeSpec} {W W' : World} {args : Array Value} {ds gs : List (DataW H)} {before : List MemPlace} {tb : TypeId}
 (K : Kids P (· < P.types.size)) (hz : ∀ t e, t < P.types.size → P.underlying t = some (.slice e) → 0 < P.cellsOf e) (hT : ∀ t ∈ f.params.toList, t < P.types.size)
 (hv : s.vars = []) (hr : f.resultTypes = #[tb]) (htb : P.underlying tb = some .bool) (hfn : s.fn H ds = { results := [.lit (.bool true)], args := ds })
 (hW : DataW.Whole enc P f.params.toList s.vars false W args.toList ds gs before) (hb : Below W.heap.size W W') : s.post enc P f false true false false W args (.bool true) W' := by
 have hW' := hW
 have hlt := hW.lt
 obtain ⟨p, q, hA, hV, rfl, hfz, hnd⟩ := hW
 rw [hv] at hV
 obtain ⟨rfl, rfl⟩ := trodVars_none hV
 have hfn' : s.fn H (ds ++ []) = { results := [.lit (.bool true)], args := ds } := by rw [List.append_nil]; exact hfn
 refine ⟨ds, [], _, [], p, [], hW', ?_, ?_, ?_, hb.frame _, fun h => by cases h⟩
 ·rw [hfn', hr]
  exact trodAll_mk1 (shut_bool htb _)
 ·rw [hfn']
  exact kM K hz hb hT hA fun x hx => ⟨hlt x (by simpa using hx), by simpa using hlt x (by simpa using hx)⟩
 ·rw [hfn', hv]; rfl
end Vc
end Go.Proofs.YtpmfkelglmgddaaGreatDoor
namespace Go.Proofs.YtpmfkelglmgddaaGreatDoor
namespace Vc
open Go Go.RowKit
set_option linter.unusedVariables false
def C5 (ρ : Env) (x : X) : Ck → SC → Prop
 | .int k lo hi, .int k' e _ _ => if k = k' then ((ev ρ e).x.i = x.i ∧ lo ≤ x.i ∧ x.i ≤ hi) else False
 | .bool, .bool e => (sB ρ e ↔ x.b = true)
 | .str hi, .di (.string s) => x = xS s ∧ (s.size : Int) ≤ hi
 | _, _ => False
def tU (ρ : Env) (f : Nat → X) : Nat → List Ck → List SC → Prop
 | _, [], [] => True
 | j, [r], [s] => C5 ρ (f j) r s
 | j, r :: rs, s :: ss => C5 ρ (f j) r s ∧ tU ρ f (j + 1) rs ss
 | _, _, _ => False
def jN (ρ : Env) (f : Nat → X) : Nat → List (Bool × List Ck) → List (Bool × List SC) → Prop
 | _, [], [] => True
 | j, (true, rs) :: l, (true, ss) :: m => tU ρ f j rs ss ∧ jN ρ f (j + rs.length) l m
 | j, (false, [r]) :: l, (false, [s]) :: m => C5 ρ (f j) r s ∧ jN ρ f (j + 1) l m
 | _, _, _ => False
def Ga (ρ : Env) (f : Nat → X) (j : Nat) : Rs → SV → Prop
 | .one r, .c s => C5 ρ (f j) r s
 | .agg rs, .agg ss => tU ρ f j rs ss
 | .eJ l, .eJ m => jN ρ f j l m
 | _, _ => False
theorem pC {ρ : Env} {ls : Ls} {x : X} {r : Ck} {s : SC} {v : Value} (h : C5 ρ x r s) (hr : RS ρ ls s v) : Ct x r v := by
 unfold C5 at h
 split at h
 ·split at h
  ·rename_i hk
   subst hk
   obtain ⟨h1, h2, h3⟩ := h
   exact ⟨by rw [hr.1, ← h1], h2, h3⟩
  ·exact h.elim
 ·rename_i e
  have hr' : v = .bool (al ρ e) := hr
  show v = .bool x.b
  rw [hr']
  congr 1
  have h' := (bC ρ e).symm.trans h
  show (ev ρ e).x.b = x.b
  cases h1 : (ev ρ e).x.b <;> cases h2 : x.b
  ·rfl
  ·rw [h1, h2] at h'; exact absurd (h'.2 rfl) (by simp)
  ·rw [h1, h2] at h'; exact absurd (h'.1 rfl) (by simp)
  ·rfl
 ·rename_i hi s
  obtain ⟨h1, h2⟩ := h
  have hr' : v = .string s := hr
  exact ⟨s, hr', by rw [h1]; rfl, by rw [h1]; rfl, h2⟩
 ·exact h.elim
theorem rV {ρ : Env} {ls : Ls} {f : Nat → X} : ∀ {rs : List Ck} {j : Nat} {ss : List SC} {vs : List Value}, tU ρ f j rs ss → ai (RS ρ ls) ss vs → Mz f j rs vs
 | [], _, [], [], _, _ => trivial
 | [r], _, [s], [v], h, hr => ⟨pC h hr.1, trivial⟩
 | r :: r' :: rs, j, s :: s' :: ss, v :: vs, h, hr => ⟨pC h.1 hr.1, rV (rs := r' :: rs) (ss := s' :: ss) h.2 hr.2⟩
 | [], _, [], _ :: _, _, hr => hr.elim
 | [], _, _ :: _, _, h, _ => h.elim
 | [_], _, [], _, h, _ => h.elim
 | _ :: _ :: _, _, [], _, h, _ => h.elim
 | [_], _, [_], [], _, hr => hr.elim
 | [_], _, [_], _ :: _ :: _, _, hr => hr.2.elim
 | [_], j, _ :: s' :: ss, _, h, _ => by simp [tU] at h
 | _ :: _ :: _, _, [_], _, h, _ => by simp [tU] at h
 | _ :: _ :: _, _, _ :: _ :: _, [], _, hr => hr.elim
theorem rW {ρ : Env} {ls : Ls} {f : Nat → X} : ∀ {l : List (Bool × List Ck)} {j : Nat} {m : List (Bool × List SC)} {vs : List Value}, jN ρ f j l m → ai (RE ρ ls) m vs → Ju f j l vs
 | [], _, [], [], _, _ => trivial
 | (true, rs) :: l, j, (true, ss) :: m, v :: vs, h, hr => by
  obtain ⟨⟨us, rfl, h1⟩, h2⟩ := hr
  exact ⟨⟨us, rfl, rV h.1 h1⟩, rW h.2 h2⟩
 | (false, [r]) :: l, j, (false, [s]) :: m, v :: vs, h, hr => ⟨pC h.1 hr.1, rW h.2 hr.2⟩
 | [], _, [], _ :: _, _, hr => hr.elim
 | [], _, _ :: _, _, h, _ => h.elim
 | _ :: _, _, [], _, h, _ => by simp [jN] at h
 | (true, _) :: _, _, (false, _) :: _, _, h, _ => by simp [jN] at h
 | (false, _) :: _, _, (true, _) :: _, _, h, _ => by simp [jN] at h
 | (true, _) :: _, _, (true, _) :: _, [], _, hr => hr.elim
 | (false, [_]) :: _, _, (false, [_]) :: _, [], _, hr => hr.elim
 | (false, []) :: _, _, (false, _) :: _, _, h, _ => by simp [jN] at h
 | (false, _ :: _ :: _) :: _, _, (false, _) :: _, _, h, _ => by simp [jN] at h
 | (false, [_]) :: _, _, (false, []) :: _, _, h, _ => by simp [jN] at h
 | (false, [_]) :: _, _, (false, _ :: _ :: _) :: _, _, h, _ => by simp [jN] at h
theorem Gb {ρ : Env} {ls : Ls} {f : Nat → X} {j : Nat} {r : Rs} {s : SV} {v : Value} (h : Ga ρ f j r s) (hr : RV ρ ls s v) : qN f j r v := by
 unfold Ga at h
 split at h
 ·exact pC h hr
 ·obtain ⟨us, rfl, h1⟩ := hr; exact ⟨us, rfl, rV h h1⟩
 ·obtain ⟨us, rfl, h1⟩ := hr; exact ⟨us, rfl, rW h h1⟩
 ·exact h.elim
def xK (f : Nat → X) (j : Nat) (r : Rs) : Env → Fm → Prop
 | _, .Dd => True
 | _, .c9 => False
 | ρ, .and a b => xK f j r ρ a ∧ xK f j r ρ b
 | ρ, .imp g a => sB ρ g → xK f j r ρ a
 | ρ, .yJ e => sB ρ e
 | ρ, .pre k A => ρ.p k (ev ρ A).l
 | ρ, .leaf v _ => Ga ρ f j r v
 | ρ, .all m a => ∀ y : X, xK f j r (ρ.uI m y) a
 | ρ, .oI k A a => ρ.p k (ev ρ A).l → xK f j r ρ a
 | ρ, .oJ sh R n hi a => (0 ≤ aa ρ n ∧ aa ρ n ≤ hi ∧ au sh (aU ρ R) (aa ρ n).toNat) → xK f j r ρ a
def Fm.pK (F : Fm) (ρ : Env) (f : Nat → X) (j : Nat) (r : Rs) : Prop := xK f j r ρ F
theorem dF {f : Nat → X} {j : Nat} {r : Rs} {B : Nat} {w0 : World} : ∀ {F : Fm} {ρ : Env}, xK f j r ρ F → F.holds (fun ρ => bk ρ B w0 fun e w' => ∃ v, e = .returned v ∧ qN f j r v ∧ Below w0.heap.size w0 w') ρ
 | .Dd, _, _ => trivial
 | .c9, _, h => h
 | .and _ _, _, h => ⟨dF h.1, dF h.2⟩
 | .imp g a, _, h => fun hg => dF (F := a) (h hg)
 | .yJ _, _, h => h
 | .pre _ _, _, h => h
 | .leaf v hp, ρ, h => fun k ls w' val hh hr => ⟨val, rfl, Gb (ρ := ρ) (ls := ls) h (by rw [AO] at hr; exact hr), by have := hh.below; rwa [hh.base] at this⟩
 | .all m a, ρ, h => fun y => dF (F := a) (h y)
 | .oI _ _ a, _, h => fun hp => dF (F := a) (h hp)
 | .oJ _ _ _ _ a, _, h => fun hp => dF (F := a) (h hp)
theorem C6 {ρ : Env} {f : Nat → X} {j : Nat} {r : Rs} {B : Nat} {w0 : World} {F : Fm} (h : F.pK ρ f j r) : F.holds (fun ρ => bk ρ B w0 fun e w' => ∃ v, e = .returned v ∧ qN f j r v ∧ Below w0.heap.size w0 w') ρ := dF h
def QQ (j : Nat) : Ck → SC
 | .int k lo hi => .int k (if lo = hi then .ic lo else .var j) lo hi
 | .bool => .bool (.var j)
 | .ln hi => .ln (.var j) hi
 | .di v => .di v
 | .str hi => .str (.var j) hi
def Mm : List Ck → Nat → List SC
 | [], _ => []
 | c :: r, j => QQ j c :: Mm r (j + 1)
def so : List Sh → Nat → List SV
 | [], _ => []
 | .one k :: sh, j => .c (QQ j k) :: so sh (j + 1)
 | .agg ks :: sh, j => .agg (Mm ks j) :: so sh (j + ks.length)
theorem vL {ρ : Env} {j : Nat} {lo hi : Int} {d : X} (e : ρ.x j = d) (h2 : lo ≤ d.i) (h3 : d.i ≤ hi) : aa ρ (if lo = hi then .ic lo else .var j) = d.i := by
 split
 ·show lo = d.i; omega
 ·show (ρ.x j).i = d.i; rw [e]
theorem pD {ρ : Env} {ls : Ls} : ∀ {ks : List Ck} {ds : Ds} {j : Nat}, Ih ks ds → (∀ i x, ds[i]? = some x → ρ.x (j + i) = x) → ai (RS ρ ls) (Mm ks j) (Cs ks ds)
 | [], _, _, _, _ => trivial
 | .int k lo hi :: ks, d :: ds, j, h, hx => by
  obtain ⟨⟨_, h2, h3⟩, h4⟩ := h
  have e : ρ.x j = d := hx 0 d rfl
  refine ⟨⟨?_, ?_, ?_⟩, pD h4 fun i x hi => by have := hx (i + 1) x (by simpa using hi); rwa [show j + (i + 1) = j + 1 + i by omega] at this⟩
  ·show Value.int k d.i = .int k (aa ρ (if lo = hi then .ic lo else .var j)); rw [vL e h2 h3]
  ·show lo ≤ aa ρ (if lo = hi then .ic lo else .var j); rw [vL e h2 h3]; exact h2
  ·show aa ρ (if lo = hi then .ic lo else .var j) ≤ hi; rw [vL e h2 h3]; exact h3
 | .bool :: ks, d :: ds, j, h, hx => by
  have e : ρ.x j = d := hx 0 d rfl
  refine ⟨?_, pD h.2 fun i x hi => by have := hx (i + 1) x (by simpa using hi); rwa [show j + (i + 1) = j + 1 + i by omega] at this⟩
  show Value.bool d.b = .bool (ρ.x j).b; rw [e]
 | .int .. :: _, [], _, h, _ => h.elim
 | .bool :: _, [], _, h, _ => h.elim
 | .ln _ :: _, [], _, h, _ => h.elim
 | .ln _ :: _, _ :: _, _, h, _ => h.elim
 | .di _ :: _, [], _, h, _ => h.elim
 | .di _ :: _, _ :: _, _, h, _ => h.elim
 | .str _ :: _, [], _, h, _ => h.elim
 | .str _ :: _, _ :: _, _, h, _ => h.elim
theorem vM : ∀ {ks : List Ck} {ds : Ds}, Ih ks ds → (Cs ks ds).length = ks.length
 | [], _, _ => rfl
 | .int .. :: ks, _ :: _, h => by simp [Cs, vM h.2]
 | .bool :: ks, _ :: _, h => by simp [Cs, vM h.2]
 | .int .. :: _, [], h => h.elim
 | .bool :: _, [], h => h.elim
 | .ln _ :: _, [], h => h.elim
 | .ln _ :: _, _ :: _, h => h.elim
 | .di _ :: _, [], h => h.elim
 | .di _ :: _, _ :: _, h => h.elim
 | .str _ :: _, [], h => h.elim
 | .str _ :: _, _ :: _, h => h.elim
theorem zO {ρ : Env} {ls : Ls} : ∀ {sh : List Sh} {ds : Ds} {j : Nat}, w4 sh ds → (∀ i x, ds[i]? = some x → ρ.x (j + i) = x) → ai (RV ρ ls) (so sh j) (wZ sh ds)
 | [], _, _, _, _ => trivial
 | .one k :: sh, ds, j, h, hx => by
  obtain ⟨h1, h2⟩ := h
  have a1 := pD (ρ := ρ) (ls := ls) h1 hx
  have hl := vM h1
  have a2 := zO (ρ := ρ) (ls := ls) (j := j + 1) h2 fun i x hi => by
   rw [List.getElem?_drop] at hi
   have := hx (1 + i) x hi
   rwa [show j + (1 + i) = j + 1 + i by omega] at this
  show ai (RV ρ ls) (.c (QQ j k) :: so sh (j + 1)) (Cs [k] ds ++ wZ sh (ds.drop 1))
  match hk : Cs [k] ds, hl with
  | [v], _ =>
   rw [hk] at a1
   exact ⟨a1.1, a2⟩
 | .agg ks :: sh, ds, j, h, hx => by
  obtain ⟨h1, h2⟩ := h
  exact ⟨⟨_, rfl, pD h1 hx⟩, zO h2 fun i x hi => by
   rw [List.getElem?_drop] at hi
   have := hx (ks.length + i) x hi
   rwa [show j + (ks.length + i) = j + ks.length + i by omega] at this⟩
theorem gX {P : Program} {ρ : Env} {cf : a8} {c : kq} (hc : aP P ρ cf) {fn : Func} (hf : P.funcs[c.f]? = some fn) (hb : fn.body = some (gb fn)) (n : Nat)
 (h : ∀ ds, w4 c.args ds → (kE P cf fn n (so c.args 0)).pK { ρ with x := fun j => ds.getD j (xI 0) } (fun j => ρ.f j ds) c.fs c.res) : fZ P ρ c := by
 intro ds w hg hr _
 refine IL (ρ := { ρ with x := fun j => ds.getD j (xI 0) }) (hc.nT _) hf hb n hg (zO hr fun i x hi => ?_) (C6 (h ds hr))
 show ds.getD (0 + i) (xI 0) = x
 rw [Nat.zero_add, List.getD_eq_getElem?_getD, hi]; rfl
end Vc
end Go.Proofs.YtpmfkelglmgddaaGreatDoor
namespace Go.Proofs.YtpmfkelglmgddaaGreatDoor
namespace Vc
open Go Go.RowKit
set_option linter.unusedVariables false
theorem ab {a b : Prop} (h : a) (k : a → b) : a ∧ b := ⟨h, k h⟩
def ak (r : Int → Int → Y) (i o : Int) (e : X) : Int → Int → Y := fun j p => if j = i ∧ p = o then e.y else r j p
def ar (sz : Nat) (es : List X) : Int → Int → Y := fun j p => (es.getD (j.toNat * sz + p.toNat) (xI 0)).y
def z7 (es : List X) : Int → Int → Y := fun _ p => (es.getD p.toNat (xI 0)).y
def aE (r : Int → Int → Y) (n : Int) (s : Int → Int → Y) : Int → Int → Y := fun j p => if j < n then r j p else s (j - n) p
def de (r : Int → Int → Y) (lo : Int) : Int → Int → Y := fun j p => r (j + lo) p
def pT (r : Int → Int → Y) (lo m : Int) (s : Int → Int → Y) (slo : Int) : Int → Int → Y := fun j p => if lo ≤ j ∧ j < lo + m then s (j - lo + slo) p else r j p
def aH (r : Int → Int → Y) (n : Int) : X := ⟨n, false, .nilIface, r⟩
def cp (r : Int → Int → Y) (i o : Int) : X := ⟨(r i o).i, (r i o).b, (r i o).v, r0⟩
def pZ : List Sk → (Int → Y) → (Int → Y) → Int → Prop
 | [], _, _, _ => True
 | .int .. :: r, f, g, j => (f j).i = (g j).i ∧ pZ r f g (j + 1)
 | .bool :: r, f, g, j => (f j).b = (g j).b ∧ pZ r f g (j + 1)
 | .p8 :: r, f, g, j => (f j).v = (g j).v ∧ pZ r f g (j + 1)
 | .str _ :: r, f, g, j => ((f j).v = (g j).v ∧ (f j).i = (g j).i) ∧ pZ r f g (j + 1)
theorem dz : ∀ {sh : List Sk} {f g : Int → Y} {j : Int}, pZ sh f g j → gk sh f j = gk sh g j ∧ (oF sh g j → oF sh f j)
 | [], _, _, _, _ => ⟨rfl, fun h => h⟩
 | .int k lo hi :: r, f, g, j, h => by
  obtain ⟨h1, h2⟩ := h
  obtain ⟨i1, i2⟩ := dz h2
  exact ⟨by simp only [gk, iR]; rw [h1, i1], fun hh => ⟨by have := hh.1; simp only [dM] at this ⊢; rw [h1]; exact this, i2 hh.2⟩⟩
 | .bool :: r, f, g, j, h => by
  obtain ⟨h1, h2⟩ := h
  obtain ⟨i1, i2⟩ := dz h2
  exact ⟨by simp only [gk, iR]; rw [h1, i1], fun hh => ⟨trivial, i2 hh.2⟩⟩
 | .p8 :: r, f, g, j, h => by
  obtain ⟨h1, h2⟩ := h
  obtain ⟨i1, i2⟩ := dz h2
  exact ⟨by simp only [gk, iR]; rw [h1, i1], fun hh => ⟨by have := hh.1; simp only [dM] at this ⊢; rw [h1]; exact this, i2 hh.2⟩⟩
 | .str hi :: r, f, g, j, h => by
  obtain ⟨⟨h1, h1'⟩, h2⟩ := h
  obtain ⟨i1, i2⟩ := dz h2
  exact ⟨by simp only [gk, iR]; rw [h1, i1], fun hh => ⟨by have := hh.1; simp only [dM] at this ⊢; rw [h1, h1']; exact this, i2 hh.2⟩⟩
def Mn : Sk → Sk → Bool
 | .int k _ _, .int k' _ _ => decide (k = k')
 | .bool, .bool => true
 | .p8, .p8 => true
 | .str _, .str _ => true
 | _, _ => false
def C7 : List Sk → List Sk → Bool
 | [], [] => true
 | a :: r, b :: s => Mn a b && C7 r s
 | _, _ => false
theorem Mo {a b : Sk} (h : Mn a b = true) (y : Y) : iR a y = iR b y := by
 cases a <;> cases b <;> simp [Mn] at h
 ·subst h; rfl
 all_goals rfl
theorem rX : ∀ {a b : List Sk}, C7 a b = true → a.length = b.length ∧ ∀ (f : Int → Y) (j : Int), gk a f j = gk b f j
 | [], [], _ => ⟨rfl, fun _ _ => rfl⟩
 | x :: r, y :: s, h => by
  simp only [C7, Bool.and_eq_true] at h
  obtain ⟨i1, i2⟩ := rX h.2
  exact ⟨by simp [i1], fun f j => by simp only [gk]; rw [Mo h.1, i2]⟩
 | [], _ :: _, h => by cases h
 | _ :: _, [], h => by cases h
theorem rY {a b : List Sk} (h : C7 a b = true) (R : Int → Int → Y) : ∀ n, aO a R n = aO b R n
 | 0 => rfl
 | n + 1 => by simp only [aO]; rw [rY h R n, (rX h).2]
def cR (sh : List Sk) (x : X) (R : Int → Int → Y) (n hi : Int) : Prop := x.i = n ∧ n ≤ hi ∧ ∀ i : Nat, (i : Int) < n → pZ sh (x.r i) (R i) 0
def wJ (ρ : Env) (hp : SH) (x : X) : nV → SC → Prop
 | .int k lo hi, .int k' e _ _ => if k = k' then ((ev ρ e).x.i = x.i ∧ lo ≤ x.i ∧ x.i ≤ hi) else False
 | .bool, .bool e => (sB ρ e ↔ x.b = true)
 | .di (.int k n), .int k' e _ _ => if k = k' then (ev ρ e).x.i = n else False
 | .str hi, .di (.string s) => x = xS s ∧ (s.size : Int) ≤ hi
 | .str hi, .str e _ => ((ev ρ e).x.v = x.v ∧ (ev ρ e).x.i = x.i) ∧ x.i ≤ hi
 | .row ty sh hi, .ow l => (match hp[l]? with
  | some ⟨true, ty', .row sh' R n _⟩ => if Nat.beq ty ty' && iw sh' sh then cR sh x (aU ρ R) (aa ρ n) hi else if Nat.beq ty ty' && C7 sh' sh then cR sh x (aU ρ R) (aa ρ n) hi ∧ au sh x.r (aa ρ n).toNat else False
  | some ⟨true, ty', .grow sz cs⟩ => if Nat.beq ty ty' && Nat.beq sz sh.length then (match mV sh [] cs with
   | some es => cR sh x (aU ρ (.bE sh.length (aL es))) (cs.length / sz : Nat) hi
   | none => False) else False
  | _ => False)
 | .row _ sh hi, .di (.slice none 0 0) => if decide (0 < sh.length) then x.i = 0 ∧ 0 ≤ hi else False
 | _, _ => False
def tV (ρ : Env) (hp : SH) (f : Nat → X) : Nat → List nV → List SC → Prop
 | _, [], [] => True
 | j, [r], [s] => wJ ρ hp (f j) r s
 | j, r :: rs, s :: ss => wJ ρ hp (f j) r s ∧ tV ρ hp f (j + 1) rs ss
 | _, _, _ => False
def jO (ρ : Env) (hp : SH) (f : Nat → X) : Nat → List (Bool × List nV) → List (Bool × List SC) → Prop
 | _, [], [] => True
 | j, (true, rs) :: l, (true, ss) :: m => tV ρ hp f j rs ss ∧ jO ρ hp f (j + rs.length) l m
 | j, (false, [r]) :: l, (false, [s]) :: m => wJ ρ hp (f j) r s ∧ jO ρ hp f (j + 1) l m
 | _, _, _ => False
def zP (ρ : Env) (hp : SH) (f : Nat → X) (j : Nat) : BX → SV → Prop
 | .one r, .c s => wJ ρ hp (f j) r s
 | .agg rs, .agg ss => tV ρ hp f j rs ss
 | .eJ l, .eJ m => jO ρ hp f j l m
 | _, _ => False
section
variable {P : Program} {ρ : Env} {B : Nat} {w0 w : World} {ls : Ls} {hp : SH} {cf : a8} {k : Nat → Option Loop}
theorem pE {x : X} {r : nV} {s : SC} {v : Value} (h : wJ ρ hp x r s) (hh : aB (ρ.wk k) B w0 ls hp w) (hr : RS ρ ls s v) : BZ B w x r v := by
 unfold wJ at h
 split at h
 ·split at h
  ·rename_i hk
   subst hk
   obtain ⟨h1, h2, h3⟩ := h
   exact ⟨by rw [hr.1, ← h1], h2, h3⟩
  ·exact h.elim
 ·rename_i e
  have hr' : v = .bool (al ρ e) := hr
  show v = .bool x.b
  rw [hr']
  congr 1
  have h' := (bC ρ e).symm.trans h
  show (ev ρ e).x.b = x.b
  cases h1 : (ev ρ e).x.b <;> cases h2 : x.b
  ·rfl
  ·rw [h1, h2] at h'; exact absurd (h'.2 rfl) (by simp)
  ·rw [h1, h2] at h'; exact absurd (h'.1 rfl) (by simp)
  ·rfl
 ·split at h
  ·rename_i hk
   subst hk
   show v = _
   rw [hr.1, ← h]
  ·exact h.elim
 ·rename_i hi s
  obtain ⟨h1, h2⟩ := h
  have hr' : v = .string s := hr
  exact ⟨s, hr', by rw [h1]; rfl, by rw [h1]; rfl, h2⟩
 ·rename_i hi e hi'
  obtain ⟨⟨h1, h2⟩, h3⟩ := h
  obtain ⟨s, g1, g2, g3, g4⟩ := hr
  have g3' : (ev ρ e).x.i = s.size := g3
  exact ⟨s, g1, by rw [← h1]; exact g2, by rw [← h2]; exact g3', by omega⟩
 ·rename_i ty sh hi l
  split at h
  ·rename_i ty' sh' R n hi' hl
   split at h
   ·rename_i hc
    simp only [Bool.and_eq_true] at hc
    obtain ⟨c1, c2⟩ := hc
    have c1 := Nat.eq_of_beq_eq_true c1
    subst c1
    obtain ⟨h1, h2, h3⟩ := h
    obtain ⟨A, c, e1, e2, e3, e4, e5, e6, e7, _⟩ := hh.bA l _ hl
    rw [gn] at e1 e2 e3 e4 e6 e7
    rw [kX] at e6 e7
    obtain ⟨g1, _⟩ := hr
    rw [g1] at e1; cases e1
    have hrow := dW c2 (aU ρ R) (aa ρ n).toNat
    have hel : ∀ i : Nat, i < (aa ρ n).toNat → gk sh (x.r i) 0 = gk sh (aU ρ R i) 0 := fun i hi => (dz (h3 i (by omega))).1
    have dZ : au sh x.r (aa ρ n).toNat := fun i hi => (dz (h3 i (by omega))).2 (hrow.1 e6 i hi)
    show (∃ A' c', _ ∧ x.i.toNat ≤ c') ∧ _
    rw [h1]
    refine ⟨⟨A, c, rfl, e4⟩, e2, h2, by rw [← eZ c2]; exact e5, dZ, ?_⟩
    have := e7 rfl
    rw [hrow.2, ← bQ hel, eZ c2] at this
    exact this
   ·split at h
    ·rename_i hc
     simp only [Bool.and_eq_true] at hc
     obtain ⟨c1, c2⟩ := hc
     have c1 := Nat.eq_of_beq_eq_true c1
     subst c1
     obtain ⟨⟨h1, h2, h3⟩, dZ⟩ := h
     obtain ⟨A, c, e1, e2, e3, e4, e5, e6, e7, _⟩ := hh.bA l _ hl
     rw [gn] at e1 e2 e3 e4 e6 e7
     rw [kX] at e6 e7
     obtain ⟨g1, _⟩ := hr
     rw [g1] at e1; cases e1
     have hrow := rY c2 (aU ρ R) (aa ρ n).toNat
     have hel : ∀ i : Nat, i < (aa ρ n).toNat → gk sh (x.r i) 0 = gk sh (aU ρ R i) 0 := fun i hi => (dz (h3 i (by omega))).1
     show (∃ A' c', _ ∧ x.i.toNat ≤ c') ∧ _
     rw [h1]
     refine ⟨⟨A, c, rfl, e4⟩, e2, h2, by rw [← (rX c2).1]; exact e5, dZ, ?_⟩
     have := e7 rfl
     rw [hrow, ← bQ hel, (rX c2).1] at this
     exact this
    ·exact h.elim
  ·rename_i ty' sz cs hl
   split at h
   ·rename_i hc
    simp only [Bool.and_eq_true] at hc
    obtain ⟨c1, c2⟩ := hc
    have c1 := Nat.eq_of_beq_eq_true c1
    have c2 := Nat.eq_of_beq_eq_true c2
    subst c1 c2
    split at h
    ·rename_i es ht
     obtain ⟨h1, h2, h3⟩ := h
     obtain ⟨_, h0, A, n, c, vs, e1, e2, e3, hown⟩ := hh.bA l _ hl
     obtain ⟨g1, _⟩ := hr
     rw [g1] at e1; cases e1
     have hn : cs.length / sh.length = n := by rw [e3.len, e2]; exact Nat.mul_div_cancel _ h0
     rw [hn] at h1 h2 h3
     obtain ⟨t1, t2⟩ := lT (n := n) ht e3 e2
     have hev : (ev (ρ.wk k) (.eY (.bE sh.length (aL es)) (.ic n))).x.r = aU ρ (.bE sh.length (aL es)) := by rw [jv]; rfl
     rw [hev] at t1 t2
     have hel : ∀ i : Nat, i < n → gk sh (x.r i) 0 = gk sh (aU ρ (.bE sh.length (aL es)) i) 0 := fun i hi => (dz (h3 i (by omega))).1
     have dZ : au sh x.r n := fun i hi => (dz (h3 i (by omega))).2 (t1 i hi)
     have hnc : n ≤ c := by
      rcases hown.2 with ⟨e', _⟩ | ⟨g, cap, cur, e', _, _, h5, _⟩
      ·injection e' with _ e' e''; omega
      ·injection e' with _ _ e''; omega
     show (∃ A' c', _ ∧ x.i.toNat ≤ c') ∧ _
     rw [h1]
     simp only [Int.toNat_natCast]
     refine ⟨⟨A, c, rfl, hnc⟩, by omega, h2, h0, dZ, ?_⟩
     rw [bQ hel, t2]
     exact hown
    ·exact h.elim
   ·exact h.elim
  ·exact h.elim
 ·split at h
  ·rename_i hc
   have hr' : v = _ := hr
   subst hr'
   obtain ⟨h1, h2⟩ := h
   show (∃ A' c', _ ∧ x.i.toNat ≤ c') ∧ _
   rw [h1]
   exact ⟨⟨none, 0, rfl, Nat.le_refl _⟩, Int.le_refl _, h2, of_decide_eq_true hc, fun i hi => by simp at hi, World.ownsRow_nil w B _ _⟩
  ·exact h.elim
 ·exact h.elim
theorem rZ {f : Nat → X} (hh : aB (ρ.wk k) B w0 ls hp w) : ∀ {rs : List nV} {j : Nat} {ss : List SC} {vs : List Value}, tV ρ hp f j rs ss → ai (RS ρ ls) ss vs → Jx B w f j rs vs
 | [], _, [], [], _, _ => trivial
 | [r], _, [s], [v], h, hr => ⟨pE h hh hr.1, trivial⟩
 | r :: r' :: rs, j, s :: s' :: ss, v :: vs, h, hr => ⟨pE h.1 hh hr.1, rZ hh (rs := r' :: rs) (ss := s' :: ss) h.2 hr.2⟩
 | [], _, [], _ :: _, _, hr => hr.elim
 | [], _, _ :: _, _, h, _ => h.elim
 | [_], _, [], _, h, _ => h.elim
 | _ :: _ :: _, _, [], _, h, _ => h.elim
 | [_], _, [_], [], _, hr => hr.elim
 | [_], _, [_], _ :: _ :: _, _, hr => hr.2.elim
 | [_], j, _ :: s' :: ss, _, h, _ => by simp [tV] at h
 | _ :: _ :: _, _, [_], _, h, _ => by simp [tV] at h
 | _ :: _ :: _, _, _ :: _ :: _, [], _, hr => hr.elim
theorem r8 {f : Nat → X} (hh : aB (ρ.wk k) B w0 ls hp w) : ∀ {l : List (Bool × List nV)} {j : Nat} {m : List (Bool × List SC)} {vs : List Value}, jO ρ hp f j l m → ai (RE ρ ls) m vs → Cw B w f j l vs
 | [], _, [], [], _, _ => trivial
 | (true, rs) :: l, j, (true, ss) :: m, v :: vs, h, hr => by
  obtain ⟨⟨us, rfl, h1⟩, h2⟩ := hr
  exact ⟨⟨us, rfl, rZ hh h.1 h1⟩, r8 hh h.2 h2⟩
 | (false, [r]) :: l, j, (false, [s]) :: m, v :: vs, h, hr => ⟨pE h.1 hh hr.1, r8 hh h.2 hr.2⟩
 | [], _, [], _ :: _, _, hr => hr.elim
 | [], _, _ :: _, _, h, _ => h.elim
 | _ :: _, _, [], _, h, _ => by simp [jO] at h
 | (true, _) :: _, _, (false, _) :: _, _, h, _ => by simp [jO] at h
 | (false, _) :: _, _, (true, _) :: _, _, h, _ => by simp [jO] at h
 | (true, _) :: _, _, (true, _) :: _, [], _, hr => hr.elim
 | (false, [_]) :: _, _, (false, [_]) :: _, [], _, hr => hr.elim
 | (false, []) :: _, _, (false, _) :: _, _, h, _ => by simp [jO] at h
 | (false, _ :: _ :: _) :: _, _, (false, _) :: _, _, h, _ => by simp [jO] at h
 | (false, [_]) :: _, _, (false, []) :: _, _, h, _ => by simp [jO] at h
 | (false, [_]) :: _, _, (false, _ :: _ :: _) :: _, _, h, _ => by simp [jO] at h
theorem C8 {f : Nat → X} {j : Nat} {r : BX} {s : SV} {v : Value} (h : zP ρ hp f j r s) (hh : aB (ρ.wk k) B w0 ls hp w) (hr : RV ρ ls s v) : w6 B w f j r v := by
 unfold zP at h
 split at h
 ·exact pE h hh hr
 ·obtain ⟨us, rfl, h1⟩ := hr; exact ⟨us, rfl, rZ hh h h1⟩
 ·obtain ⟨us, rfl, h1⟩ := hr; exact ⟨us, rfl, r8 hh h h1⟩
 ·exact h.elim
end
def bS (f : Nat → X) (j : Nat) (r : BX) : Env → Fm → Prop
 | _, .Dd => True
 | _, .c9 => False
 | ρ, .and a b => bS f j r ρ a ∧ bS f j r ρ b
 | ρ, .imp g a => sB ρ g → bS f j r ρ a
 | ρ, .yJ e => sB ρ e
 | ρ, .pre k A => ρ.p k (ev ρ A).l
 | ρ, .leaf v hp => zP ρ hp f j r v
 | ρ, .all m a => ∀ y : X, bS f j r (ρ.uI m y) a
 | ρ, .oI k A a => ρ.p k (ev ρ A).l → bS f j r ρ a
 | ρ, .oJ sh R n hi a => (0 ≤ aa ρ n ∧ aa ρ n ≤ hi ∧ au sh (aU ρ R) (aa ρ n).toNat) → bS f j r ρ a
theorem bZ {f : Nat → X} {j : Nat} {r : BX} {B : Nat} {w0 : World} : ∀ {F : Fm} {ρ : Env}, bS f j r ρ F → F.holds (fun ρ => bk ρ B w0 fun e w' => ∃ v, e = .returned v ∧ w6 B w' f j r v ∧ Below w0.heap.size w0 w') ρ
 | .Dd, _, _ => trivial
 | .c9, _, h => h
 | .and _ _, _, h => ⟨bZ h.1, bZ h.2⟩
 | .imp g a, _, h => fun hg => bZ (F := a) (h hg)
 | .yJ _, _, h => h
 | .pre _ _, _, h => h
 | .leaf v hp, ρ, h => fun k ls w' val hh hr => ⟨val, rfl, C8 (ρ := ρ) (ls := ls) h hh (by rw [AO] at hr; exact hr), by have := hh.below; rwa [hh.base] at this⟩
 | .all m a, ρ, h => fun y => bZ (F := a) (h y)
 | .oI _ _ a, _, h => fun hp => bZ (F := a) (h hp)
 | .oJ _ _ _ _ a, _, h => fun hp => bZ (F := a) (h hp)
def Oy (j l : Nat) : RA → SC
 | .int k lo hi => .int k (if lo = hi then .ic lo else .var j) lo hi
 | .bool => .bool (.var j)
 | .str hi => .str (.var j) hi
 | .row .. => .ow l
 | .abs t => .abs t [l] .nil
def RA.ec : RA → Bool
 | .row .. => true
 | .abs _ => true
 | _ => false
def RA.nx (k : RA) (l : Nat) : Nat := if k.ec then l + 1 else l
def C9 : List RA → Nat → Nat → List SC
 | [], _, _ => []
 | k :: ks, j, l => Oy j l k :: C9 ks (j + 1) (k.nx l)
def ft : List RA → Nat
 | [] => 0
 | k :: ks => (if k.ec then 1 else 0) + ft ks
def pW : List iY → Nat → Nat → List SV
 | [], _, _ => []
 | .one k :: sh, j, l => .c (Oy j l k) :: pW sh (j + 1) (k.nx l)
 | .agg ks :: sh, j, l => .agg (C9 ks j l) :: pW sh (j + ks.length) (l + ft ks)
 | .lH ks :: sh, j, l => .c (Hu (C9 ks j l)) :: pW sh (j + ks.length) (l + ft ks)
 | .ptr ks :: sh, j, l => .c (.ptr (l + ft ks) 0) :: pW sh (j + ks.length) (l + ft ks + 1)
def sN (j : Nat) : RA → SH
 | .row sh hi => [⟨false, 0, .row sh (.var j) (.var j) hi⟩]
 | .abs t => [⟨false, 0, .abs t [] (.cons (.var j) .nil)⟩]
 | _ => []
def oq : List RA → Nat → SH
 | [], _ => []
 | k :: ks, j => sN j k ++ oq ks (j + 1)
def r9 : List iY → Nat → Nat → SH
 | [], _, _ => []
 | .one k :: sh, j, l => sN j k ++ r9 sh (j + 1) (k.nx l)
 | .agg ks :: sh, j, l => oq ks j ++ r9 sh (j + ks.length) (l + ft ks)
 | .lH ks :: sh, j, l => oq ks j ++ r9 sh (j + ks.length) (l + ft ks)
 | .ptr ks :: sh, j, l => (oq ks j ++ [⟨false, 0, .cells (C9 ks j l)⟩]) ++ r9 sh (j + ks.length) (l + ft ks + 1)
def Ah (sh : List iY) (j : Nat) : SH := r9 sh j 0
def uk : List RA → Ds → Prop
 | [], _ => True
 | k :: ks, d :: ds => NH d k ∧ uk ks ds
 | _, [] => False
def fv : List iY → Ds → Prop
 | [], ds => ds = []
 | .one k :: sh, d :: ds => NH d k ∧ fv sh ds
 | .one _ :: _, [] => False
 | .agg ks :: sh, ds => uk ks (ds.take ks.length) ∧ ks.length ≤ ds.length ∧ fv sh (ds.drop ks.length)
 | .lH ks :: sh, ds => uk ks (ds.take ks.length) ∧ ks.length ≤ ds.length ∧ fv sh (ds.drop ks.length)
 | .ptr ks :: sh, ds => uk ks (ds.take ks.length) ∧ ks.length ≤ ds.length ∧ fv sh (ds.drop ks.length)
def sO : List iY → List RA
 | [] => []
 | .one k :: sh => k :: sO sh
 | .agg ks :: sh => ks ++ sO sh
 | .ptr ks :: sh => ks ++ sO sh
 | .lH ks :: sh => ks ++ sO sh
def IY : List RA → Ds → Prop
 | [], ds => ds = []
 | _ :: _, [] => False
 | k :: ks, d :: ds => NH d k ∧ IY ks ds
theorem mJ : ∀ {ks ks' : List RA} {ds : Ds}, uk ks (ds.take ks.length) → ks.length ≤ ds.length → IY ks' (ds.drop ks.length) → IY (ks ++ ks') ds
 | [], _, ds, _, _, h => h
 | _ :: _, _, [], _, h, _ => by simp at h
 | k :: ks, ks', d :: ds, h1, h2, h3 => ⟨h1.1, mJ (ks := ks) h1.2 (by simpa using h2) h3⟩
theorem aA : ∀ {sh : List iY} {ds : Ds}, fv sh ds → IY (sO sh) ds
 | [], _, h => h
 | .one k :: sh, d :: ds, h => ⟨h.1, aA (sh := sh) h.2⟩
 | .one _ :: _, [], h => h.elim
 | .agg ks :: sh, ds, h => mJ h.1 h.2.1 (aA (sh := sh) h.2.2)
 | .ptr ks :: sh, ds, h => mJ h.1 h.2.1 (aA (sh := sh) h.2.2)
 | .lH ks :: sh, ds, h => mJ h.1 h.2.1 (aA (sh := sh) h.2.2)
section
variable {P : Program} {ρ : Env} {w : World} {cf : a8}
def sa (ρ : Env) (w : World) (n : Nat) (ls : Ls) (hp : SH) : Prop := ls.length = hp.length ∧ ∀ (pre post : Ls), pre.length = n → ∀ (i : Nat) (x : HE), hp[i]? = some x → x.wr = false ∧ aT ρ w.heap.size w (pre ++ ls ++ post) (n + i) x
theorem sa.app {n : Nat} {ls ls' : Ls} {hp hp' : SH} (h : sa ρ w n ls hp) (h' : sa ρ w (n + ls.length) ls' hp') : sa ρ w n (ls ++ ls') (hp ++ hp') := by
 refine ⟨by simp [h.1, h'.1], fun pre post hn i x hx => ?_⟩
 rw [List.getElem?_append] at hx
 split at hx
 ·have := h.2 pre (ls' ++ post) hn i x hx
  rwa [show pre ++ ls ++ (ls' ++ post) = pre ++ (ls ++ ls') ++ post by simp [List.append_assoc]] at this
 ·rename_i hlt
  have := h'.2 (pre ++ ls) post (by rw [List.length_append, hn]) _ x hx
  rw [show pre ++ ls ++ ls' ++ post = pre ++ (ls ++ ls') ++ post by simp [List.append_assoc], h.1, show n + hp.length + (i - hp.length) = n + i by omega] at this
  exact this
theorem sa.dZ {ls : Ls} {hp : SH} (h : sa ρ w 0 ls hp) (hg : cE ρ.g w.heap.size w) : aB ρ w.heap.size w ls hp w :=
 ⟨Below.refl _ _, rfl, h.1, hg, fun i x hx => by
   have := (h.2 [] [] rfl i x hx).2
   simpa using this, fun i j x y b hx _ lx _ _ => by
   have := (h.2 [] [] rfl i x hx).1
   simp [HE.live, this] at lx⟩
def mK (w : World) (v : Value) (k : RA) : Ls := if k.ec then [match k with | .abs _ => yM w v | _ => v] else []
theorem JN {d : X} {j : Nat} {k : RA} {v : Value} (h : Jw w d k v) (hx : ρ.x j = d) : NH d k ∧ (∀ n, sa ρ w n (mK w v k) (sN j k)) ∧ ∀ (pre post : Ls), RS ρ (pre ++ mK w v k ++ post) (Oy j pre.length k) v := by
 cases k with
 | int k lo hi =>
  obtain ⟨h1, h2, h3, h4⟩ := h
  refine ⟨⟨h2, h3, h4⟩, fun n => ⟨rfl, fun _ _ _ i x hx => by simp [sN] at hx⟩, fun pre post => ?_⟩
  have e : aa ρ (if lo = hi then .ic lo else .var j) = d.i := vL hx h3 h4
  exact ⟨by rw [e]; exact h1, by rw [e]; exact h3, by rw [e]; exact h4⟩
 | bool =>
  obtain ⟨h1, h2⟩ := h
  refine ⟨h2, fun n => ⟨rfl, fun _ _ _ i x hx => by simp [sN] at hx⟩, fun pre post => ?_⟩
  show v = .bool (ρ.x j).b
  rw [hx]; exact h1
 | str hi =>
  obtain ⟨s, h1, h2, h3, h4⟩ := h
  refine ⟨⟨s, h2, h3, h4⟩, fun n => ⟨rfl, fun _ _ _ i x hx => by simp [sN] at hx⟩, fun pre post => ⟨s, h1, ?_, ?_, h4⟩⟩
  ·show (ρ.x j).v = _; rw [hx]; exact h2
  ·show (ρ.x j).i = _; rw [hx]; exact h3
 | row sh hi =>
  obtain ⟨A, c, h1, h2, h3, h4, h5, h6, h7⟩ := h
  have eI : aa ρ (.var j) = d.i := congrArg X.i hx
  have eR : aU ρ (.var j) = d.r := congrArg X.r hx
  refine ⟨⟨h2, h3, h6⟩, fun n => ⟨rfl, fun pre post hn i x hi' => ?_⟩, fun pre post => ⟨by simp [mK, RA.ec], A, _, c, h1⟩⟩
  cases i with
  | succ i => simp [sN] at hi'
  | zero =>
   simp [sN] at hi'
   subst hi'
   refine ⟨rfl, A, c, by rw [eI, ← hn]; simp [mK, RA.ec, h1], by rw [eI]; exact h2, by rw [eI]; exact h3, by rw [eI]; exact h4, h5, by rw [eI, eR]; exact h6, (fun e => by cases e), fun _ h0 => ?_⟩
   rw [eI] at h0
   rw [eI, eR]; exact h7 h0
 | abs t =>
  obtain ⟨h1, h2, h3⟩ := HW (o := ρ.o) (B := w.heap.size) h
  refine ⟨h1, fun n => ⟨rfl, fun pre post hn i x hi' => ?_⟩, fun pre post => ⟨[yM w v], ⟨by simp [mK, RA.ec], trivial⟩, h3⟩⟩
  cases i with
  | succ i => simp [sN] at hi'
  | zero =>
   simp [sN] at hi'
   subst hi'
   refine ⟨rfl, yM w v, [], by rw [← hn]; simp [mK, RA.ec], trivial, ?_⟩
   show nn ρ.o t false w.heap.size w (yM w v) [] [ρ.x j]
   rw [hx]; exact h2
theorem pF : ∀ {ks : List RA} {ds : Ds} {vs : List Value}, Ba w ks ds vs → ds.length = ks.length
 | [], [], [], _ => rfl
 | _ :: _, _ :: _, _ :: _, h => by simp [pF h.2]
 | [], [], _ :: _, h => h.elim
 | [], _ :: _, _, h => h.elim
 | _ :: _, [], _, h => h.elim
 | _ :: _, _ :: _, [], h => h.elim
def dv (w : World) : List Value → List RA → Ls
 | v :: vs, k :: ks => mK w v k ++ dv w vs ks
 | _, _ => []
theorem sb (w : World) (v : Value) (k : RA) (n : Nat) : k.nx n = n + (mK w v k).length := by unfold RA.nx mK; split <;> simp
theorem pG : ∀ {ks : List RA} {ds : Ds} {vs : List Value} {j : Nat}, Ba w ks ds vs → (∀ i x, ds[i]? = some x → ρ.x (j + i) = x) →
 uk ks ds ∧ (∀ n, sa ρ w n (dv w vs ks) (oq ks j)) ∧ (dv w vs ks).length = ft ks ∧ ∀ (pre post : Ls), ai (RS ρ (pre ++ dv w vs ks ++ post)) (C9 ks j pre.length) vs
 | [], [], [], j, _, _ => ⟨trivial, fun n => ⟨rfl, fun _ _ _ i x hx => by simp [oq] at hx⟩, rfl, fun _ _ => trivial⟩
 | k :: ks, d :: ds, v :: vs, j, h, hx => by
  obtain ⟨a1, a2, a3⟩ := JN (ρ := ρ) (j := j) h.1 (hx 0 d rfl)
  obtain ⟨b1, b2, b3, b4⟩ := pG (j := j + 1) h.2 fun i x hi => by
   have := hx (i + 1) x (by simpa using hi)
   rwa [show j + (i + 1) = j + 1 + i by omega] at this
  refine ⟨⟨a1, b1⟩, fun n => (a2 n).app (b2 _), ?_, fun pre post => ⟨?_, ?_⟩⟩
  ·show (mK w v k ++ dv w vs ks).length = _
   rw [List.length_append, b3]
   simp only [ft, mK]
   split <;> simp
  ·have := a3 pre (dv w vs ks ++ post)
   simpa [dv, List.append_assoc] using this
  ·have := b4 (pre ++ mK w v k) post
   rw [List.length_append, ← sb] at this
   simpa [dv, List.append_assoc] using this
 | [], [], _ :: _, _, h, _ => h.elim
 | [], _ :: _, _, _, h, _ => h.elim
 | _ :: _, [], _, _, h, _ => h.elim
 | _ :: _, _ :: _, [], _, h, _ => h.elim
theorem mL : ∀ {sh : List iY} {ds : Ds} {vs : List Value} {j n : Nat}, bT w sh ds vs → (∀ i x, ds[i]? = some x → ρ.x (j + i) = x) →
 ∃ lsn : Ls, fv sh ds ∧ sa ρ w n lsn (r9 sh j n) ∧ ∀ (pre post : Ls), pre.length = n → ai (RV ρ (pre ++ lsn ++ post)) (pW sh j n) vs
 | [], [], [], j, n, _, _ => ⟨[], rfl, ⟨rfl, fun _ _ _ i x hx => by simp [r9] at hx⟩, fun _ _ _ => trivial⟩
 | .one k :: sh, d :: ds, v :: vs, j, n, h, hx => by
  obtain ⟨a1, a2, a3⟩ := JN (ρ := ρ) (j := j) h.1 (hx 0 d rfl)
  obtain ⟨lsn, b1, b2, b3⟩ := mL (j := j + 1) (n := k.nx n) h.2 fun i x hi => by
   have := hx (i + 1) x (by simpa using hi)
   rwa [show j + (i + 1) = j + 1 + i by omega] at this
  refine ⟨mK w v k ++ lsn, ⟨a1, b1⟩, (a2 n).app (by rw [← sb]; exact b2), fun pre post hn => ⟨?_, ?_⟩⟩
  ·have := a3 pre (lsn ++ post)
   show RS ρ _ (Oy j n k) v
   rw [hn] at this
   simpa [List.append_assoc] using this
  ·have := b3 (pre ++ mK w v k) post (by rw [List.length_append, hn, sb])
   simpa [List.append_assoc] using this
 | .agg ks :: sh, ds, v :: vs, j, n, h, hx => by
  obtain ⟨⟨us, rfl, h1⟩, h2⟩ := h
  have hl := pF h1
  obtain ⟨a1, a2, a3, a4⟩ := pG (ρ := ρ) (j := j) h1 fun i x hi => by
   rw [List.getElem?_take] at hi
   split at hi
   ·exact hx i x hi
   ·cases hi
  obtain ⟨lsn, b1, b2, b3⟩ := mL (j := j + ks.length) (n := n + ft ks) h2 fun i x hi => by
   rw [List.getElem?_drop] at hi
   have := hx (ks.length + i) x hi
   rwa [show j + (ks.length + i) = j + ks.length + i by omega] at this
  refine ⟨dv w us ks ++ lsn, ⟨a1, by simp at hl; omega, b1⟩, (a2 n).app (by rw [a3]; exact b2), fun pre post hn => ⟨⟨us, rfl, ?_⟩, ?_⟩⟩
  ·have := a4 pre (lsn ++ post)
   rw [hn] at this
   simpa [List.append_assoc] using this
  ·have := b3 (pre ++ dv w us ks) post (by rw [List.length_append, hn, a3])
   simpa [List.append_assoc] using this
 | .lH ks :: sh, ds, v :: vs, j, n, h, hx => by
  obtain ⟨⟨us, rfl, h1⟩, h2⟩ := h
  have hl := pF h1
  obtain ⟨a1, a2, a3, a4⟩ := pG (ρ := ρ) (j := j) h1 fun i x hi => by
   rw [List.getElem?_take] at hi
   split at hi
   ·exact hx i x hi
   ·cases hi
  obtain ⟨lsn, b1, b2, b3⟩ := mL (j := j + ks.length) (n := n + ft ks) h2 fun i x hi => by
   rw [List.getElem?_drop] at hi
   have := hx (ks.length + i) x hi
   rwa [show j + (ks.length + i) = j + ks.length + i by omega] at this
  refine ⟨dv w us ks ++ lsn, ⟨a1, by simp at hl; omega, b1⟩, (a2 n).app (by rw [a3]; exact b2), fun pre post hn => ⟨Az ?_, ?_⟩⟩
  ·have := a4 pre (lsn ++ post)
   rw [hn] at this
   simpa [List.append_assoc] using this
  ·have := b3 (pre ++ dv w us ks) post (by rw [List.length_append, hn, a3])
   simpa [List.append_assoc] using this
 | .ptr ks :: sh, ds, v :: vs, j, n, h, hx => by
  obtain ⟨⟨a, us, rfl, hc, hb, h1⟩, h2⟩ := h
  have hl := pF h1
  obtain ⟨a1, a2, a3, a4⟩ := pG (ρ := ρ) (j := j) h1 fun i x hi => by
   rw [List.getElem?_take] at hi
   split at hi
   ·exact hx i x hi
   ·cases hi
  obtain ⟨lsn, b1, b2, b3⟩ := mL (j := j + ks.length) (n := n + ft ks + 1) h2 fun i x hi => by
   rw [List.getElem?_drop] at hi
   have := hx (ks.length + i) x hi
   rwa [show j + (ks.length + i) = j + ks.length + i by omega] at this
  have hlen : (dv w us ks ++ [Value.pointer (some a)]).length = ft ks + 1 := by rw [List.length_append, a3]; rfl
  have hp1 : sa ρ w n (dv w us ks ++ [.pointer (some a)]) (oq ks j ++ [⟨false, 0, .cells (C9 ks j n)⟩]) := by
   refine ⟨by rw [List.length_append, List.length_append, (a2 n).1]; rfl, fun pre post hn i x hx => ?_⟩
   rw [List.getElem?_append] at hx
   split at hx
   ·have := (a2 n).2 pre ([.pointer (some a)] ++ post) hn i x hx
    rwa [show pre ++ dv w us ks ++ ([Value.pointer (some a)] ++ post) = pre ++ (dv w us ks ++ [.pointer (some a)]) ++ post by simp [List.append_assoc]] at this
   ·rename_i hlt
    have hi0 : i - (oq ks j).length = 0 := by
     have := (List.getElem?_eq_some_iff.1 hx).1
     simp at this
     omega
    rw [hi0] at hx
    cases hx
    have hil : i = ft ks := by
     have := (a2 n).1
     rw [a3] at this
     omega
    subst hil
    refine ⟨rfl, a, us, ?_, ?_, hc, (fun e => by cases e), fun _ => hb⟩
    ·rw [List.append_assoc, List.getElem?_append_right (by omega), hn, List.append_assoc, List.getElem?_append_right (by rw [a3]; omega), a3]
     simp
    ·have := a4 pre ([.pointer (some a)] ++ post)
     rw [hn] at this
     rwa [show pre ++ dv w us ks ++ ([Value.pointer (some a)] ++ post) = pre ++ (dv w us ks ++ [.pointer (some a)]) ++ post by simp [List.append_assoc]] at this
  refine ⟨(dv w us ks ++ [.pointer (some a)]) ++ lsn, ⟨a1, by simp at hl; omega, b1⟩, hp1.app (by rw [hlen, ← Nat.add_assoc]; exact b2), fun pre post hn => ⟨?_, ?_⟩⟩
  ·refine ⟨a, ?_, rfl⟩
   show (pre ++ (dv w us ks ++ [.pointer (some a)] ++ lsn) ++ post)[n + ft ks]? = _
   rw [List.append_assoc, List.getElem?_append_right (by omega), hn, List.append_assoc, List.append_assoc, List.getElem?_append_right (by rw [a3]; omega), a3]
   simp
  ·have := b3 (pre ++ (dv w us ks ++ [.pointer (some a)])) post (by rw [List.length_append, hn, hlen]; omega)
   simpa [List.append_assoc] using this
 | [], [], _ :: _, _, _, h, _ => h.elim
 | [], _ :: _, _, _, _, h, _ => by cases h
 | .one _ :: _, [], _, _, _, h, _ => by cases h
 | .one _ :: _, _ :: _, [], _, _, h, _ => h.elim
 | .agg _ :: _, _, [], _, _, h, _ => by simp [bT] at h
 | .ptr _ :: _, _, [], _, _, h, _ => by simp [bT] at h
 | .lH _ :: _, _, [], _, _, h, _ => by simp [bT] at h
theorem mZ {sh : List iY} {ds : Ds} {vs : List Value} {j : Nat} (h : bT w sh ds vs) (hx : ∀ i x, ds[i]? = some x → ρ.x (j + i) = x) :
 ∃ lsn : Ls, fv sh ds ∧ sa ρ w 0 lsn (Ah sh j) ∧ ai (RV ρ lsn) (pW sh j 0) vs := by
 obtain ⟨lsn, h1, h2, h3⟩ := mL (j := j) (n := 0) h hx
 have := h3 [] [] rfl
 rw [List.nil_append, List.append_nil] at this
 exact ⟨lsn, h1, h2, this⟩
def bP (P : Program) (cf : a8) (fn : Func) (n : Nat) (args : List iY) : Fm := go P cf 0 fn n (.code (gb fn)) [] (gj fn (pW args 0 0) (Ah args 0)) [] none
theorem db {c : br} (hc : aP P ρ cf) {fn : Func} (hf : P.funcs[c.f]? = some fn) (hb : fn.body = some (gb fn)) (n : Nat) (hpre : c.pre = none)
 (h : ∀ ds, fv c.args ds → bS (fun j => ρ.f j ds) c.fs c.res { ρ with x := fun j => ds.getD j (xI 0) } (bP P cf fn n c.args)) : aZ P ρ c := by
 intro ds vs w hg hr _
 obtain ⟨lsn, b1, b2, b3⟩ := mZ (ρ := { ρ with x := fun j => ds.getD j (xI 0) }) (j := 0) hr fun i x hi => by
  show ds.getD (0 + i) (xI 0) = x
  rw [Nat.zero_add, List.getD_eq_getElem?_getD, hi]; rfl
 have hv := b3
 exact gE (ρ := { ρ with x := fun j => ds.getD j (xI 0) }) (hc.nT _) hf hb n (b2.dZ hg) hv (bZ (h ds b1))
theorem dm {c : br} (hc : aP P ρ cf) {fn : Func} (hf : P.funcs[c.f]? = some fn) (hb : fn.body = some (gb fn)) (n : Nat) {q : Nat} (hpre : c.pre = some q)
 (h : ∀ ds, fv c.args ds → ρ.p q ds → bS (fun j => ρ.f j ds) c.fs c.res { ρ with x := fun j => ds.getD j (xI 0) } (bP P cf fn n c.args)) : aZ P ρ c := by
 intro ds vs w hg hr hp
 rw [hpre] at hp
 obtain ⟨lsn, b1, b2, b3⟩ := mZ (ρ := { ρ with x := fun j => ds.getD j (xI 0) }) (j := 0) hr fun i x hi => by
  show ds.getD (0 + i) (xI 0) = x
  rw [Nat.zero_add, List.getD_eq_getElem?_getD, hi]; rfl
 have hv := b3
 exact gE (ρ := { ρ with x := fun j => ds.getD j (xI 0) }) (hc.nT _) hf hb n (b2.dZ hg) hv (bZ (h ds b1 hp))
def IZ : RA → RA → Bool
 | .int k _ _, .int k' _ _ => decide (k = k')
 | .bool, .bool => true
 | .str _, .str _ => true
 | .row sh _, .row sh' _ => C7 sh sh'
 | .abs t, .abs t' => decide (t = t')
 | _, _ => false
def ou : List RA → List RA → Bool
 | [], [] => true
 | a :: r, b :: s => IZ a b && ou r s
 | _, _ => false
def kN : List iY → List iY → Bool
 | [], [] => true
 | .one a :: r, .one b :: s => IZ a b && kN r s
 | .agg a :: r, .agg b :: s => ou a b && kN r s
 | .ptr a :: r, .ptr b :: s => ou a b && kN r s
 | .lH a :: r, .lH b :: s => ou a b && kN r s
 | _, _ => false
theorem BI {d : X} {a b : RA} {v : Value} (h : IZ a b = true) (hr : Jw w d a v) (hx : NH d b) : Jw w d b v := by
 unfold IZ at h
 split at h
 ·have h := of_decide_eq_true h
  subst h
  exact ⟨hr.1, hx⟩
 ·exact hr
 ·obtain ⟨s, h1, h2, h3, _⟩ := hr
  obtain ⟨s', g1, g2, g3⟩ := hx
  rw [h2] at g1; cases g1
  exact ⟨s, h1, h2, h3, g3⟩
 ·rename_i sh hi sh' hi'
  obtain ⟨hl, _⟩ := rX h
  obtain ⟨A, c, h1, h2, h3, h4, h5, h6, h7⟩ := hr
  obtain ⟨g1, g2, g3⟩ := hx
  exact ⟨A, c, h1, h2, g2, h4, by rw [← hl]; exact h5, g3, fun hn => by
   obtain ⟨a, ha, hc⟩ := h7 hn
   refine ⟨a, ha, ?_⟩
   rw [← rY h]; exact hc⟩
 ·have h := of_decide_eq_true h
  subst h
  exact hr
 ·cases h
theorem mM : ∀ {a b : List RA} {ds : Ds} {vs : List Value}, ou a b = true → Ba w a ds vs → uk b ds → a.length = b.length ∧ Ba w b ds vs
 | [], [], _, _, _, hr, _ => ⟨rfl, hr⟩
 | a :: r, b :: s, d :: ds, v :: vs, h, hr, hx => by
  simp only [ou, Bool.and_eq_true] at h
  obtain ⟨e, h2⟩ := mM h.2 hr.2 hx.2
  exact ⟨by simp [e], BI h.1 hr.1 hx.1, h2⟩
 | _ :: _, _ :: _, [], _, _, hr, _ => by cases hr
 | _ :: _, _ :: _, _ :: _, [], _, hr, _ => by cases hr
 | [], _ :: _, _, _, h, _, _ => by cases h
 | _ :: _, [], _, _, h, _, _ => by cases h
theorem kn : ∀ {a b : List RA}, ou a b = true → a.length = b.length
 | [], [], _ => rfl
 | a :: r, b :: s, h => by
  simp only [ou, Bool.and_eq_true] at h
  simp [kn h.2]
 | [], _ :: _, h => by cases h
 | _ :: _, [], h => by cases h
theorem jP : ∀ {a b : List iY} {ds : Ds} {vs : List Value}, kN a b = true → bT w a ds vs → fv b ds → bT w b ds vs
 | [], [], _, _, _, hr, _ => hr
 | .one a :: r, .one b :: s, d :: ds, v :: vs, h, hr, hx => by
  simp only [kN, Bool.and_eq_true] at h
  exact ⟨BI h.1 hr.1 hx.1, jP h.2 hr.2 hx.2⟩
 | .agg a :: r, .agg b :: s, ds, v :: vs, h, hr, hx => by
  simp only [kN, Bool.and_eq_true] at h
  obtain ⟨⟨us, h1, h2⟩, h3⟩ := hr
  obtain ⟨g1, _, g3⟩ := hx
  have el := kn h.1
  rw [el] at h2 h3
  exact ⟨⟨us, h1, (mM h.1 h2 g1).2⟩, jP h.2 h3 g3⟩
 | .lH a :: r, .lH b :: s, ds, v :: vs, h, hr, hx => by
  simp only [kN, Bool.and_eq_true] at h
  obtain ⟨⟨us, h1, h2⟩, h3⟩ := hr
  obtain ⟨g1, _, g3⟩ := hx
  have el := kn h.1
  rw [el] at h2 h3
  exact ⟨⟨us, h1, (mM h.1 h2 g1).2⟩, jP h.2 h3 g3⟩
 | .ptr a :: r, .ptr b :: s, ds, v :: vs, h, hr, hx => by
  simp only [kN, Bool.and_eq_true] at h
  obtain ⟨⟨x, us, h1, hc, hb, h2⟩, h3⟩ := hr
  obtain ⟨g1, _, g3⟩ := hx
  have el := kn h.1
  rw [el] at h2 h3
  exact ⟨⟨x, us, h1, hc, hb, (mM h.1 h2 g1).2⟩, jP h.2 h3 g3⟩
 | .ptr _ :: _, .ptr _ :: _, _, [], _, hr, _ => by cases hr
 | .lH _ :: _, .lH _ :: _, _, [], _, hr, _ => by cases hr
 | .agg _ :: _, .agg _ :: _, _, [], _, hr, _ => by cases hr
 | .one _ :: _, .one _ :: _, [], _, _, hr, _ => by cases hr
 | .one _ :: _, .one _ :: _, _ :: _, [], _, hr, _ => by cases hr
 | [], .one _ :: _, _, _, h, _, _ => by cases h
 | .one _ :: _, [], _, _, h, _, _ => by cases h
 | [], .agg _ :: _, _, _, h, _, _ => by cases h
 | .agg _ :: _, [], _, _, h, _, _ => by cases h
 | [], .ptr _ :: _, _, _, h, _, _ => by cases h
 | .ptr _ :: _, [], _, _, h, _, _ => by cases h
 | [], .lH _ :: _, _, _, h, _, _ => by cases h
 | .lH _ :: _, [], _, _, h, _, _ => by cases h
 | .one _ :: _, .agg _ :: _, _, _, h, _, _ => by cases h
 | .one _ :: _, .ptr _ :: _, _, _, h, _, _ => by cases h
 | .one _ :: _, .lH _ :: _, _, _, h, _, _ => by cases h
 | .agg _ :: _, .one _ :: _, _, _, h, _, _ => by cases h
 | .agg _ :: _, .ptr _ :: _, _, _, h, _, _ => by cases h
 | .agg _ :: _, .lH _ :: _, _, _, h, _, _ => by cases h
 | .ptr _ :: _, .one _ :: _, _, _, h, _, _ => by cases h
 | .ptr _ :: _, .agg _ :: _, _, _, h, _, _ => by cases h
 | .ptr _ :: _, .lH _ :: _, _, _, h, _, _ => by cases h
 | .lH _ :: _, .one _ :: _, _, _, h, _, _ => by cases h
 | .lH _ :: _, .agg _ :: _, _, _, h, _, _ => by cases h
 | .lH _ :: _, .ptr _ :: _, _, _, h, _, _ => by cases h
theorem pV {c : br} (hc : aP P ρ cf) {fn : Func} (hf : P.funcs[c.f]? = some fn) (hb : fn.body = some (gb fn)) (n : Nat) {q : Nat} (hpre : c.pre = some q) {sh : List iY} (hkd : kN c.args sh = true) (hn : ∀ ds, fv c.args ds → ρ.p q ds → fv sh ds)
 (h : ∀ ds, fv sh ds → ρ.p q ds → bS (fun j => ρ.f j ds) c.fs c.res { ρ with x := fun j => ds.getD j (xI 0) } (bP P cf fn n sh)) : aZ P ρ c := by
 intro ds vs w hg hr hp
 rw [hpre] at hp
 obtain ⟨_, b0, _, _⟩ := mZ (ρ := { ρ with x := fun j => ds.getD j (xI 0) }) (j := 0) hr fun i x hi => by
  show ds.getD (0 + i) (xI 0) = x
  rw [Nat.zero_add, List.getD_eq_getElem?_getD, hi]; rfl
 have hr' := jP hkd hr (hn ds b0 hp)
 obtain ⟨lsn, b1, b2, b3⟩ := mZ (ρ := { ρ with x := fun j => ds.getD j (xI 0) }) (j := 0) hr' fun i x hi => by
  show ds.getD (0 + i) (xI 0) = x
  rw [Nat.zero_add, List.getD_eq_getElem?_getD, hi]; rfl
 have hv := b3
 exact gE (ρ := { ρ with x := fun j => ds.getD j (xI 0) }) (hc.nT _) hf hb n (b2.dZ hg) hv (bZ (h ds b1 hp))
end
end Vc
end Go.Proofs.YtpmfkelglmgddaaGreatDoor
namespace Go.Proofs.YtpmfkelglmgddaaGreatDoor
namespace Vc
open Go Go.RowKit Go.ChangeShapes Go.WideShapes Go.ChangeAt
set_option linter.unusedVariables false
inductive Lg where
 | sc (l : Lf) | row (ks : List Lf)
 deriving DecidableEq, Inhabited
def xY : Lf → Sk
 | .int k => .int k (hD k) (hU k)
 | .bool => .bool
 | .str => .str maxLen
def Rj : Lf → RA
 | .int k => .int k (hD k) (hU k)
 | .bool => .bool
 | .str => .str maxLen
def Lg.ra : Lg → RA
 | .sc l => Rj l
 | .row ks => .row (ks.map xY) maxLen
def Gc (w : World) : Lg → Value → Prop
 | .sc l, v => oR l v
 | .row ks, v => ∃ A n c, v = .slice A n c ∧ n ≤ c ∧ n ≤ maxLen ∧ 0 < ks.length ∧ (0 < n → ∃ a, A = some a ∧ ∀ i, i < n → ∃ us, ai oR ks us ∧ ∀ p u, us[p]? = some u → w.cell? (a.add (i * ks.length + p)) = some u)
def mN (P : Program) (g : TypeId → Option (List Lg)) : List Field → Nat → Option (List Lg)
 | [], _ => some []
 | f :: r, off => match g f.type, mN P g r (off + P.cellsOf f.type) with
  | some l, some l' => if l.length = P.cellsOf f.type ∧ f.offset = off then some (l ++ l') else none
  | _, _ => none
def pH (P : Program) : Nat → TypeId → Option (List Lg)
 | 0, _ => none
 | m + 1, t => match P.underlying t with
  | some (.int k) => some [.sc (.int k)]
  | some .bool => some [.sc .bool]
  | some .string => some [.sc .str]
  | some (.slice e) => (match leaves P m e with | some ks => if 0 < ks.length ∧ ks.length = P.cellsOf e then some [.row ks] else none | none => none)
  | some (.array n e) => (match leaves P m e with | some l => if l.length = P.cellsOf e ∧ P.cellsOf t = n * P.cellsOf e then some ((rep l n).map .sc) else none | none => none)
  | some (.struct fs) => (match mN P (pH P m) fs.toList 0 with | some l => if l.length = P.cellsOf t then some l else none | none => none)
  | _ => none
section
variable {H : Type} {enc : TypeId × Value → H} {P : Program} {w : World} {base : Nat} {sp : Nat → Bool} {held : Bool}
theorem ov {g : TypeId → Option (List Lg)} {cs : List Value} : ∀ {fl : List Field} {off : Nat} {ks : List Lg}, mN P g fl off = some ks → (∀ f ∈ fl, ∀ l, g f.type = some l → ai (Gc w) l ((cs.drop f.offset).take (P.cellsOf f.type))) → ai (Gc w) ks ((cs.drop off).take ks.length)
 | [], off, ks, h, _ => by cases h; simp [ai]
 | f :: r, off, ks, h, hf => by
  simp only [mN] at h
  split at h
  ·rename_i l l' hl hl'
   split at h
   ·rename_i hif
    obtain ⟨h1, h2⟩ := hif
    cases h
    have a1 := hf f (by simp) l hl
    have a2 := ov hl' fun f' hf' => hf f' (by simp [hf'])
    rw [h2, ← h1] at a1
    rw [← h1, ← List.drop_drop] at a2
    rw [List.length_append, List.take_add]
    exact a1.append a2
   ·cases h
  ·cases h
theorem ai.mapA {α β γ : Type} {R : α → β → Prop} (f : γ → α) : ∀ {as : List γ} {bs : List β}, ai (fun x y => R (f x) y) as bs → ai R (as.map f) bs
 | [], [], _ => trivial
 | _ :: _, _ :: _, h => ⟨h.1, ai.mapA f h.2⟩
 | [], _ :: _, h => h.elim
 | _ :: _, [], h => h.elim
theorem mO : ∀ {m n : Nat} {t : TypeId} {cs : List Value} {x : DataW H × List MemPlace} {ks : List Lg}, pH P m t = some ks → DataW.trod enc P w base sp held n t cs = some x → ai (Gc w) ks cs
 | 0, _, _, _, _, _, h, _ => by cases h
 | m + 1, n, t, cs, x, ks, h, hx => by
  simp only [pH] at h
  split at h
  ·rename_i k ht
   cases h
   exact (c8 (m := 1) (by simp only [leaves, ht]) hx |> fun (q : ai oR [.int k] cs) => by
    cases cs with
    | nil => exact q.elim
    | cons c r => exact ⟨q.1, by cases r with | nil => trivial | cons _ _ => exact q.2.elim⟩)
  ·rename_i ht
   cases h
   exact (c8 (m := 1) (by simp only [leaves, ht]) hx |> fun (q : ai oR [.bool] cs) => by
    cases cs with
    | nil => exact q.elim
    | cons c r => exact ⟨q.1, by cases r with | nil => trivial | cons _ _ => exact q.2.elim⟩)
  ·rename_i ht
   cases h
   exact (c8 (m := 1) (by simp only [leaves, ht]) hx |> fun (q : ai oR [.str] cs) => by
    cases cs with
    | nil => exact q.elim
    | cons c r => exact ⟨q.1, by cases r with | nil => trivial | cons _ _ => exact q.2.elim⟩)
  ·rename_i e ht
   split at h
   ·rename_i l hl
    split at h
    ·rename_i hif
     obtain ⟨h0, h1⟩ := hif
     cases h
     rcases DataW.trod_slice ht hx with ⟨rfl, _⟩ | ⟨a, len, cap, elems, rest, n', _, rfl, _, _, hlc, hcm, hel, hget, _⟩
     ·exact ⟨⟨none, 0, 0, rfl, Nat.le_refl _, Nat.zero_le _, h0, fun h => by omega⟩, trivial⟩
     ·refine ⟨⟨some a, len, cap, rfl, hlc, by omega, h0, fun _ => ⟨a, rfl, fun i hi => ?_⟩⟩, trivial⟩
      have hg := hget i hi
      rw [List.getElem?_eq_getElem (by omega)] at hg
      cases hc : w.cells? base (a.add (i * P.cellsOf e)) (P.cellsOf e) with
      | none => rw [hc] at hg; cases hg
      | some cs =>
       rw [hc] at hg
       obtain ⟨_, hcl, hcc⟩ := World.cells?_some hc
       refine ⟨cs, c8 hl hg, fun p u hu => ?_⟩
       have hp : p < P.cellsOf e := by rw [← hcl]; exact (List.getElem?_eq_some_iff.1 hu).1
       have := hcc p hp
       rw [add_add, hu] at this
       rw [h1]; exact this
    ·cases h
   ·cases h
  ·rename_i len e ht
   split at h
   ·rename_i l hl
    split at h
    ·rename_i hif
     obtain ⟨h1, h2⟩ := hif
     cases h
     have := c8 (m := m + 1) (ks := rep l len) (by simp only [leaves, ht, hl]; rw [if_pos ⟨h1, h2⟩]) hx
     exact ai.mapA _ this
    ·cases h
   ·cases h
  ·rename_i fs ht
   split at h
   ·rename_i l hl
    split at h
    ·rename_i hif
     cases h
     obtain ⟨xs, m', _, _, hlen, hxs, hel⟩ := DataW.trod_struct ht hx
     have := ov (w := w) (cs := cs) hl fun f hf l' hl' => by
      obtain ⟨i, hi⟩ := List.getElem?_of_mem hf
      have hi' : fs[i]? = some f := by simpa using hi
      have := hel i f hi'
      have hlt : i < fs.size := (Array.getElem?_eq_some_iff.1 hi').1
      rw [List.getElem?_eq_getElem (by omega)] at this
      exact mO hl' this
     rw [hif, ← hlen, List.drop_zero, List.take_length] at this
     exact this
    ·cases h
   ·cases h
  ·cases h
def BJ (w : World) (sz : Nat) : Value → X
 | .slice A n _ => ⟨n, false, .nilIface, fun j p => (match A with | some a => (zN ((w.cell? (a.add (j.toNat * sz + p.toNat))).getD undef)).y | none => y0)⟩
 | _ => xI 0
def BK (w : World) : Lg → Value → X
 | .sc _, v => zN v
 | .row ks, v => BJ w ks.length v
theorem NV {l : Lf} {v : Value} (h : oR l v) : Jw w (zN v) (Rj l) v := by
 cases l with
 | int k => obtain ⟨n, rfl, h1, h2⟩ := h; exact ⟨rfl, rfl, h1, h2⟩
 | bool => obtain ⟨b, rfl⟩ := h; exact ⟨rfl, rfl⟩
 | str => obtain ⟨s, rfl, h1⟩ := h; exact ⟨s, rfl, rfl, rfl, by exact_mod_cast h1⟩
theorem NW {l : Lf} {v : Value} (h : oR l v) : iR (xY l) (zN v).y = v ∧ dM (xY l) (zN v).y := by
 cases l with
 | int k => obtain ⟨n, rfl, h1, h2⟩ := h; exact ⟨rfl, h1, h2⟩
 | bool => obtain ⟨b, rfl⟩ := h; exact ⟨rfl, trivial⟩
 | str => obtain ⟨s, rfl, h1⟩ := h; exact ⟨rfl, s, rfl, rfl, by exact_mod_cast h1⟩
theorem NX {g : Lg} {v : Value} (h : Gc w g v) : Jw w (BK w g v) g.ra v := by
 cases g with
 | sc l => exact NV h
 | row ks =>
  obtain ⟨A, n, c, rfl, h1, h2, h3, h4⟩ := h
  have key : ∀ (i p : Nat) (s : Sk), i < n → (ks.map xY)[p]? = some s → ∃ a u, A = some a ∧ w.cell? (a.add (i * ks.length + p)) = some u ∧ iR s ((BJ w ks.length (.slice A n c)).r i p) = u ∧ dM s ((BJ w ks.length (.slice A n c)).r i p) := fun i p s hi hs => by
   obtain ⟨a, rfl, q⟩ := h4 (by omega)
   obtain ⟨us, q1, q2⟩ := q i hi
   rw [List.getElem?_map] at hs
   cases hk : ks[p]? with
   | none => rw [hk] at hs; cases hs
   | some l =>
    rw [hk] at hs
    cases hs
    obtain ⟨u, hu, hl⟩ := q1.get hk
    have hc := q2 p u hu
    have e : (BJ w ks.length (.slice (some a) n c)).r i p = (zN u).y := by
     show (zN ((w.cell? (a.add ((i : Int).toNat * ks.length + (p : Int).toNat))).getD undef)).y = _
     rw [Int.toNat_natCast, Int.toNat_natCast, hc]; rfl
    obtain ⟨k1, k2⟩ := NW hl
    exact ⟨a, u, rfl, hc, by rw [e]; exact k1, by rw [e]; exact k2⟩
  refine ⟨A, c, by show _ = Value.slice A (n : Int).toNat c; rw [Int.toNat_natCast], Int.natCast_nonneg _, by show ((n : Nat) : Int) ≤ _; exact_mod_cast h2, by show (n : Int).toNat ≤ c; rw [Int.toNat_natCast]; exact h1, by simpa using h3, fun i hi => ?_, fun h0 => ?_⟩
  ·have hi' : i < n := by have : i < (n : Int).toNat := hi; rwa [Int.toNat_natCast] at this
   refine iy fun p s hs => ?_
   obtain ⟨a, u, _, _, _, q⟩ := key i p s hi' hs
   rw [Int.zero_add]; exact q
  ·have h0' : 0 < n := by have : 0 < (n : Int).toNat := h0; rwa [Int.toNat_natCast] at this
   obtain ⟨a, rfl, _⟩ := h4 h0'
   refine ⟨a, rfl, fun j u hu => ?_⟩
   have hn : (BK w (.row ks) (.slice (some a) n c)).i.toNat = n := Int.toNat_natCast n
   rw [hn] at hu
   have hlt : j < n * (ks.map xY).length := by have := (List.getElem?_eq_some_iff.1 hu).1; rwa [a7] at this
   have hz : 0 < (ks.map xY).length := by simpa using h3
   have e : j / (ks.map xY).length * (ks.map xY).length + j % (ks.map xY).length = j := by rw [Nat.mul_comm]; exact Nat.div_add_mod j _
   have hi : j / (ks.map xY).length < n := Nat.div_lt_of_lt_mul (by rw [Nat.mul_comm]; exact hlt)
   have hj : j % (ks.map xY).length < (ks.map xY).length := Nat.mod_lt _ hz
   have hs : (ks.map xY)[j % (ks.map xY).length]? = some (ks.map xY)[j % (ks.map xY).length] := List.getElem?_eq_getElem hj
   have hg := cT (R := (BK w (.row ks) (.slice (some a) n c)).r) hi hs
   rw [e, hu] at hg
   obtain ⟨a', u', q1, q2, q3, _⟩ := key _ _ _ hi hs
   cases q1
   have : u = u' := by
    injection hg with hg
    rw [hg]; exact q3
   subst this
   rw [List.length_map] at q2 e
   rw [e] at q2
   exact q2
theorem Ge : ∀ {gs : List Lg} {vs : List Value}, ai (Gc w) gs vs → ∃ ds : Ds, ds.length = gs.length ∧ Ba w (gs.map Lg.ra) ds vs
 | [], [], _ => ⟨[], rfl, trivial⟩
 | g :: gs, v :: vs, h => by
  obtain ⟨ds, h1, h2⟩ := Ge h.2
  exact ⟨BK w g v :: ds, by simp [h1], NX h.1, h2⟩
 | [], _ :: _, h => h.elim
 | _ :: _, [], h => h.elim
def Rk (P : Program) (t : TypeId) : Option iY :=
 match pH P 20 t with
 | none => none
 | some gs => match P.underlying t, gs with
  | some (.struct _), gs => some (.agg (gs.map Lg.ra))
  | some (.array _ _), gs => some (.agg (gs.map Lg.ra))
  | some (.int _), [g] => some (.one g.ra)
  | some .bool, [g] => some (.one g.ra)
  | some .string, [g] => some (.one g.ra)
  | some (.slice _), [g] => some (.one g.ra)
  | _, _ => none
def BM (P : Program) : List TypeId → Option (List iY)
 | [] => some []
 | t :: ts => (match Rk P t, BM P ts with | some s, some r => some (s :: r) | _, _ => none)
theorem zQ {ks : List RA} {sh : List iY} {ds ds' : Ds} {us vs : List Value} (h : Ba w ks ds us) (hl : ds.length = ks.length) (h' : bT w sh ds' vs) : bT w (.agg ks :: sh) (ds ++ ds') (.agg us.toArray :: vs) := by
 refine ⟨⟨us, rfl, ?_⟩, ?_⟩
 ·rw [List.take_left' hl]; exact h
 ·rw [List.drop_left' hl]; exact h'
theorem vT {r : Reach} {b0 : Nat} : ∀ {ts : List TypeId} {vs : List Value} {dd : List (DataW H)} {ps : List MemPlace} {sh : List iY}, DataW.TrodAll enc P w base sp held ts vs dd ps → (∀ (i : Nat) t v, ts[i]? = some t → vs[i]? = some v → Value.okWide P w r b0 t v) → BM P ts = some sh → ∃ ds, bT w sh ds vs
 | [], [], _, _, sh, _, _, h => by cases h; exact ⟨[], trivial⟩
 | [], _ :: _, _, _, _, h, _, _ => by simp [DataW.TrodAll] at h
 | t :: ts, [], _, _, _, h, _, _ => by simp [DataW.TrodAll] at h
 | t :: ts, v :: vs, [], _, _, h, _, _ => by simp [DataW.TrodAll] at h
 | t :: ts, v :: vs, d :: dd, ps, sh, h, hval, hs => by
  obtain ⟨p, q, ⟨fuel, h1⟩, h2, _⟩ := h
  simp only [BM] at hs
  split at hs
  ·rename_i s r' hst hrec
   cases hs
   obtain ⟨ds', i1⟩ := vT h2 (fun i t v ht hv => hval (i + 1) t v (by simpa using ht) (by simpa using hv)) hrec
   have dZ := hval 0 t v rfl rfl
   unfold Rk at hst
   split at hst
   ·cases hst
   ·rename_i gs hgs
    have hall := mO hgs h1
    obtain ⟨ds, l1, l2⟩ := Ge hall
    have agg : (∃ cs, v = .agg cs) → bT w (.agg (gs.map Lg.ra) :: r') (ds ++ ds') (v :: vs) := fun ⟨cs, e⟩ => by
     subst e
     have := zQ (us := cs.toList) l2 (by simp [l1]) i1
     simpa using this
    have one : ∀ {g : Lg}, gs = [g] → v.cells.toList = [v] → bT w (.one g.ra :: r') (ds ++ ds') (v :: vs) := fun {g} e1 e2 => by
     subst e1
     rw [e2] at l2
     match ds, l1, l2 with
     | [d0], _, l2 => exact ⟨l2.1, i1⟩
    split at hst
    ·rename_i ty ht
     cases hst
     refine ⟨_, agg ?_⟩
     unfold Value.okWide at dZ
     rw [ht] at dZ
     obtain ⟨cs, e, _⟩ := dZ
     exact ⟨cs, e⟩
    ·rename_i ty ht
     cases hst
     refine ⟨_, agg ?_⟩
     unfold Value.okWide at dZ
     rw [ht] at dZ
     obtain ⟨cs, e, _⟩ := dZ
     exact ⟨cs, e⟩
    ·rename_i g ht
     cases hst
     obtain ⟨n, e, _⟩ := open_int ht dZ ⟨fuel, h1⟩
     exact ⟨_, one rfl (by rw [e]; rfl)⟩
    ·rename_i g ht
     cases hst
     obtain ⟨n, e, _⟩ := open_bool ht dZ ⟨fuel, h1⟩
     exact ⟨_, one rfl (by rw [e]; rfl)⟩
    ·rename_i g ht
     cases hst
     obtain ⟨n, e, _⟩ := Go.ChangeMaps.open_string ht dZ ⟨fuel, h1⟩
     exact ⟨_, one rfl (by rw [e]; rfl)⟩
    ·rename_i e g ht
     cases hst
     obtain ⟨A, n, c, e'⟩ := okWide_slice ht dZ
     exact ⟨_, one rfl (by rw [e']; rfl)⟩
    ·cases hst
  ·cases hs
theorem ya {ρ : Env} {cf : a8} (hc : aP P ρ cf) {f : FuncId} {fn : Func} (hf : P.funcs[f]? = some fn) (hb : fn.body = some (gb fn)) (n : Nat) {sh : List iY} {ds : Ds} {us : List Value} (hg : cE ρ.g w.heap.size w) (hr : bT w sh ds us)
 (h : ∀ ds, fv sh ds → (bP P cf fn n sh).law { ρ with x := fun j => ds.getD j (xI 0) }) : Calls P f us.toArray w fun e w' => e = .returned (.bool true) ∧ Below w.heap.size w w' := by
 obtain ⟨lsn, b1, b2, b3⟩ := mZ (ρ := { ρ with x := fun j => ds.getD j (xI 0) }) (j := 0) hr fun i x hi => by
  show ds.getD (0 + i) (xI 0) = x
  rw [Nat.zero_add, List.getD_eq_getElem?_getD, hi]; rfl
 have hv := b3
 exact gE (ρ := { ρ with x := fun j => ds.getD j (xI 0) }) (hc.nT _) hf hb n (b2.dZ hg) hv (eG (h ds b1))
end
end Vc
end Go.Proofs.YtpmfkelglmgddaaGreatDoor
namespace Go.Proofs.YtpmfkelglmgddaaGreatDoor
namespace Vc
open Go Go.RowKit
set_option linter.unusedVariables false
def bh {α : Type} (enc : α → Int → Y) (l : List α) : X := ⟨l.length, false, .nilIface, fun j p => match l[j.toNat]? with | some a => enc a p | none => y0⟩
def ae {α : Type} (dec : (Int → Y) → α) (x : X) : List α := (List.range x.i.toNat).map fun (i : Nat) => dec (x.r i)
section
variable {α : Type} {enc : α → Int → Y} {dec : (Int → Y) → α} {x : X} {l : List α} {sh : List Sk} {R S : Int → Int → Y} {n m : Int}
theorem aK (dec : (Int → Y) → α) (x : X) : (ae dec x).length = x.i.toNat := by simp [ae]
theorem bu {i : Nat} (h : i < x.i.toNat) : (ae dec x)[i]? = some (dec (x.r i)) := by
 unfold ae
 rw [List.getElem?_map, List.getElem?_range h]; rfl
theorem eW (dec : (Int → Y) → α) (x : X) : ae dec (aH x.r x.i) = ae dec x := rfl
theorem eu (h : ∀ a, dec (enc a) = a) (l : List α) : ae dec (bh enc l) = l := by
 apply List.ext_getElem?
 intro i
 have hl : (bh enc l).i.toNat = l.length := by simp [bh]
 by_cases hi : i < l.length
 ·rw [bu (by rw [hl]; exact hi)]
  have : (bh enc l).r i = enc l[i] := by funext p; simp [bh, hi]
  rw [this, h, List.getElem?_eq_getElem hi]
 ·rw [List.getElem?_eq_none (by rw [aK, hl]; omega), List.getElem?_eq_none (by omega)]
theorem fg (enc : α → Int → Y) (l : List α) : (bh enc l).i = l.length := rfl
theorem fM {hi : Int} (hed : ∀ f : Int → Y, pZ sh (enc (dec f)) f 0) (h0 : 0 ≤ n) (hh : n ≤ hi) (h : ae dec (aH R n) = l) : cR sh (bh enc l) R n hi := by
 subst h
 have hl : (ae dec (aH R n)).length = n.toNat := aK _ _
 refine ⟨by rw [fg, hl]; omega, hh, fun i hi => ?_⟩
 have hi' : i < n.toNat := by omega
 have : (bh enc (ae dec (aH R n))).r i = enc (dec (R i)) := by
  funext p
  show (match (ae dec (aH R n))[(i : Int).toNat]? with | some a => enc a p | none => y0) = _
  rw [Int.toNat_natCast, bu hi']; rfl
 rw [this]
 exact hed _
theorem Gg (h0 : 0 ≤ n) (h1 : 0 ≤ m) : ae dec (aH (aE R n S) (n + m)) = ae dec (aH R n) ++ ae dec (aH S m) := by
 apply List.ext_getElem?
 intro i
 by_cases hi : i < (n + m).toNat
 ·rw [bu (x := aH (aE R n S) (n + m)) hi]
  by_cases hn : i < n.toNat
  ·rw [List.getElem?_append_left (by rw [aK]; exact hn), bu (x := aH R n) hn]
   congr 2
   funext p
   exact if_pos (show (i : Int) < n by omega)
  ·rw [List.getElem?_append_right (by rw [aK]; show n.toNat ≤ i; omega), aK, show (aH R n).i.toNat = n.toNat from rfl, bu (x := aH S m) (show i - n.toNat < m.toNat by omega)]
   congr 2
   funext p
   show (if (i : Int) < n then R i p else S ((i : Int) - n) p) = S ((i - n.toNat : Nat) : Int) p
   rw [if_neg (by omega), show (i : Int) - n = ((i - n.toNat : Nat) : Int) by omega]
 ·rw [List.getElem?_eq_none (by rw [aK]; show (n + m).toNat ≤ i; omega), List.getElem?_eq_none (by rw [List.length_append, aK, aK]; show n.toNat + m.toNat ≤ i; omega)]
theorem Gi (dec : (Int → Y) → α) (sz : Nat) (es : List X) : ae dec (aH (ar sz es) 1) = [dec fun p => (es.getD p.toNat (xI 0)).y] := by
 have : (ar sz es) 0 = fun p => (es.getD p.toNat (xI 0)).y := by funext p; simp [ar]
 show [dec (ar sz es ((0 : Nat) : Int))] = _
 rw [← this]; rfl
theorem nc (h0 : 0 ≤ n) (sz : Nat) (es : List X) : ae dec (aH (aE R n (ar sz es)) (n + 1)) = ae dec (aH R n) ++ [dec fun p => (es.getD p.toNat (xI 0)).y] := by
 rw [Gg h0 (by omega), Gi]
end
def cb (f : Int → Y) : Int := (f 0).i
def BN (n : Int) (_ : Int) : Y := ⟨n, false, .nilIface⟩
section
variable {R S : Int → Int → Y} {n m i : Int}
theorem GX {e : X} (h0 : 0 ≤ i) : ae cb (aH (ak R i 0 e) n) = (ae cb (aH R n)).set i.toNat e.i := by
 apply List.ext_getElem?
 intro j
 rw [List.getElem?_set, aK]
 by_cases hj : j < n.toNat
 ·rw [bu (x := aH (ak R i 0 e) n) hj]
  have e1 : cb ((aH (ak R i 0 e) n).r j) = if (j : Int) = i ∧ (0 : Int) = 0 then e.i else (R j 0).i := by
   show (if (j : Int) = i ∧ (0 : Int) = 0 then e.y else R j 0).i = _
   split <;> rfl
  rw [e1]
  by_cases hji : i.toNat = j
  ·rw [if_pos hji, if_pos (by omega), show (aH R n).i.toNat = n.toNat from rfl, if_pos (show i.toNat < n.toNat by omega)]
  ·rw [if_neg hji, if_neg (by omega), bu (x := aH R n) hj]; rfl
 ·rw [List.getElem?_eq_none (by rw [aK]; show n.toNat ≤ j; omega)]
  by_cases hji : i.toNat = j
  ·rw [if_pos hji, show (aH R n).i.toNat = n.toNat from rfl, if_neg (show ¬ i.toNat < n.toNat by omega)]
  ·rw [if_neg hji, List.getElem?_eq_none (by rw [aK]; show n.toNat ≤ j; omega)]
end
end Vc
end Go.Proofs.YtpmfkelglmgddaaGreatDoor
