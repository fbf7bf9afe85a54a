/- Regions that draw their order, in the calculus: quiet operations and such as make new cells, each evaluated over what it surely comes behind. -/
import Derived.Test.YtpmfkelglmgddaaGreatDoorVdH
namespace Go.Proofs.YtpmfkelglmgddaaGreatDoor
namespace Vc
open Go Go.RowKit
set_option linter.unusedVariables false
inductive It where
 | val (t : Tm)
 | new (sl : Option Nat) (ty : TypeId) (cs : List SC)
 | res (c : br) (es : List E)
 | put (i : Nat) (cs : List SC)
 deriving Inhabited
def gw : Tm := ⟨.bc true, .c .kW⟩
def It.tm : It → Tm
 | .val t => t
 | .new _ _ _ => gw
 | .res _ _ => gw
 | .put _ _ => gw
def aq (ops : Array Oper) (j : Nat) : Option Tmp := (ops[j]?).bind (·.dst)
theorem NY {s : ByteArray} {i : Nat} (h : i < s.size) : i + (Utf8.decode s i).2 ≤ s.size ∧ 1 ≤ (Utf8.decode s i).2 := by
 unfold Utf8.decode
 simp only
 split
 ·exact ⟨by omega, by omega⟩
 ·split
  ·rename_i hc
   simp only [Bool.and_eq_true, decide_eq_true_eq] at hc
   split <;> exact ⟨by simp only; omega, by simp only; omega⟩
  ·split
   ·rename_i hc
    simp only [Bool.and_eq_true, decide_eq_true_eq] at hc
    split <;> exact ⟨by simp only; omega, by simp only; omega⟩
   ·split
    ·rename_i hc
     simp only [Bool.and_eq_true, decide_eq_true_eq] at hc
     split <;> exact ⟨by simp only; omega, by simp only; omega⟩
    ·exact ⟨by simp only; omega, by simp only; omega⟩
theorem NZ {s : ByteArray} {i : Nat} : (Utf8.decode s i).1 ≤ 1114111 := by
 have hv : ∀ {c : Nat}, Utf8.valid (c : Int) = true → c ≤ 1114111 := fun {c} h => by
  unfold Utf8.valid at h
  simp only [Bool.or_eq_true, Bool.and_eq_true, decide_eq_true_eq] at h
  omega
 unfold Utf8.decode
 simp only
 split
 ·rename_i h; simp only; omega
 ·split
  ·split
   ·simp only
    have := Nat.mod_lt (s.get! (i + 0)).toNat (show 0 < 32 by omega)
    have := Nat.mod_lt (s.get! (i + 1)).toNat (show 0 < 64 by omega)
    omega
   ·exact (by decide : 65533 ≤ 1114111)
  ·split
   ·split
    ·rename_i h
     simp only [Bool.and_eq_true] at h
     exact hv h.2
    ·exact (by decide : 65533 ≤ 1114111)
   ·split
    ·split
     ·rename_i h
      simp only [Bool.and_eq_true] at h
      exact hv h.2
     ·exact (by decide : 65533 ≤ 1114111)
    ·exact (by decide : 65533 ≤ 1114111)
def FF (a p : E) (hi : Int) : SV := .eJ [(false, [.bool (.bc true)]), (false, [.int .i64 p 0 hi]), (false, [.int .i32 (.Ly a p) 0 1114111])]
def FG : SV := .eJ [(false, [.bool (.bc false)])]
section
variable {P : Program} {ρ : Env} {B : Nat} {w0 w : World} {ls : Ls} {hp : SH} {tm : aw} {a : Act} {G : E} {cf : a8}
theorem xL {L : Nat} {s : ByteArray} {n : Nat} (hb : w.heap[L]? = some (.stringIter s n)) : (getObj L).run P w = .ok (.stringIter s n) w := by simp [getObj, Sem.run, hb]
theorem Gj {L : Nat} {s : ByteArray} {n : Nat} (o : Obj) (hb : w.heap[L]? = some (.stringIter s n)) : (setObj L o).run P w = .ok () { w with heap := w.heap.setIfInBounds L o } := by simp [setObj, Sem.run, hb]
theorem qm (w : World) (L : Nat) (o : Obj) : w.grownBy { w with heap := w.heap.setIfInBounds L o } (some L) := ⟨rfl, rfl, rfl, by simp, fun k _ hk => Array.getElem?_setIfInBounds_ne (fun (e : L = k) => hk (by rw [e]))⟩
theorem uy {w : World} {L : Nat} {o : Obj} (h : L < w.heap.size) : ({ w with heap := w.heap.setIfInBounds L o } : World).heap[L]? = some o := by simp [h]
theorem Iz {l : Nat} {ty ty' : TypeId} {s p : E} {hi : Int} {v : Value} (hl : hp[l]? = some ⟨true, ty, .iter s p hi⟩) (hh : aB ρ B w0 ls hp w) (hv : RS ρ ls (.ptr l 0) v) :
 (aa ρ p < aa ρ s → ∃ z w', (Instr.next v true ty').run P w = .ok z w' ∧ aB ρ B w0 ls (hp.set l ⟨true, ty, .iter s (.add p (.EC s p)) hi⟩) w' ∧ RV ρ ls (FF s p hi) z) ∧
 (¬ aa ρ p < aa ρ s → ∃ z, (Instr.next v true ty').run P w = .ok z w ∧ RV ρ ls FG z) := by
 obtain ⟨_, L, str, h1, h2, h3, h4, h5, h6, h7, h8⟩ := hh.bA l _ hl
 obtain ⟨a', ha, rfl⟩ := hv
 rw [h1] at ha
 cases ha
 have e0 : (⟨L, 0, none⟩ : Addr).add 0 = ⟨L, 0, none⟩ := by rw [Addr.add_lit]
 rw [e0]
 constructor
 ·intro hlt
  have hpos : (aa ρ p).toNat < str.size := by omega
  obtain ⟨d1, d2⟩ := NY hpos
  have hL : L < w.heap.size := (Array.getElem?_eq_some_iff.1 h3).1
  refine ⟨.tuple #[.bool true, goInt (aa ρ p).toNat, .int .i32 (Utf8.decode str (aa ρ p).toNat).1], { w with heap := w.heap.setIfInBounds L (.stringIter str ((aa ρ p).toNat + (Utf8.decode str (aa ρ p).toNat).2)) }, by simp [Instr.next, xL h3, hpos, Gj _ h3], hh.lY hl rfl (qm w L _) (.inr ⟨L, rfl, .inl (by rw [h1]; rfl)⟩) ?_, ?_⟩
  ·have ew : aa ρ (.EC s p) = ((Utf8.decode str (aa ρ p).toNat).2 : Nat) := by
    show NC (ev ρ s).x.v (aa ρ p) = _
    rw [h4]; rfl
   have ea : aa ρ (.add p (.EC s p)) = aa ρ p + aa ρ (.EC s p) := rfl
   refine ⟨rfl, L, str, h1, h2, ?_, h4, h5, by rw [ea, ew]; omega, by rw [ea, ew]; omega, h8⟩
   rw [uy hL, ea, ew]
   congr 2
   omega
  ·have er : aa ρ (.Ly s p) = ((Utf8.decode str (aa ρ p).toNat).1 : Nat) := by
    show NB (ev ρ s).x.v (aa ρ p) = _
    rw [h4]; rfl
   have := NZ (s := str) (i := (aa ρ p).toNat)
   refine ⟨[.bool true, goInt (aa ρ p).toNat, .int .i32 (Utf8.decode str (aa ρ p).toNat).1], rfl, rfl, ⟨?_, h6, by omega⟩, ⟨by rw [er], by rw [er]; omega, by rw [er]; omega⟩, trivial⟩
   show Value.int .i64 _ = _
   congr 1
   omega
 ·intro hge
  have hpos : ¬ (aa ρ p).toNat < str.size := by omega
  exact ⟨.tuple #[.bool false], by simp [Instr.next, xL h3, hpos], [.bool false], rfl, rfl, trivial⟩
theorem getM {L : Nat} {es : Array MapEntry} {c : Nat} (hb : w.heap[L]? = some (.map es c)) : (getObj L).run P w = .ok (.map es c) w := by simp [getObj, Sem.run, hb]
theorem Lb {L : Nat} {es : Array MapEntry} {c : Nat} (o : Obj) (hb : w.heap[L]? = some (.map es c)) : (setObj L o).run P w = .ok () { w with heap := w.heap.setIfInBounds L o } := by simp [setObj, Sem.run, hb]
end
section
variable {P : Program} {ρ : Env} {B : Nat} {w0 w : World} {ls : Ls} {hp : SH} {tm : aw} {a : Act} {G : E} {cf : a8}
end
section
variable {P : Program} {ρ : Env} {B : Nat} {w0 w : World} {ls : Ls} {hp : SH} {tm : aw} {a : Act} {G : E} {cf : a8}
end
section
variable {P : Program} {ρ : Env} {B : Nat} {w0 w : World} {ls : Ls} {hp : SH} {tm : aw} {a : Act} {G : E} {cf : a8}
theorem aB.N1 (h : aB ρ B w0 ls hp w) {ty : TypeId} {cs : List SC} {vs : List Value} {b : Nat} (hB : B ≤ b) (hb : w.heap[b]? = some (.cells vs.toArray ty (0, 0))) (hc : ai (RS ρ ls) cs vs) (hne : ∀ (i : Nat) (x : HE), hp[i]? = some x → ¬ bn ρ ls i x b) :
 aB ρ B w0 (ls ++ [.pointer (some ⟨b, 0, none⟩)]) (hp ++ [⟨true, ty, .cells cs⟩]) w := by
 refine h.join ?_ (fun _ b' e => by cases e.ptr; exact hne) (fun b' e i y hy ly e' => ?_)
 ·refine ⟨⟨b, 0, none⟩, vs, by simp, hc.mono fun _ _ => RS.ext (Ext.snoc ls _), fun j v hv => ?_, fun _ => ⟨b, rfl, hB, hb⟩, fun e => by cases e⟩
  rw [Addr.add_lit, cell_of_row _ _ _ _ _ _ hb]; simpa using hv
 ·have e1 := e.1
  rw [show (ls ++ [Value.pointer (some ⟨b, 0, none⟩)])[ls.length]? = some (.pointer (some ⟨b, 0, none⟩)) by simp] at e1
  cases e1.ptr
  exact hne i y hy (.ik ly e')
def aV (ops : Array Oper) : Nat → aw → aw
 | 0, tm => tm
 | n + 1, tm => bB (aV ops n tm) (aq ops n) gw
def dN (ops : Array Oper) (ah : List It) : List Edge → aw → aw
 | [], tm => tm
 | e :: r, tm => if Region.binds .any e then (match ah[e.on]? with
  | some it => dN ops ah r (bB tm (aq ops e.on) it.tm)
  | none => dN ops ah r tm) else dN ops ah r tm
theorem mP {tm : aw} {d : Option Tmp} {t y : Tm} {e : Nat} (h : (bB tm d t).t.get e = some y) : (d = some e ∧ y = t) ∨ (d ≠ some e ∧ tm.t.get e = some y) := by
 cases d with
 | none => exact .inr ⟨by simp, h⟩
 | some d =>
  rcases Tr.mi h with ⟨h1, h2⟩ | ⟨h1, h2⟩
  ·exact .inl ⟨by rw [h1], h2⟩
  ·exact .inr ⟨fun e => h1 (by cases e; rfl), h2⟩
theorem ko {ops : Array Oper} {y : Tm} {e : Nat} : ∀ {n : Nat} {tm : aw}, (aV ops n tm).t.get e = some y → y = gw ∨ ((∀ i, i < n → aq ops i ≠ some e) ∧ tm.t.get e = some y)
 | 0, tm, h => .inr ⟨fun i hi => by omega, h⟩
 | n + 1, tm, h => by
  rcases mP h with ⟨_, h2⟩ | ⟨h1, h2⟩
  ·exact .inl h2
  ·rcases ko h2 with h3 | ⟨h3, h4⟩
   ·exact .inl h3
   ·refine .inr ⟨fun i hi => ?_, h4⟩
    by_cases hin : i = n
    ·subst hin; exact h1
    ·exact h3 i (by omega)
theorem iK {ops : Array Oper} : ∀ {n : Nat} {tm : aw}, (aV ops n tm).n = tm.n
 | 0, _ => rfl
 | n + 1, tm => by rw [aV, gR, iK]
theorem jQ {ops : Array Oper} {ah : List It} {y : Tm} {d : Nat} : ∀ {es : List Edge} {tm : aw}, (dN ops ah es tm).t.get d = some y → (∃ e ∈ es, Region.binds .any e = true ∧ ∃ it, ah[e.on]? = some it ∧ aq ops e.on = some d ∧ y = it.tm) ∨ tm.t.get d = some y
 | [], tm, h => .inr h
 | e :: r, tm, h => by
  simp only [dN] at h
  split at h
  ·rename_i hb
   split at h
   ·rename_i it hit
    rcases jQ h with ⟨e', he', h1⟩ | h1
    ·exact .inl ⟨e', by simp [he'], h1⟩
    ·rcases mP h1 with ⟨h2, h3⟩ | ⟨_, h3⟩
     ·exact .inl ⟨e, by simp, hb, it, hit, h2, h3⟩
     ·exact .inr h3
   ·rcases jQ h with ⟨e', he', h1⟩ | h1
    ·exact .inl ⟨e', by simp [he'], h1⟩
    ·exact .inr h1
  ·rcases jQ h with ⟨e', he', h1⟩ | h1
   ·exact .inl ⟨e', by simp [he'], h1⟩
   ·exact .inr h1
theorem lF {ops : Array Oper} {ah : List It} : ∀ {es : List Edge} {tm : aw}, (dN ops ah es tm).n = tm.n
 | [], _ => rfl
 | e :: r, tm => by
  simp only [dN]
  split
  ·split
   ·rw [lF, gR]
   ·exact lF
  ·exact lF
def SC.free : SC → Bool
 | .kW | .int .. | .bool _ | .di _ | .Gu _ | .str _ _ | .ln _ _ | .gl _ _ => true
 | .fn _ a b => a.isEmpty && b.isEmpty
 | _ => false
def SV.free : SV → Bool
 | .c s => s.free
 | .agg l => l.all SC.free
 | .eJ l => l.all fun x => x.2.all SC.free
theorem RS.free {ls' : Ls} {s : SC} {v : Value} (hs : s.free = true) (h : RS ρ ls s v) : RS ρ ls' s v := by
 cases s <;> first | exact Bool.noConfusion (show false = true from hs) | skip
 case fn f a b =>
  simp only [SC.free, Bool.and_eq_true, List.isEmpty_iff] at hs
  obtain ⟨rfl, rfl⟩ := hs
  obtain ⟨fs, cs, h1, h2, h3⟩ := h
  cases fs with
  | cons _ _ => exact h2.elim
  | nil => cases cs with
   | cons _ _ => exact h3.elim
   | nil => exact ⟨[], [], h1, trivial, trivial⟩
 all_goals exact h
theorem EF.free {ls' : Ls} : ∀ {l : List SC} {vs : List Value}, l.all SC.free = true → ai (RS ρ ls) l vs → ai (RS ρ ls') l vs
 | [], [], _, _ => trivial
 | _ :: _, _ :: _, h, hr => by
  simp only [List.all_cons, Bool.and_eq_true] at h
  exact ⟨RS.free h.1 hr.1, EF.free h.2 hr.2⟩
theorem My.free {ls' : Ls} : ∀ {l : List (Bool × List SC)} {vs : List Value}, (l.all fun x => x.2.all SC.free) = true → ai (RE ρ ls) l vs → ai (RE ρ ls') l vs
 | [], [], _, _ => trivial
 | (true, l) :: _, _ :: _, h, hr => by
  simp only [List.all_cons, Bool.and_eq_true] at h
  obtain ⟨⟨us, e, h1⟩, h2⟩ := hr
  exact ⟨⟨us, e, EF.free h.1 h1⟩, My.free h.2 h2⟩
 | (false, [s]) :: _, _ :: _, h, hr => by
  simp only [List.all_cons, List.all_nil, Bool.and_true, Bool.and_eq_true] at h
  exact ⟨RS.free h.1 hr.1, My.free h.2 hr.2⟩
 | (false, []) :: _, _ :: _, _, hr => hr.1.elim
 | (false, _ :: _ :: _) :: _, _ :: _, _, hr => hr.1.elim
theorem RV.free {ls' : Ls} {s : SV} {v : Value} (hs : s.free = true) (h : RV ρ ls s v) : RV ρ ls' s v := by
 cases s with
 | c s => exact RS.free hs h
 | agg l => obtain ⟨us, e, h1⟩ := h; exact ⟨us, e, EF.free hs h1⟩
 | eJ l => obtain ⟨us, e, h1⟩ := h; exact ⟨us, e, My.free hs h1⟩
theorem Rl.free {ls' : Ls} : ∀ {l : List SV} {vs : List Value}, l.all SV.free = true → ai (RV ρ ls) l vs → ai (RV ρ ls') l vs
 | [], [], _, _ => trivial
 | _ :: _, _ :: _, h, hr => by
  simp only [List.all_cons, Bool.and_eq_true] at h
  exact ⟨RV.free h.1 hr.1, Rl.free h.2 hr.2⟩
def Fm.Mk : Fm → Option (List E × SV)
 | .leaf v _ => if v.free then some ([], v) else none
 | .and (.imp g a) (.imp g' b) => if aY g' (bp g) then (match a.Mk, b.Mk with
  | some (oa, x), some (ob, y) => (match tp g x y with | some z => some (oa.map (Gt (bp g)) ++ ob.map (Gt g), z) | none => none)
  | _, _ => none) else none
 | .and (.imp g (.yJ e)) f => (match f.Mk with | some (o, v) => some (Gt (bp g) e :: o, v) | none => none)
 | .and (.yJ e) f => (match f.Mk with | some (o, v) => some (e :: o, v) | none => none)
 | _ => none
def bk (ρ : Env) (B : Nat) (w0 : World) (R0 : Ending → World → Prop) (v : SV) (hp : SH) : Prop := ∀ k ls w' val, aB (ρ.wk k) B w0 ls hp w' → RV (ρ.wk k) ls v val → R0 (.returned val) w'
theorem fb {B : Nat} {w0 : World} {R0 : Ending → World → Prop} (k : Nat → Option Loop) : ∀ {F : Fm} {ρ : Env}, F.holds (fun ρ => bk ρ B w0 R0) ρ → F.holds (fun ρ => bk ρ B w0 R0) (ρ.wk k)
 | .Dd, _, _ => trivial
 | .c9, _, h => h.elim
 | .and _ _, _, h => ⟨fb k h.1, fb k h.2⟩
 | .imp g _, ρ, h => fun hg => fb k (h ((EJ ρ k g).1 hg))
 | .yJ e, ρ, h => (EJ ρ k e).2 h
 | .pre n A, ρ, h => by
  show ρ.p n (ev (ρ.wk k) A).l
  rw [jv]; exact h
 | .leaf v hp, ρ, h => fun k' ls w' val hh hr => h k' ls w' val hh hr
 | .all m _, ρ, h => fun y => fb k (ρ := ρ.uI m y) (h y)
 | .oI n A _, ρ, h => fun hp => fb k (h (by
  have hp' : ρ.p n (ev (ρ.wk k) A).l := hp
  rw [jv] at hp'; exact hp'))
 | .oJ sh R n hi _, ρ, h => fun hp => fb k (h (by
  rw [gn, kX] at hp; exact hp))
theorem Me {B : Nat} {w0 : World} {F : Fm} {bg : List E} {v : SV} {R0 : Ending → World → Prop} (h : F.Mk = some (bg, v)) (ho : ∀ e ∈ bg, al ρ e = true) (hk : ∀ w' val, Below B w0 w' → RV ρ [] v val → R0 (.returned val) w') : F.holds (fun ρ => bk ρ B w0 R0) ρ := by
 have hor : ∀ a b : E, al ρ (Gt a b) = (al ρ a || al ρ b) := fun a b => yN ρ a b
 have hnot : ∀ a : E, al ρ (bp a) = !al ρ a := fun a => bV ρ a
 fun_induction Fm.Mk F generalizing bg v R0 with
 | case1 v' hp hf =>
  cases h
  exact fun k ls w' val hh hr => hk w' val hh.below (RV.free hf (by rw [AO] at hr; exact hr))
 | case3 g a g' b he oa x ob y hx hy z hz ih1 ih2 =>
  cases h
  have he' := aG he
  subst he'
  refine ⟨fun hg => ?_, fun hg => ?_⟩
  ·have hg' : al ρ g = true := (bC ρ g).1 hg
   refine ih1 (by assumption) (fun e hm => ?_) (fun w' val hb hr => hk w' val hb ?_)
   ·have := ho (Gt (bp g) e) (List.mem_append_left _ (List.mem_map.2 ⟨e, hm, rfl⟩))
    rw [hor, hnot, hg'] at this
    simpa using this
   ·have := gM (u := val) (v := val) hz (fun _ => hr) (fun e => by rw [hg'] at e; cases e)
    rw [hg'] at this; exact this
  ·have hg' : al ρ (bp g) = true := (bC ρ _).1 hg
   rw [hnot, Bool.not_eq_true'] at hg'
   refine ih2 (by assumption) (fun e hm => ?_) (fun w' val hb hr => hk w' val hb ?_)
   ·have := ho (Gt g e) (List.mem_append_right _ (List.mem_map.2 ⟨e, hm, rfl⟩))
    rw [hor, hg'] at this
    simpa using this
   ·have := gM (u := val) (v := val) hz (fun e => by rw [hg'] at e; cases e) (fun _ => hr)
    rw [hg'] at this; exact this
 | case7 g e f _ o v' hf ih =>
  cases h
  refine ⟨fun hg => ?_, ih (by assumption) (fun x hx => ho x (List.mem_cons_of_mem _ hx)) hk⟩
  have hg' : al ρ g = true := (bC ρ g).1 hg
  have := ho _ (List.mem_cons_self ..)
  rw [hor, hnot, hg'] at this
  exact (bC ρ e).2 (by simpa using this)
 | case9 e f o v' hf ih =>
  cases h
  exact ⟨(bC ρ e).2 (ho _ (List.mem_cons_self ..)), ih (by assumption) (fun x hx => ho x (List.mem_cons_of_mem _ hx)) hk⟩
 | _ => cases h
abbrev Sm := Func → Code → List SV → Option (List E × SV)
def fS (P : Program) (ρ : Env) (sm : Sm) : Prop := ∀ (f : FuncId) (fn : Func) (c : Code) (vs : List SV) (bg : List E) (v : SV) (us : List Value) (w : World), P.funcs[f]? = some fn → fn.body = some c → sm fn c vs = some (bg, v) → (∀ e ∈ bg, al ρ e = true) → cE ρ.g w.heap.size w → ai (RV ρ []) vs us →
 Calls P f us.toArray w fun e w' => ∃ val, e = .returned val ∧ RV ρ [] v val ∧ Below w.heap.size w w'
def sumOf (cf : a8) (sm : Sm) (tm : aw) (G : E) (o : Oper) : Option (List E × SV) :=
 match o.op with
 | .call { callee := .value f, args, .. } => (match cA tm G f, kS tm G args.toList with
  | some (.c (.fn f [] [])), some vs => if (cf.JZ.any fun x => x == f) && vs.all SV.free then (match lA cf.fns f with
   | some fn => (match fn.body with | some c => sm fn c vs | none => none)
   | none => none) else none
  | _, _ => none)
 | _ => none
def xJ (P : Program) (cf : a8) (sm : Sm) (tm : aw) (hp : SH) (G : E) (o : Oper) : Option (SV × Ow) :=
 match mu P cf tm hp G o with
 | some r => some r
 | none => (match sumOf cf sm tm G o with | some (bg, v) => some (v, ⟨bg, none⟩) | none => none)
theorem xM {sm : Sm} {o : Oper} {s : SV} {ow : Ow} (hsm : fS P ρ sm) (h : xJ P cf sm tm hp G o = some (s, ow)) (hc : aP P ρ cf) (hp' : ow.Ok ρ) (hr : aX ρ ls tm a) (hG : al ρ G = true) (hh : aB ρ B w0 ls hp w) :
 bH P (Below w.heap.size w) w (RV ρ ls s) ((execOp a.eval o).run P w) := by
 unfold xJ at h
 split at h
 ·rename_i r hr'
  cases h
  exact nX hr' hc hp' hr hG hh
 ·split at h
  ·rename_i bg v hv
   cases h
   unfold sumOf at hv
   split at hv
   ·rename_i f args at_ ho
    split at hv
    ·rename_i f' vs hf hvs
     split at hv
     ·rename_i hif
      simp only [Bool.and_eq_true] at hif
      split at hv
      ·rename_i fn hfn
       split at hv
       ·rename_i c hb
        obtain ⟨f1, f2⟩ := hc.fns _ _ hfn
        obtain ⟨fs, cs, he, h1, h2⟩ := aj hf hr hG
        have hfs : fs = [] := by cases fs with | nil => rfl | cons _ _ => exact h1.elim
        have hcs : cs = [] := by cases cs with | nil => rfl | cons _ _ => exact h2.elim
        subst hfs hcs
        have e : args.map a.eval = (args.toList.map a.eval).toArray := by rw [← Array.toList_map]
        have hrun : (execOp a.eval o).run P w = .ok (.enter f' (args.toList.map a.eval).toArray) w := by
         simp only [execOp, ho, resolve, he, Deferred.ofValue, Sem.run_bind, Sem.run_pure, Result.andThen_ok, invoke, e]
         rw [bd f1 (by rw [hb]; rfl) f2]
         simp
        rw [hrun]
        refine ⟨rfl, ?_⟩
        exact (hsm f' fn c vs bg s _ w f1 hb hv hp'.1 (hh.cS.up hh.size) (Rl.free hif.2 (b8 hr hG hvs))).mono fun e' w' ⟨val, g1, g2, g3⟩ => by
         have hfree : RV ρ ls s val := by
          exact RV.ext (fun i b hi => by simp at hi) g2
         exact ⟨val, g1, hfree, g3⟩
       ·cases hv
      ·cases hv
     ·cases hv
    ·cases hv
   ·cases hv
  ·cases h
theorem vw {sm : Sm} {o : Oper} {s : SV} {ow : Ow} (hsm : fS P ρ sm) (h : xJ P cf sm tm hp G o = some (s, ow)) (hc : aP P ρ cf) (hp' : ow.Ok ρ) (hr : aX ρ ls tm a) (hG : al ρ G = true) (hh : aB ρ B w0 ls hp w) :
 bH P (aB ρ B w0 ls hp) w (RV ρ ls s) ((execOp a.eval o).run P w) := (xM hsm h hc hp' hr hG hh).cls fun _ hb => hh.calls hb
end
end Vc
end Go.Proofs.YtpmfkelglmgddaaGreatDoor
namespace Go.Proofs.YtpmfkelglmgddaaGreatDoor
namespace Vc
open Go Go.RowKit
set_option linter.unusedVariables false
structure QR where
 ah : List It
 ows : List (E × Ow)
 rest : List Oper
def xN (P : Program) (cf : a8) (tm : aw) (hp : SH) (o : Oper) : Option (It × Ow) := match o.op with
 | .alloc t => (match zeroCells P t with | some l => some (.new none t l, ⟨[], none⟩) | none => none)
 | .box t x => (match cA tm (.bc true) x with
  | some v => (match eN v with | some l => some (.new none t l, ⟨[], none⟩) | none => none)
  | none => none)
 | .buildSlice t len ps => if Nat.blt 0 len then (match partsOf tm (.bc true) ps.toList with
  | some qs => (match gf P t len qs with | some (el, cs) => some (.new (some len) el cs, ⟨[], none⟩) | none => none)
  | none => none) else none
 | .call { callee := .value f, args, .. } => (match cA tm (.bc true) f with
  | some (.c (.fn f [] [])) => (match kS tm (.bc true) args.toList with
   | some vs => (match jw (tA cf f vs) f hp vs with
    | some (c, es, bg) => if Nat.ble (fQ c.fs c.res).length 1 then some (.res c es, ⟨bg, lQ cf c.pre es⟩) else none
    | none => none)
   | none => none)
  | _ => none)
 | _ => none
def QS (ah : List It) (o : Oper) (v : SV) : Bool := (match v with | .c .kW => true | _ => false) && o.after.toList.any fun e => match ah[e.on]? with
 | some (.val _) => false
 | some _ => true
 | none => false
def iM (all : Array Oper) (ah : List It) (d : Tmp) : List Edge → Option (Nat × Nat)
 | [] => none
 | e :: r => if Region.binds .any e then (match ah[e.on]?, aq all e.on with
  | some (.new none _ cs), some d' => if Nat.beq d' d then some (e.on, cs.length) else iM all ah d r
  | _, _ => iM all ah d r) else iM all ah d r
def xO (P : Program) (all : Array Oper) (ah : List It) (tm : aw) (o : Oper) : Option (Nat × List SC) := match o.op, o.dst with
 | .store t (.tmp d) x, none => (match iM all ah d o.after.toList, cA tm (.bc true) x, dp P t with
  | some (i, n), some v, some m => (match eN v with
   | some cs => if Nat.beq cs.length n && Nat.beq m n then some (i, cs) else none
   | none => none)
  | _, _, _ => none)
 | _, _ => none
def jK (P : Program) (cf : a8) (sm : Sm) (hp : SH) (neg : List E) (all : Array Oper) (tmM : aw) : List Oper → List It → List (E × Ow) → QR
 | [], ah, ows => ⟨ah, ows, []⟩
 | o :: r, ah, ows => match guardOf (dN all ah o.after.toList tmM) all neg o.guard with
  | none => ⟨ah, ows, o :: r⟩
  | some none => jK P cf sm hp neg all tmM r (ah ++ [.val oO]) ows
  | some (some G) => match xJ P cf.q sm (dN all ah o.after.toList tmM) hp G o with
   | some (v, ow) => if QS ah o v then ⟨ah, ows, o :: r⟩ else jK P cf sm hp neg all tmM r (ah ++ [.val ⟨G, nz neg v⟩]) (if ow.kL then ows else (G, ow) :: ows)
   | none => if lJ G && o.dst.isSome then (match xN P cf (dN all ah o.after.toList tmM) hp o with
    | some (it, ow) => jK P cf sm hp neg all tmM r (ah ++ [it]) (if ow.kL then ows else (G, ow) :: ows)
    | none => ⟨ah, ows, o :: r⟩) else if lJ G then (match xO P all ah (dN all ah o.after.toList tmM) o with
    | some (i, cs) => jK P cf sm hp neg all tmM r (ah ++ [.put i cs]) ows
    | none => ⟨ah, ows, o :: r⟩) else ⟨ah, ows, o :: r⟩
section
variable {P : Program} {ρ : Env} {B : Nat} {w0 w : World} {ls : Ls} {hp : SH} {tm tmM : aw} {a : Act} {G : E} {cf : a8} {sm : Sm} {neg : List E} {all : Array Oper}
def FI (pre ah : List It) : Prop := ∀ (j : Nat) (it : It), pre[j]? = some it → ah[j]? = some it
def lD (P : Program) (cf : a8) (sm : Sm) (hp : SH) (neg : List E) (all : Array Oper) (tmM : aw) (ah : List It) (ows : List (E × Ow)) (k : Nat) (o : Oper) : Prop :=
 ∃ pre, FI pre ah ∧ ((guardOf (dN all pre o.after.toList tmM) all neg o.guard = some none ∧ ah[k]? = some (.val oO)) ∨
  (∃ G v ow, guardOf (dN all pre o.after.toList tmM) all neg o.guard = some (some G) ∧ xJ P cf.q sm (dN all pre o.after.toList tmM) hp G o = some (v, ow) ∧ ah[k]? = some (.val ⟨G, nz neg v⟩) ∧ (ow.kL = true ∨ (G, ow) ∈ ows)) ∨
  (∃ G it ow, guardOf (dN all pre o.after.toList tmM) all neg o.guard = some (some G) ∧ lJ G = true ∧ o.dst.isSome = true ∧ xN P cf (dN all pre o.after.toList tmM) hp o = some (it, ow) ∧ ah[k]? = some it ∧ (ow.kL = true ∨ (G, ow) ∈ ows)) ∨
  (∃ G i cs, guardOf (dN all pre o.after.toList tmM) all neg o.guard = some (some G) ∧ lJ G = true ∧ xO P all pre (dN all pre o.after.toList tmM) o = some (i, cs) ∧ ah[k]? = some (.put i cs)))
theorem gU : ∀ {l : List Oper} {ah : List It} {ows : List (E × Ow)} {q : QR}, jK P cf sm hp neg all tmM l ah ows = q →
 FI ah q.ah ∧ (∀ x ∈ ows, x ∈ q.ows) ∧ ah.length ≤ q.ah.length ∧ ∀ k o, ah.length + k < q.ah.length → l[k]? = some o → lD P cf sm hp neg all tmM q.ah q.ows (ah.length + k) o
 | [], ah, ows, q, h => by subst h; exact ⟨fun _ _ h => h, fun _ h => h, Nat.le_refl _, fun k o h => by simp only [jK] at h; omega⟩
 | o :: r, ah, ows, q, h => by
  have stop : q = ⟨ah, ows, o :: r⟩ → FI ah q.ah ∧ (∀ x ∈ ows, x ∈ q.ows) ∧ ah.length ≤ q.ah.length ∧ ∀ k o', ah.length + k < q.ah.length → (o :: r)[k]? = some o' → lD P cf sm hp neg all tmM q.ah q.ows (ah.length + k) o' := fun e => by
   subst e; exact ⟨fun _ _ h => h, fun _ h => h, Nat.le_refl _, fun k o h => by simp only at h; omega⟩
  have more : ∀ {it : It} {ows' : List (E × Ow)}, jK P cf sm hp neg all tmM r (ah ++ [it]) ows' = q → (∀ x ∈ ows, x ∈ ows') →
   (FI ah q.ah → q.ah[ah.length]? = some it → (∀ x ∈ ows', x ∈ q.ows) → lD P cf sm hp neg all tmM q.ah q.ows ah.length o) →
   FI ah q.ah ∧ (∀ x ∈ ows, x ∈ q.ows) ∧ ah.length ≤ q.ah.length ∧ ∀ k o', ah.length + k < q.ah.length → (o :: r)[k]? = some o' → lD P cf sm hp neg all tmM q.ah q.ows (ah.length + k) o' := fun {it ows'} h how hit => by
   obtain ⟨h1, h2, h3, h4⟩ := gU h
   have hp1 : FI ah q.ah := fun j it' hj => h1 j it' (by rw [List.getElem?_append_left (List.getElem?_eq_some_iff.1 hj).1]; exact hj)
   simp only [List.length_append, List.length_singleton] at h3 h4
   refine ⟨hp1, fun x hx => h2 x (how x hx), by omega, fun k o' hk ho => ?_⟩
   cases k with
   | zero => simp at ho; subst ho; exact hit hp1 (h1 _ _ (by simp)) h2
   | succ k =>
    simp at ho
    have := h4 k o' (by omega) ho
    rwa [show ah.length + 1 + k = ah.length + (k + 1) by omega] at this
  simp only [jK] at h
  split at h
  ·exact stop h.symm
  ·rename_i hg
   exact more h (fun _ h => h) fun hp1 hk _ => ⟨ah, hp1, .inl ⟨hg, hk⟩⟩
  ·rename_i G hg
   split at h
   ·rename_i v ow hv
    split at h
    ·exact stop h.symm
    refine more h (fun x hx => by split; exact hx; exact List.mem_cons_of_mem _ hx) fun hp1 hk hm => ⟨ah, hp1, .inr (.inl ⟨G, v, ow, hg, hv, hk, ?_⟩)⟩
    cases hn : ow.kL
    ·rw [hn] at hm; exact .inr (hm _ (by simp))
    ·exact .inl rfl
   ·split at h
    ·rename_i hif
     simp only [Bool.and_eq_true] at hif
     split at h
     ·rename_i it ow hit
      refine more h (fun x hx => by split; exact hx; exact List.mem_cons_of_mem _ hx) fun hp1 hk hm => ⟨ah, hp1, .inr (.inr (.inl ⟨G, it, ow, hg, hif.1, hif.2, hit, hk, ?_⟩))⟩
      cases hn : ow.kL
      ·rw [hn] at hm; exact .inr (hm _ (by simp))
      ·exact .inl rfl
     ·exact stop h.symm
    ·split at h
     ·rename_i hT
      split at h
      ·rename_i i cs hput
       exact more h (fun _ h => h) fun hp1 hk _ => ⟨ah, hp1, .inr (.inr (.inr ⟨G, i, cs, hg, hT, hput, hk⟩))⟩
      ·exact stop h.symm
     ·exact stop h.symm
def Gk (sl : Option Nat) (b : Nat) : Value := match sl with
 | none => .pointer (some ⟨b, 0, none⟩)
 | some n => .slice (some ⟨b, 0, none⟩) n n
def Mp (sl : Option Nat) (l : Nat) : SC := match sl with
 | none => .ptr l 0
 | some n => .sc l 0 n n
def zR (ρ : Env) (cf : a8) (ls : Ls) (N : Nat) (w : World) (ob : Option Nat) : It → Value → Prop
 | .val t, v => RT ρ ls t v
 | .new sl ty cs, v => ∃ b vs, ob = some b ∧ v = Gk sl b ∧ N ≤ b ∧ w.heap[b]? = some (.cells (List.toArray vs) ty (0, 0)) ∧ ai (RS ρ ls) cs vs
 | .res c es, v => ∃ u, ob = bU (some u) ∧ Io ρ cf c es N w u v
 | .put _ _, _ => True
theorem zR.Be {N : Nat} {w' : World} {ob : Option Nat} {it : It} {v : Value} {row : Option Nat} (h : zR ρ cf ls N w ob it v) (hg : w.grownBy w' row) (hN : ∀ b, row = some b → N ≤ b) (hne : ∀ b, ob = some b → row ≠ some b) : zR ρ cf ls N w' ob it v := by
 cases it with
 | val t => exact h
 | new sl ty cs =>
  obtain ⟨b, vs, h0, h1, h2, h3, h4⟩ := h
  exact ⟨b, vs, h0, h1, h2, by rw [hg.block b (Array.getElem?_eq_some_iff.1 h3).1 (fun e => hne b h0 e.symm)]; exact h3, h4⟩
 | res c es =>
  obtain ⟨u, h0, h1⟩ := h
  exact ⟨u, h0, h1.Be hg hN fun b hb => hne b (h0.trans hb)⟩
 | put _ _ => trivial
theorem zR.kept {N : Nat} {w' : World} {ob : Option Nat} {it : It} {v : Value} (h : zR ρ cf ls N w ob it v) (hg : w.grownBy w' none) : zR ρ cf ls N w' ob it v := h.Be hg (fun _ e => by cases e) (fun _ _ e => by cases e)
def It.fresh : It → Bool
 | .val _ => false
 | .put _ _ => false
 | _ => true
def jh : List It → Nat → (Nat → Bool) → Nat → List SC → List SC
 | [], _, _, _, cs => cs
 | .put j cs' :: r, k, p, i, cs => if Nat.beq j i && p k then cs' else jh r (k + 1) p i cs
 | _ :: r, k, p, i, cs => jh r (k + 1) p i cs
def fV (ah : List It) (p : Nat → Bool) (i : Nat) : It → It
 | .new sl ty cs => .new sl ty (jh ah 0 p i cs)
 | it => it
theorem xP {ah : List It} {p : Nat → Bool} {i : Nat} {it : It} : (fV ah p i it).fresh = it.fresh := by cases it <;> rfl
theorem iN {p q : Nat → Bool} {i : Nat} {cs : List SC} : ∀ {l : List It} {k : Nat}, (∀ j c, l[j]? = some (.put i c) → p (k + j) = q (k + j)) → jh l k p i cs = jh l k q i cs
 | [], _, _ => rfl
 | x :: r, k, h => by
  have ih : jh r (k + 1) p i cs = jh r (k + 1) q i cs := iN fun j c hj => by
   have := h (j + 1) c (by simpa using hj)
   rwa [show k + (j + 1) = k + 1 + j by omega] at this
  cases x with
  | put j c =>
   simp only [jh]
   rw [ih]
   by_cases hj : j = i
   ·subst hj
    rw [show p k = q k from h 0 c (by simp)]
   ·rw [if_neg (by simp [hj]), if_neg (by simp [hj])]
  | val t => exact ih
  | new a b c => exact ih
  | res a b => exact ih
theorem nN {p : Nat → Bool} {i : Nat} {cs : List SC} : ∀ {l : List It} {k : Nat}, (∀ j c, l[j]? = some (.put i c) → p (k + j) = false) → jh l k p i cs = cs
 | [], _, _ => rfl
 | x :: r, k, h => by
  have ih : jh r (k + 1) p i cs = cs := nN fun j c hj => by
   have := h (j + 1) c (by simpa using hj)
   rwa [show k + (j + 1) = k + 1 + j by omega] at this
  cases x with
  | put j c =>
   simp only [jh]
   rw [ih]
   by_cases hj : j = i
   ·subst hj
    rw [show p k = false from h 0 c (by simp)]; simp
   ·rw [if_neg (by simp [hj])]
  | val t => exact ih
  | new a b c => exact ih
  | res a b => exact ih
theorem xQ {p : Nat → Bool} {i : Nat} {cs cs' : List SC} : ∀ {l : List It} {k j : Nat}, l[j]? = some (.put i cs') → p (k + j) = true → (∀ j' c, l[j']? = some (.put i c) → j' = j) → jh l k p i cs = cs'
 | [], _, _, h, _, _ => by simp at h
 | x :: r, k, 0, h, hp, hu => by
  simp at h; subst h
  simp only [jh]
  rw [if_pos (by simpa using hp)]
 | x :: r, k, j + 1, h, hp, hu => by
  have ih : jh r (k + 1) p i cs = cs' := xQ (j := j) (by simpa using h) (by rwa [show k + 1 + j = k + (j + 1) by omega]) fun j' c hj => by
   have := hu (j' + 1) c (by simpa using hj)
   omega
  cases x with
  | put j' c =>
   simp only [jh]
   by_cases hj : j' = i
   ·subst hj
    have := hu 0 c (by simp)
    omega
   ·rw [if_neg (by simp [hj])]; exact ih
  | val t => exact ih
  | new a b c => exact ih
  | res a b => exact ih
def sd : List It → Bool
 | [] => true
 | .put i _ :: r => (r.all fun x => match x with | .put j _ => !(Nat.beq i j) | _ => true) && sd r
 | _ :: r => sd r
theorem xT : ∀ {l : List It}, sd l = true → ∀ {i j k : Nat} {c d : List SC}, l[j]? = some (.put i c) → l[k]? = some (.put i d) → j = k
 | [], _, i, j, k, c, d, hj, _ => by simp at hj
 | x :: r, h, i, j, k, c, d, hj, hk => by
  have hr : sd r = true := by
   cases x with
   | put a b => simp only [sd, Bool.and_eq_true] at h; exact h.2
   | val t => exact h
   | new a b c => exact h
   | res a b => exact h
  have no : ∀ {m : Nat} {e e' : List SC}, x = .put i e → r[m]? = some (.put i e') → False := fun {m e e'} hx hm => by
   subst hx
   simp only [sd, Bool.and_eq_true] at h
   have := List.all_eq_true.1 h.1 _ (List.mem_of_getElem? hm)
   simp at this
  cases j with
  | zero => cases k with
   | zero => rfl
   | succ k => exact (no (by simpa using hj) (by simpa using hk)).elim
  | succ j => cases k with
   | zero => exact (no (by simpa using hk) (by simpa using hj)).elim
   | succ k => rw [xT hr (i := i) (j := j) (k := k) (by simpa using hj) (by simpa using hk)]
structure vN (all : Array Oper) (n : Nat) (ah : List It) : Prop where
 uniq : ∀ {i j k : Nat} {c d : List SC}, ah[j]? = some (.put i c) → ah[k]? = some (.put i d) → j = k
 dep : ∀ {i j : Nat} {c : List SC}, ah[j]? = some (.put i c) → ∃ o, all[j]? = some o ∧ o.dst = none ∧ ∃ e ∈ o.after, Region.binds .any e = true ∧ e.on = i
theorem tW {ah : List It} {listed : Array Bool} {i j : Nat} {it x : It} (hit : ah[i]? = some it) (hnp : ∀ t c, it ≠ .put t c) : fV ah (fun k => (listed.setIfInBounds i true).getD k false) j x = fV ah (fun k => listed.getD k false) j x := by
 cases x with
 | new sl ty cs =>
  simp only [fV]
  rw [iN (q := fun k => listed.getD k false) fun k c hk => ?_]
  simp only [Nat.zero_add]
  refine getD_set_ne false fun e => ?_
  subst e
  rw [hit] at hk; cases hk
  exact hnp _ _ rfl
 | val t => rfl
 | res a b => rfl
 | put a b => rfl
theorem zR.lt {N : Nat} {ob : Option Nat} {it : It} {v : Value} {b : Nat} (h : zR ρ cf ls N w ob it v) (hf : it.fresh = true) (hb : ob = some b) : N ≤ b ∧ b < w.heap.size := by
 cases it with
 | val t => cases hf
 | new sl ty cs =>
  obtain ⟨b', vs, h0, h1, h2, h3, h4⟩ := h
  rw [hb] at h0; cases h0
  exact ⟨h2, (Array.getElem?_eq_some_iff.1 h3).1⟩
 | res c es =>
  obtain ⟨u, h0, h1⟩ := h
  exact h1.ji b (by rw [← h0]; exact hb)
 | put _ _ => cases hf
def QT (ρ : Env) (cf : a8) (ls : Ls) (ops : Array Oper) (n : Nat) (ah : List It) (N : Nat) (listed : Array Bool) (a : Act) (w : World) (bl : Nat → Option Nat) : Prop :=
 (∀ i it d, i < n → listed.getD i false = true → ah[i]? = some it → aq ops i = some d → zR ρ cf ls N w (bl i) (fV ah (fun j => listed.getD j false) i it) (a.tmps.getD d undef)) ∧
 ∀ i j x y d e b, i < n → j < n → i ≠ j → listed.getD i false = true → listed.getD j false = true → ah[i]? = some x → ah[j]? = some y → x.fresh = true → y.fresh = true → aq ops i = some d → aq ops j = some e → bl i = some b → bl j ≠ some b
structure oU (ρ : Env) (cf : a8) (B : Nat) (w0 : World) (ls : Ls) (hp : SH) (tm : aw) (ops : Array Oper) (n : Nat) (ds : List Deferred) (ah : List It) (N : Nat) (listed : Array Bool) (a : Act) (w : World) : Prop where
 Gy : a.defers = ds
 sz : a.tmps.size = tm.n
 heap : aB ρ B w0 ls hp w
 base : N ≤ w.heap.size
 jW : ∀ d t, d < tm.n → tm.t.get d = some t → (∀ i, i < n → listed.getD i false = true → aq ops i ≠ some d) → RT ρ ls t (a.tmps.getD d undef)
 held : ∃ bl, QT ρ cf ls ops n ah N listed a w bl
theorem oU.done {ds : List Deferred} {n N : Nat} {ah : List It} {listed : Array Bool} (h : oU ρ cf B w0 ls hp tm all n ds ah N listed a w) : ∀ i it d, i < n → listed.getD i false = true → ah[i]? = some it → aq all i = some d → ∃ ob, zR ρ cf ls N w ob (fV ah (fun j => listed.getD j false) i it) (a.tmps.getD d undef) := fun i it d h1 h2 h3 h4 => by
 obtain ⟨bl, hb, _⟩ := h.held
 exact ⟨bl i, hb i it d h1 h2 h3 h4⟩
def tX (m : Nat) : List (Option Tmp) → Bool
 | [] => true
 | none :: r => tX m r
 | some d :: r => Nat.blt d m && (r.all fun x => match x with | some e => !(Nat.beq d e) | none => true) && tX m r
theorem mQ {m : Nat} : ∀ {l : List (Option Tmp)}, tX m l = true → (∀ (i : Nat) (d : Tmp), l[i]? = some (some d) → d < m) ∧ ∀ (i j : Nat) (d : Tmp), i ≠ j → l[i]? = some (some d) → l[j]? ≠ some (some d)
 | [], _ => ⟨fun i d h => by simp at h, fun i j d _ h => by simp at h⟩
 | none :: r, h => by
  obtain ⟨h1, h2⟩ := mQ (l := r) h
  refine ⟨fun i d hi => ?_, fun i j d hij hi hj => ?_⟩
  ·cases i with
   | zero => simp at hi
   | succ i => exact h1 i d (by simpa using hi)
  ·cases i with
   | zero => simp at hi
   | succ i => cases j with
    | zero => simp at hj
    | succ j => exact h2 i j d (by omega) (by simpa using hi) (by simpa using hj)
 | some d0 :: r, h => by
  simp only [tX, Bool.and_eq_true] at h
  obtain ⟨⟨h0, hall⟩, h'⟩ := h
  obtain ⟨h1, h2⟩ := mQ (l := r) h'
  have hlt : d0 < m := Nat.le_of_ble_eq_true h0
  have hne : ∀ (j : Nat), r[j]? ≠ some (some d0) := fun j hj => by
   have := List.all_eq_true.1 hall _ (List.mem_of_getElem? hj)
   simp at this
  refine ⟨fun i d hi => ?_, fun i j d hij hi hj => ?_⟩
  ·cases i with
   | zero => simp at hi; subst hi; exact hlt
   | succ i => exact h1 i d (by simpa using hi)
  ·cases i with
   | zero =>
    simp at hi; subst hi
    cases j with
    | zero => exact hij rfl
    | succ j => exact hne j (by simpa using hj)
   | succ i => cases j with
    | zero => simp at hj; subst hj; exact hne i (by simpa using hi)
    | succ j => exact h2 i j d (by omega) (by simpa using hi) (by simpa using hj)
theorem du {l : Array Bool} {i : Nat} (h : l.getD i true = false) : (l.setIfInBounds i true).getD i false = true := by
 rcases Nat.lt_or_ge i l.size with h' | h'
 ·simp [h']
 ·simp [Array.getElem?_eq_none h'] at h
theorem cD {d : Option Tmp} {u : Value} {e : Nat} : ((a.put d u).tmps.getD e undef = u ∧ d = some e ∧ e < a.tmps.size) ∨ ((a.put d u).tmps.getD e undef = a.tmps.getD e undef ∧ (d ≠ some e ∨ a.tmps.size ≤ e)) := by
 cases d with
 | none => exact .inr ⟨rfl, .inl (by simp)⟩
 | some d =>
  by_cases hd : d = e
  ·subst hd
   rcases Nat.lt_or_ge d a.tmps.size with h | h
   ·refine .inl ⟨?_, rfl, h⟩
    show (a.tmps.setIfInBounds d u).getD d undef = u
    rw [Array.getD_eq_getD_getElem?, Array.getElem?_setIfInBounds_self_of_lt h]; rfl
   ·refine .inr ⟨?_, .inr h⟩
    show (a.tmps.setIfInBounds d u).getD d undef = _
    rw [Array.getD_eq_getD_getElem?, Array.getElem?_eq_none (by simpa using h), Array.getD_eq_getD_getElem?, Array.getElem?_eq_none h]
  ·refine .inr ⟨?_, .inl (fun e' => hd (by cases e'; rfl))⟩
   show (a.tmps.setIfInBounds d u).getD e undef = _
   rw [Array.getD_eq_getD_getElem?, Array.getElem?_setIfInBounds_ne hd, ← Array.getD_eq_getD_getElem?]
theorem oU.step {ds : List Deferred} {n N : Nat} {ah : List It} {listed : Array Bool} {w' : World} {i : Nat} {it : It} {u : Value} {ob : Option Nat} (h : oU ρ cf B w0 ls hp tm all n ds ah N listed a w) (hin : i < n) (hun : listed.getD i true = false) (hit : ah[i]? = some it)
 (hd : (∀ (i d : Nat), i < n → aq all i = some d → d < tm.n) ∧ ∀ (i j d : Nat), i < n → j < n → i ≠ j → aq all i = some d → aq all j ≠ some d)
 (hnp : ∀ t c, it ≠ .put t c) (hg : w.grownBy w' none) (hh : aB ρ B w0 ls hp w') (hu : zR ρ cf ls N w' ob (fV ah (fun j => (listed.setIfInBounds i true).getD j false) i it) u) (hf : it.fresh = true → ∀ b, ob = some b → w.heap.size ≤ b) :
 oU ρ cf B w0 ls hp tm all n ds ah N (listed.setIfInBounds i true) (a.put (aq all i) u) w' where
 Gy := by cases aq all i <;> exact h.Gy
 sz := by
  cases aq all i with
  | none => exact h.sz
  | some d => show (a.tmps.setIfInBounds d u).size = _; rw [Array.size_setIfInBounds]; exact h.sz
 heap := hh
 base := Nat.le_trans h.base hg.size
 jW := fun d t hdn ht hno => by
  have hni : aq all i ≠ some d := hno i hin (du hun)
  rcases cD (a := a) (d := aq all i) (u := u) (e := d) with ⟨_, h2, _⟩ | ⟨h1, _⟩
  ·exact (hni h2).elim
  ·rw [h1]
   exact h.jW d t hdn ht fun j hj hl => hno j hj (getD_set_true hl)
 held := by
  obtain ⟨bl, hdone, hapart⟩ := h.held
  refine ⟨fun j => if j = i then ob else bl j, fun j it' d hj hl hit' hdj => ?_, fun j k x y d e b hj hk hjk lj lk hx hy fx fy dj dk hb => ?_⟩
  ·show zR ρ cf ls N w' (if j = i then ob else bl j) _ _
   rcases cD (a := a) (d := aq all i) (u := u) (e := d) with ⟨h1, h2, _⟩ | ⟨h1, h2⟩
   ·by_cases hij : j = i
    ·subst hij
     rw [hit] at hit'; cases hit'
     rw [h1, if_pos rfl]; exact hu
    ·exact (hd.2 i j d hin hj (fun e => hij e.symm) h2 hdj).elim
   ·by_cases hij : j = i
    ·subst hij
     rcases h2 with h2 | h2
     ·exact (h2 hdj).elim
     ·have := hd.1 j d hin hdj
      rw [h.sz] at h2; omega
    ·rw [h1, if_neg hij]
     rw [getD_set_ne false (fun e => hij e.symm)] at hl
     rw [tW hit hnp]
     exact (hdone j it' d hj hl hit' hdj).kept hg
  ·replace hb : (if j = i then ob else bl j) = some b := hb
   show (if k = i then ob else bl k) ≠ some b
   have jW : ∀ {j : Nat} {x : It} {d : Tmp} {b : Nat}, j < n → j ≠ i → (listed.setIfInBounds i true).getD j false = true → ah[j]? = some x → x.fresh = true → aq all j = some d → bl j = some b → b < w.heap.size := fun {j x d b} hj hji hl hx fx hdj hb => by
    rw [getD_set_ne false (Ne.symm hji)] at hl
    exact ((hdone j x d hj hl hx hdj).lt (xP.trans fx) hb).2
   by_cases hji : j = i
   ·subst hji
    rw [hit] at hx; cases hx
    rw [if_pos rfl] at hb
    rw [if_neg (Ne.symm hjk)]
    intro hb'
    have := hf fx b hb
    have := jW hk (Ne.symm hjk) lk hy fy dk hb'
    omega
   ·rw [if_neg hji] at hb
    by_cases hki : k = i
    ·subst hki
     rw [hit] at hy; cases hy
     rw [if_pos rfl]
     intro hb'
     have := hf fy b hb'
     have := jW hj hji lj hx fx dj hb
     omega
    ·rw [if_neg hki]
     rw [getD_set_ne false (Ne.symm hji)] at lj
     rw [getD_set_ne false (Ne.symm hki)] at lk
     exact hapart j k x y d e b hj hk hjk lj lk hx hy fx fy dj dk hb
theorem aB.off {w' : World} {b : Nat} (h : aB ρ B w0 ls hp w) (hg : w.grownBy w' (some b)) (hB : B ≤ b) (hne : ∀ (i : Nat) (x : HE), hp[i]? = some x → ¬ bn ρ ls i x b) : aB ρ B w0 ls hp w' where
 below := h.below.grown hg h.size (fun k e => by cases e; exact hB)
 base := h.base
 len := h.len
 cS := h.cS.kept hg (fun k e => by cases e; exact hB)
 bA := fun i x hx => (h.bA i x hx).kept hg (fun k e => by cases e; exact hB) (fun b' hb e => by cases e; exact hne i x hx hb)
 inj := h.inj
theorem sf {P : Program} {b : Nat} {ty : TypeId} : ∀ (us vs : List Value) (w : World) (i : Nat), w.heap[b]? = some (.cells vs.toArray ty (0, 0)) → i + us.length ≤ vs.length → (∀ u ∈ us, u.oneCell' = true) →
 ∃ w', (storeCells ⟨b, 0, none⟩ us i).run P w = .ok () w' ∧ w.grownBy w' (some b) ∧ w'.heap[b]? = some (.cells (setMany vs i us).toArray ty (0, 0))
 | [], vs, w, i, hh, _, _ => ⟨w, rfl, aN (Below.refl _ _) _, hh⟩
 | u :: us, vs, w, i, hh, hle, h1 => by
  simp only [List.length_cons] at hle
  have hcell : w.cell? ⟨b, i, none⟩ = some (vs[i]'(by omega)) := by
   rw [cell_of_row w b i _ _ _ hh]; simp
  have hst : (store ⟨b, i, none⟩ u).run P w = .ok () (w.setCell ⟨b, i, none⟩ u) := by
   rw [run_store P w _ u .plain (h1 u (by simp)), hcell, frozen_of_row w b i _ _ hh]; rfl
  have hh' : (w.setCell ⟨b, i, none⟩ u).heap[b]? = some (.cells (vs.set i u).toArray ty (0, 0)) := by
   rw [heap_setCell_same w b i _ _ u hh, List.setIfInBounds_toArray]
  obtain ⟨w', hrun, hg, hw⟩ := sf us (vs.set i u) _ (i + 1) hh' (by simp; omega) (fun x hx => h1 x (by simp [hx]))
  refine ⟨w', ?_, (iS w b i u).trans hg, hw⟩
  simp only [storeCells, Sem.run_bind]
  rw [Addr.add_lit, Nat.zero_add, hst]
  exact hrun
theorem ox {α : Type} : ∀ (us vs ws : List α), us.length = vs.length → setMany (ws ++ vs) ws.length us = ws ++ us
 | [], vs, ws, h => by cases vs with | nil => rfl | cons _ _ => simp at h
 | u :: us, vs, ws, h => by
  cases vs with
  | nil => simp at h
  | cons v vs =>
   have := ox us vs (ws ++ [u]) (by simpa using h)
   simp only [setMany]
   rw [List.set_append_right _ _ (Nat.le_refl _), Nat.sub_self, List.set_cons_zero]
   simpa using this
theorem oU.I0 {P : Program} {ds : List Deferred} {n N : Nat} {ah : List It} {listed : Array Bool} {i t d : Nat} {ty : TypeId} {cs cs' : List SC} {us : List Value} (h : oU ρ cf B w0 ls hp tm all n ds ah N listed a w) (hun : listed.getD i true = false)
 (hpo : vN all n ah) (hit : ah[i]? = some (.put t cs')) (htn : t < n) (htl : listed.getD t false = true) (htt : ah[t]? = some (.new none ty cs)) (hdt : aq all t = some d)
 (hBN : B ≤ N) (hlow : ∀ (i : Nat) (x : HE) (b : Nat), hp[i]? = some x → bn ρ ls i x b → b < N) (hcs : ai (RS ρ ls) cs' us) (h1 : ∀ u ∈ us, u.oneCell' = true) (hlen : cs'.length = cs.length) :
 ∃ b w', a.tmps.getD d undef = .pointer (some ⟨b, 0, none⟩) ∧ (storeCells ⟨b, 0, none⟩ us 0).run P w = .ok () w' ∧ oU ρ cf B w0 ls hp tm all n ds ah N (listed.setIfInBounds i true) a w' := by
 obtain ⟨bl, hdone, hapart⟩ := h.held
 obtain ⟨b, vs, e0, e1, e2, e3, e4⟩ := hdone t _ d htn htl htt hdt
 have hti : t ≠ i := fun e => by subst e; rw [getD_both hun] at htl; cases htl
 rw [nN fun j c hj => by
  rw [Nat.zero_add, hpo.uniq hj hit]
  cases hx : listed.getD i false
  ·rfl
  ·have := getD_both hun
   rw [hx] at this; cases this] at e4
 have hl : us.length = vs.length := by rw [← hcs.len, hlen, e4.len]
 obtain ⟨w', hrun, hg, hw⟩ := sf (P := P) us vs w 0 e3 (by omega) h1
 rw [show setMany vs 0 us = us from ox us vs [] hl] at hw
 refine ⟨b, w', e1, hrun, h.Gy, h.sz, h.heap.off hg (Nat.le_trans hBN e2) (fun j x hx hb => by have := hlow j x b hx hb; omega), Nat.le_trans h.base hg.size,
  fun e s he hs hno => h.jW e s he hs fun j hj hl => hno j hj (getD_set_true hl), bl, fun j it' e hj hlj hij hdj => ?_, fun j k x y e f b' hj hk hjk lj lk hx hy fx fy dj dk hb => ?_⟩
 ·by_cases hji : j = i
  ·subst hji; rw [hit] at hij; cases hij; trivial
  ·rw [getD_set_ne false (Ne.symm hji)] at hlj
   by_cases hjt : j = t
   ·subst hjt
    rw [htt] at hij; cases hij
    rw [hdt] at hdj; cases hdj
    refine ⟨b, us, e0, e1, e2, hw, ?_⟩
    rw [xQ hit (by rw [Nat.zero_add]; exact du hun) fun j' c hj' => hpo.uniq hj' hit]
    exact hcs
   ·have hold := hdone j it' e hj hlj hij hdj
    have hcur : fV ah (fun k => (listed.setIfInBounds i true).getD k false) j it' = fV ah (fun k => listed.getD k false) j it' := by
     cases it' with
     | new a c c' =>
      simp only [fV]
      rw [iN (q := fun k => listed.getD k false) fun k c hk => ?_]
      simp only [Nat.zero_add]
      refine getD_set_ne false fun e => ?_
      subst e
      rw [hit] at hk; cases hk
      exact hjt rfl
     | val t => rfl
     | res a b => rfl
     | put a b => rfl
    rw [hcur]
    by_cases hf : it'.fresh = true
    ·refine hold.Be hg (fun b' e => by cases e; exact e2) fun b' hb e => ?_
     cases e
     exact hapart j t it' _ e d b hj htn hjt hlj htl hij htt hf rfl hdj hdt hb e0
    ·cases it' with
     | val t => exact hold
     | put _ _ => trivial
     | new _ _ _ => exact (hf rfl).elim
     | res _ _ => exact (hf rfl).elim
 ·have ne : ∀ {m : Nat} {z : It}, ah[m]? = some z → z.fresh = true → m ≠ i := fun {m z} hm hz e => by subst e; rw [hit] at hm; cases hm; cases hz
  rw [getD_set_ne false (Ne.symm (ne hx fx))] at lj
  rw [getD_set_ne false (Ne.symm (ne hy fy))] at lk
  exact hapart j k x y e f b' hj hk hjk lj lk hx hy fx fy dj dk hb
end
end Vc
end Go.Proofs.YtpmfkelglmgddaaGreatDoor
namespace Go.Proofs.YtpmfkelglmgddaaGreatDoor
namespace Vc
open Go Go.RowKit
set_option linter.unusedVariables false
def lE (cf : a8) (all : Array Oper) (ah : List It) : List It → Nat → aw → SH → aw × SH
 | [], _, tm, hp => (tm, hp)
 | .val t :: r, k, tm, hp => lE cf all ah r (k + 1) (bB tm (aq all k) t) hp
 | .new sl ty cs :: r, k, tm, hp => lE cf all ah r (k + 1) (bB tm (aq all k) ⟨.bc true, .c (Mp sl hp.length)⟩) (hp ++ [⟨true, ty, .cells (jh ah 0 (fun _ => true) k cs)⟩])
 | .res c es :: r, k, tm, hp => lE cf all ah r (k + 1) (bB tm (aq all k) ⟨.bc true, (ei cf c es hp.length).1⟩) (hp ++ (ei cf c es hp.length).2)
 | .put _ _ :: r, k, tm, hp => lE cf all ah r (k + 1) tm hp
def N2 (d : Tmp) (o : Oper) : Bool := match o.op, o.dst with
 | .alloc _, some e => Nat.beq e d
 | _, _ => false
def Mq (prev : List Oper) (o : Oper) : Bool := match o.op with
 | .store _ (.tmp d) _ => !(prev.any (N2 d))
 | .store .. => true
 | .call { callee := .builtin .append, .. } => true
 | .call { callee := .builtin .copy, .. } => true
 | _ => false
def Mr (d : Tmp) (o : Oper) : Bool := o.op.operands.toList.any fun x => match x with | .tmp t => Nat.beq t d | _ => false
def N3 (prev : List Oper) (o : Oper) : Bool := match o.op, o.dst with
 | .assign _, some d => prev.any (Mr d)
 | _, _ => false
def mG : List Oper → List Oper → Nat
 | _, [] => 0
 | prev, o :: r => if Mq prev o || N3 prev o then 0 else mG (o :: prev) r + 1
section
variable {P : Program} {ρ : Env} {B : Nat} {w0 w : World} {ls : Ls} {hp : SH} {tm : aw} {a : Act} {G : E} {cf : a8} {sm : Sm} {neg : List E} {all : Array Oper}
theorem aX.CJ (hr : aX ρ ls tm a) {d : Option Tmp} {t : Tm} (h : ∀ e, d = some e → RT ρ ls t (a.tmps.getD e undef)) : aX ρ ls (bB tm d t) a := by
 refine ⟨by rw [gR]; exact hr.1, fun e t' he ht => ?_⟩
 rw [gR] at he
 rcases mP ht with ⟨h1, h2⟩ | ⟨_, h2⟩
 ·rw [h2]; exact h e h1
 ·exact hr.2 e t' he h2
theorem I1 {sl : Option Nat} {l b : Nat} {ls : Ls} (h : ls[l]? = some (.pointer (some ⟨b, 0, none⟩))) : RV ρ ls (.c (Mp sl l)) (Gk sl b) := by
 cases sl with
 | none => exact ⟨⟨b, 0, none⟩, h, by simp [Gk, Addr.add]⟩
 | some n => exact ⟨Nat.le_refl _, ⟨b, 0, none⟩, h, by simp [Gk, Addr.add]⟩
theorem kp {N : Nat} {bl : Nat → Option Nat} {ah : List It} (hBN : B ≤ N) : ∀ (r : List It) (k : Nat) (tm' : aw) (hp' : SH) (ls' : Ls) (used : List Nat),
 aX ρ ls' tm' a → aB ρ B w0 ls' hp' w → Ext ls ls' → (∀ (i : Nat) (x : HE) (b : Nat), hp'[i]? = some x → bn ρ ls' i x b → b < N ∨ b ∈ used) →
 (∀ j it d, r[j]? = some it → aq all (k + j) = some d → zR ρ cf ls N w (bl (k + j)) (fV ah (fun _ => true) (k + j) it) (a.tmps.getD d undef)) →
 (∀ j it, r[j]? = some it → it.fresh = true → ∃ d, aq all (k + j) = some d) →
 (∀ j x b, r[j]? = some x → x.fresh = true → bl (k + j) = some b → b ∉ used) →
 (∀ i j x y b, i ≠ j → r[i]? = some x → r[j]? = some y → x.fresh = true → y.fresh = true → bl (k + i) = some b → bl (k + j) ≠ some b) →
 ∃ ls'', Ext ls' ls'' ∧ aX ρ ls'' (lE cf all ah r k tm' hp').1 a ∧ aB ρ B w0 ls'' (lE cf all ah r k tm' hp').2 w
 | [], k, tm', hp', ls', used, hr, hh, _, _, _, _, _, _ => ⟨ls', Ext.refl _, hr, hh⟩
 | it0 :: r, k, tm', hp', ls', used, hr, hh, he, hl, hv, hf, hu, ha => by
  have sh : ∀ j, k + 1 + j = k + (j + 1) := fun j => by omega
  have tv : ∀ j it d, r[j]? = some it → aq all (k + 1 + j) = some d → zR ρ cf ls N w (bl (k + 1 + j)) (fV ah (fun _ => true) (k + 1 + j) it) (a.tmps.getD d undef) := fun j it d h1 h2 => by
   rw [sh] at h2 ⊢; exact hv (j + 1) it d (by simpa using h1) h2
  have tf : ∀ j it, r[j]? = some it → it.fresh = true → ∃ d, aq all (k + 1 + j) = some d := fun j it h1 h2 => by rw [sh]; exact hf (j + 1) it (by simpa using h1) h2
  have ta : ∀ i j x y b, i ≠ j → r[i]? = some x → r[j]? = some y → x.fresh = true → y.fresh = true → bl (k + 1 + i) = some b → bl (k + 1 + j) ≠ some b := fun i j x y b hij hx hy fx fy hb => by
   rw [sh] at hb ⊢; exact ha (i + 1) (j + 1) x y b (by omega) (by simpa using hx) (by simpa using hy) fx fy hb
  have tu : ∀ (used' : List Nat), (∀ b, b ∈ used' → b ∈ used ∨ (it0.fresh = true ∧ bl k = some b)) → ∀ j x b, r[j]? = some x → x.fresh = true → bl (k + 1 + j) = some b → b ∉ used' := fun used' hus j x b h5 h6 h7 hm => by
   rw [sh] at h7
   rcases hus b hm with hm | ⟨hm1, hm2⟩
   ·exact hu (j + 1) x b (by simpa using h5) h6 h7 hm
   ·exact ha 0 (j + 1) it0 x b (by omega) (by simp) (by simpa using h5) hm1 h6 hm2 h7
  cases it0 with
  | val t =>
   simp only [lE]
   refine kp hBN r (k + 1) _ hp' ls' used (hr.CJ fun d hd => ?_) hh he hl tv tf (tu used fun b hb => .inl hb) ta
   have := hv 0 (.val t) d (by simp) (by simpa using hd)
   exact RT.ext he this
  | new sl ty cs =>
   obtain ⟨d0, hd0⟩ := hf 0 (.new sl ty cs) (by simp) rfl
   obtain ⟨b, vs, h0, h1, h2, h3, h4⟩ := hv 0 (.new sl ty cs) d0 (by simp) hd0
   rw [Nat.add_zero] at h4
   have hnu := hu 0 (.new sl ty cs) b (by simp) rfl h0
   have hh' : aB ρ B w0 (ls' ++ [.pointer (some ⟨b, 0, none⟩)]) (hp' ++ [⟨true, ty, .cells (jh ah 0 (fun _ => true) k cs)⟩]) w := hh.N1 (Nat.le_trans hBN h2) h3 (h4.mono fun _ _ => RS.ext he) (fun i x hx hb => by
    rcases hl i x b hx hb with h5 | h5
    ·omega
    ·exact hnu h5)
   simp only [lE]
   have hd0' : aq all k = some d0 := hd0
   obtain ⟨ls'', g1, g2, g3⟩ := kp hBN r (k + 1) (bB tm' (aq all k) ⟨.bc true, .c (Mp sl hp'.length)⟩) (hp' ++ [⟨true, ty, .cells (jh ah 0 (fun _ => true) k cs)⟩]) (ls' ++ [.pointer (some ⟨b, 0, none⟩)]) (b :: used)
    ((hr.ext (Ext.snoc ls' _)).CJ fun d hd => by
      rw [hd0'] at hd; cases hd
      rw [h1]
      exact a6 (I1 (by rw [← hh.len]; simp))) hh' (he.trans (Ext.snoc ls' _))
    (fun i x b' hx hb => by
      rw [List.getElem?_append] at hx
      split at hx
      ·rename_i hi
       rcases hl i x b' hx (hb.at (List.getElem?_append_left (by rw [hh.len]; exact hi)).symm) with h5 | h5
       ·exact .inl h5
       ·exact .inr (List.mem_cons_of_mem _ h5)
      ·rename_i hi
       have : i = ls'.length := by
        have := (List.getElem?_eq_some_iff.1 hx).1
        simp at this
        rw [hh.len]; omega
       subst this
       have hb := hb.1
       rw [List.getElem?_append_right (Nat.le_refl _), Nat.sub_self] at hb
       have hb := hb.ptr
       exact .inr (by rw [← hb]; simp)) tv tf (tu (b :: used) fun b' hb' => by
        rcases List.mem_cons.1 hb' with rfl | hb'
        ·exact .inr ⟨rfl, h0⟩
        ·exact .inl hb') ta
   exact ⟨ls'', (Ext.snoc ls' _).trans g1, g2, g3⟩
  | put _ _ =>
   simp only [lE]
   exact kp hBN r (k + 1) _ hp' ls' used hr hh he hl tv tf (tu used fun b hb => .inl hb) ta
  | res c es =>
   obtain ⟨d0, hd0⟩ := hf 0 (.res c es) (by simp) rfl
   obtain ⟨x, h0, hres⟩ := hv 0 (.res c es) d0 (by simp) hd0
   have hnu := fun b => hu 0 (.res c es) b (by simp) rfl
   simp only [Nat.add_zero] at h0 hnu
   have hd0' : aq all k = some d0 := hd0
   simp only [lE]
   cases hro : (ei cf c es hp'.length).2 with
   | nil =>
    rw [List.append_nil]
    exact kp hBN r (k + 1) _ hp' ls' used (hr.CJ fun d hd => by
     rw [hd0'] at hd; cases hd
     exact a6 (hres.val ls' hp'.length fun e => (e hro).elim)) hh he hl tv tf (tu used fun b hb => .inl hb) ta
   | cons en rest =>
    have hr0 : rest = [] := by
     have := hres.len hp'.length
     rw [hro] at this
     exact List.eq_nil_of_length_eq_zero (by simpa using this)
    subst hr0
    obtain ⟨l1, l2⟩ := hres.bA hp'.length en (by rw [hro]; simp)
    have hh' : aB ρ B w0 (ls' ++ [x]) (hp' ++ [en]) w := hh.join (l2 _ _ _ hBN (by simp))
     (fun _ b hb i y hy hy' => by
       have hb := hb.of hres.na
       rcases hl i y b hy hy' with h5 | h5
       ·have := (hres.ji b hb).1; omega
       ·exact hnu b (by rw [h0]; exact hb) h5)
     (fun b hb i y hy ly hbl => by
       have hb := hb.1
       rw [show (ls' ++ [x])[ls'.length]? = some x by simp] at hb
       have hb := hb.of hres.na
       rcases hl i y b hy (bn.ik ly hbl) with h5 | h5
       ·have := (hres.ji b hb).1; omega
       ·exact hnu b (by rw [h0]; exact hb) h5)
    obtain ⟨ls'', g1, g2, g3⟩ := kp hBN r (k + 1) (bB tm' (aq all k) ⟨.bc true, (ei cf c es hp'.length).1⟩) (hp' ++ [en]) (ls' ++ [x]) ((bU (some x)).toList ++ used)
     ((hr.ext (Ext.snoc ls' _)).CJ fun d hd => by
       rw [hd0'] at hd; cases hd
       exact a6 (hres.val _ hp'.length fun _ => by rw [← hh.len]; simp)) hh' (he.trans (Ext.snoc ls' _))
     (fun i y b' hx hb => by
       rw [List.getElem?_append] at hx
       split at hx
       ·rename_i hi
        rcases hl i y b' hx (hb.at (List.getElem?_append_left (by rw [hh.len]; exact hi)).symm) with h5 | h5
        ·exact .inl h5
        ·exact .inr (List.mem_append_right _ h5)
       ·rename_i hi
        have : i = ls'.length := by
         have := (List.getElem?_eq_some_iff.1 hx).1
         simp at this
         rw [hh.len]; omega
        subst this
        have hb := hb.1
        rw [show (ls' ++ [x])[ls'.length]? = some x by simp] at hb
        have hb := hb.of hres.na
        exact .inr (by rw [hb]; simp)) tv tf (tu _ fun b' hb' => by
         rcases List.mem_append.1 hb' with hb' | hb'
         ·exact .inr ⟨rfl, by rw [h0]; simpa using hb'⟩
         ·exact .inl hb') ta
    exact ⟨ls'', (Ext.snoc ls' _).trans g1, g2, g3⟩
theorem lG {ah : List It} {d : Tmp} : ∀ {l : List Edge} {i m : Nat}, iM all ah d l = some (i, m) → ∃ ty cs, (∃ e ∈ l, Region.binds .any e = true ∧ e.on = i) ∧ ah[i]? = some (.new none ty cs) ∧ aq all i = some d ∧ m = cs.length
 | [], _, _, h => by cases h
 | e :: r, i, m, h => by
  have more : iM all ah d r = some (i, m) → ∃ ty cs, (∃ e' ∈ e :: r, Region.binds .any e' = true ∧ e'.on = i) ∧ ah[i]? = some (.new none ty cs) ∧ aq all i = some d ∧ m = cs.length := fun h => by
   obtain ⟨ty, cs, ⟨e', h1, h2⟩, h3⟩ := lG h
   exact ⟨ty, cs, ⟨e', List.mem_cons_of_mem _ h1, h2⟩, h3⟩
  simp only [iM] at h
  split at h
  ·rename_i hb
   split at h
   ·rename_i ty cs d' h1 h2
    split at h
    ·rename_i hd
     cases h
     have := Nat.eq_of_beq_eq_true hd
     subst this
     exact ⟨ty, cs, ⟨e, by simp, hb, rfl⟩, h1, h2, rfl⟩
    ·exact more h
   ·exact more h
  ·exact more h
theorem Gl {ah : List It} {tm : aw} {o : Oper} {i : Nat} {cs : List SC} (h : xO P all ah tm o = some (i, cs)) : o.dst = none ∧ ∃ e ∈ o.after, Region.binds .any e = true ∧ e.on = i := by
 unfold xO at h
 split at h
 ·rename_i t d x _ hd
  split at h
  ·rename_i j m v sz hfn _ _
   split at h
   ·split at h
    ·cases h
     obtain ⟨_, _, ⟨e, he, h1⟩, _⟩ := lG hfn
     exact ⟨hd, e, by simpa using he, h1⟩
    ·cases h
   ·cases h
  ·cases h
 ·cases h
theorem gV {ds : List Deferred} {n N : Nat} {ah : List It} {ows : List (E × Ow)} (hsm : fS P ρ sm) (hc : aP P ρ cf) (hneg : ∀ e ∈ neg, al ρ e = false)
 (hd : (∀ (i d : Nat), i < n → aq all i = some d → d < tm.n) ∧ ∀ (i j d : Nat), i < n → j < n → i ≠ j → aq all i = some d → aq all j ≠ some d)
 (hows : ∀ x ∈ ows, al ρ x.1 = true → x.2.Ok ρ) (hpo : vN all n ah) (hBN : B ≤ N) (hlow : ∀ (i : Nat) (x : HE) (b : Nat), hp[i]? = some x → bn ρ ls i x b → b < N)
 {listed : Array Bool} {a : Act} {w : World} {i : Nat} {o : Oper} (hits : lD P cf sm hp neg all (aV all n tm) ah ows i o) (inv : HeadInv .any all n listed) (h : oU ρ cf B w0 ls hp tm all n ds ah N listed a w) (hin : i < n) (hrd : i ∈ Region.ready .any all listed) (ho : all[i]? = some o) :
 (Region.wanted o (yielded all a.tmps) = true ∧ gy P (fun v w' => oU ρ cf B w0 ls hp tm all n ds ah N (listed.setIfInBounds i true) (a.put o.dst v) w') ((execOp a.eval o).run P w)) ∨
 (Region.wanted o (yielded all a.tmps) = false ∧ oU ρ cf B w0 ls hp tm all n ds ah N (listed.setIfInBounds i true) (a.put o.dst undef) w) := by
 obtain ⟨hun, o', ho', hdep⟩ := mem_ready.1 hrd
 have : o' = o := Option.some.inj (ho'.symm.trans ho)
 subst this
 have hdo : aq all i = o'.dst := by unfold aq; rw [ho]; rfl
 obtain ⟨pre, hpre, hcase⟩ := hits
 have hr : aX ρ ls (dN all pre o'.after.toList (aV all n tm)) a := by
  refine ⟨by rw [lF, iK]; exact h.sz.symm, fun d t hdn ht => ?_⟩
  rw [lF, iK] at hdn
  rcases jQ ht with ⟨e, he, hb, it, hit, hde, rfl⟩ | ht
  ·have hl := hdep e (by simpa using he) hb
   have hlt : e.on < n := by
    rcases Nat.lt_or_ge e.on n with h1 | h1
    ·exact h1
    ·rcases Nat.lt_or_ge e.on all.size with h2 | h2
     ·have h3 := inv.tail e.on h1 h2
      rw [getD_both h3] at hl; cases hl
     ·rw [Array.getD_eq_getD_getElem?, Array.getElem?_eq_none (by rw [inv.size]; exact h2)] at hl; cases hl
   obtain ⟨ob, this⟩ := h.done e.on it d hlt hl (hpre _ _ hit) hde
   cases it with
   | val t => exact this
   | new sl ty cs => exact bO _
   | res c es => exact bO _
   | put _ _ => exact bO _
  ·rcases ko ht with rfl | ⟨h1, h2⟩
   ·exact bO _
   ·exact h.jW d t hdn h2 fun j hj _ => h1 j hj
 have put : ∀ {it : It} {u : Value} {w' : World} {ob : Option Nat}, ah[i]? = some it → (∀ t c, it ≠ .put t c) → w.grownBy w' none → aB ρ B w0 ls hp w' → zR ρ cf ls N w' ob it u → (it.fresh = true → ∀ b, ob = some b → w.heap.size ≤ b) →
  oU ρ cf B w0 ls hp tm all n ds ah N (listed.setIfInBounds i true) (a.put o'.dst u) w' := fun {it u w' ob} h1 h0 h2 h3 h4 h5 => by
  rw [← hdo]; refine h.step hin hun h1 hd h0 h2 h3 ?_ h5
  rw [tW h1 h0]
  cases it with
  | new sl ty cs =>
   obtain ⟨b, vs, e0, e1, e2, e3, e4⟩ := h4
   refine ⟨b, vs, e0, e1, e2, e3, ?_⟩
   rw [nN fun j c hj => ?_]
   ·exact e4
   ·rw [Nat.zero_add]
    obtain ⟨oj, hoj, _, e, he, hb, hon⟩ := hpo.dep hj
    cases hx : listed.getD j false
    ·rfl
    ·have := inv.closed j oj hoj hx e he hb
     rw [hon, getD_both hun] at this; cases this
  | val t => exact h4
  | res c es => exact h4
  | put _ _ => exact (h0 _ _ rfl).elim
 have g0 : w.grownBy w none := aN (Below.refl _ _) none
 rcases hcase with ⟨hg, hit⟩ | ⟨G, v, ow, hg, hv, hit, how⟩ | ⟨G, it, ow, hg, hT, hdst, hnew, hit, how⟩ | ⟨G, t, cs', hg, hT, hput, hit⟩
 ·exact .inr ⟨bF hg hr hneg, put (ob := none) hit (fun _ _ e => by cases e) g0 h.heap lB (fun e => by cases e)⟩
 ·have hwd := bF hg hr hneg
  cases hG : al ρ G
  ·refine .inr ⟨hwd.trans hG, put (ob := none) hit (fun _ _ e => by cases e) g0 h.heap ⟨(fun e => by rw [show al ρ G = true from e] at hG; cases hG), fun _ => rfl⟩ (fun e => by cases e)⟩
  ·have dZ : ow.Ok ρ := by
    rcases how with h1 | h1
    ·exact Ow.pq h1
    ·exact hows _ h1 hG
   have hs := xM (P := P) (a := a) (w := w) hsm hv hc.q dZ hr hG h.heap
   refine .inl ⟨hwd.trans hG, ?_⟩
   generalize (execOp a.eval o').run P w = r at *
   cases r with
   | ok nx w' =>
    cases nx <;> simp only [bH] at hs <;> simp only [gy]
    case value u => obtain ⟨rfl, h2⟩ := hs; exact put (ob := none) hit (fun _ _ e => by cases e) g0 h.heap ⟨fun _ => mz hneg h2, (fun e => by rw [show al ρ G = false from e] at hG; cases hG)⟩ (fun e => by cases e)
    case skip => obtain ⟨rfl, h2⟩ := hs; exact put (ob := none) hit (fun _ _ e => by cases e) g0 h.heap ⟨fun _ => mz hneg h2, fun _ => rfl⟩ (fun e => by cases e)
    case enter f args =>
     obtain ⟨rfl, hcl⟩ := hs
     exact hcl.mono fun e w'' ⟨u, he, hu, hb⟩ => ⟨u, he, put (ob := none) hit (fun _ _ e => by cases e) (aN hb none) (h.heap.calls hb) ⟨fun _ => mz hneg hu, (fun e => by rw [show al ρ G = false from e] at hG; cases hG)⟩ (fun e => by cases e)⟩
   | halt x w' => exact hs.elim
 ·have hwd := bF hg hr hneg
  have hG : al ρ G = true := bJ hT
  refine .inl ⟨hwd.trans hG, ?_⟩
  have halloc : ∀ {sl : Option Nat} {ty : TypeId} {cs : List SC} {vs : List Value}, it = .new sl ty cs → ai (RS ρ ls) cs vs → (execOp a.eval o').run P w = .ok (.value (Gk sl w.heap.size)) (w.alloc (.cells vs.toArray ty)) →
   gy P (fun v w' => oU ρ cf B w0 ls hp tm all n ds ah N (listed.setIfInBounds i true) (a.put o'.dst v) w') ((execOp a.eval o').run P w) := fun {sl ty cs vs} hite hrs hrun => by
   rw [hrun]
   have hgr : w.grownBy (w.alloc (.cells vs.toArray ty)) none := World.grownBy_alloc w _ none
   subst hite
   exact put hit (fun _ _ e => by cases e) hgr (h.heap.calls ⟨hgr.os, hgr.tape, hgr.output, hgr.size, fun k hk => hgr.block k hk (by simp)⟩) ⟨w.heap.size, vs, rfl, rfl, h.base, heap_alloc_new w _, hrs⟩ (fun _ b hb => by cases hb; exact Nat.le_refl _)
  unfold xN at hnew
  obtain ⟨dst, op, ty, pos, after, guard⟩ := o'
  split at hnew
  ·rename_i t hop
   split at hnew
   ·rename_i l hl
    cases hnew
    obtain ⟨z, vs, z1, z2, z3⟩ := fC hl ρ ls
    refine halloc rfl z3 ?_
    simp only at hop
    subst hop
    simp only [execOp, Instr.alloc, Sem.run_bind, z1, Result.andThen_ok, iG z2, Sem.run_pure]
    rfl
   ·cases hnew
  ·rename_i t x hop
   split at hnew
   ·rename_i v hx
    split at hnew
    ·rename_i l hl
     cases hnew
     obtain ⟨vs, z2, z3, _⟩ := cW hl (aj hx hr (G := .bc true) rfl)
     refine halloc rfl z3 ?_
     simp only at hop
     subst hop
     simp only [execOp, Instr.box, Sem.run_bind, Result.andThen_ok, iG z2, Sem.run_pure]
     rfl
    ·cases hnew
   ·cases hnew
  ·rename_i t len ps hop
   split at hnew
   ·split at hnew
    ·rename_i qs hq
     split at hnew
     ·rename_i el cs hs
      cases hnew
      obtain ⟨vs, hrun, hv⟩ := jC (P := P) (w := w) hs (iB hr (G := .bc true) rfl hq)
      refine halloc rfl hv ?_
      simp only at hop
      subst hop
      have e : (ps.map fun (x : Nat × Operand) => (x.1, a.eval x.2)) = (ps.toList.map fun x => (x.1, a.eval x.2)).toArray := by
       rw [← Array.toList_map]
      simp only [execOp]
      rw [show (ps.map fun (x : Nat × Operand) => (x.1, a.eval x.2)) = (ps.toList.map fun x => (x.1, a.eval x.2)).toArray from e]
      simp only [Sem.run_bind, hrun, Result.andThen_ok, Sem.run_pure]
      rfl
     ·cases hnew
    ·cases hnew
   ·cases hnew
  ·rename_i f args aty hop
   simp only at hop
   split at hnew
   ·rename_i f' hf
    obtain ⟨fs, cs, he, q1, q2⟩ := aj hf hr (G := .bc true) rfl
    have hfs : fs = [] := by cases fs with | nil => rfl | cons _ _ => exact q1.elim
    have hcs : cs = [] := by cases cs with | nil => rfl | cons _ _ => exact q2.elim
    subst hfs hcs
    split at hnew
    ·rename_i vs hvs
     split at hnew
     ·rename_i c es bg hfc
      obtain ⟨m1, m2, hargs⟩ := fI hfc
      have m1 := j9 m1
      split at hnew
      ·rename_i hle
       cases hnew
       have dZ : Ow.Ok ρ ⟨bg, lQ cf c.pre es⟩ := by
        rcases how with h1 | h1
        ·exact Ow.pq h1
        ·exact hows _ h1 hG
       obtain ⟨k1, fn, k2, k3, k4⟩ := hc.mW c m1
       have hcall := k1 (aM ρ es) _ w (h.heap.cS.up h.heap.size) (dU h.heap hargs dZ.1 (b8 hr (G := .bc true) rfl hvs)) (gD hc.pb dZ.2)
       have e : args.map a.eval = (args.toList.map a.eval).toArray := by rw [← Array.toList_map]
       subst hop
       have hrun : (execOp a.eval { dst := dst, op := .call { callee := .value f, args := args, argTypes := aty }, type := ty, pos := pos, after := after, guard := guard }).run P w = .ok (.enter c.f (args.toList.map a.eval).toArray) w := by
        simp only [execOp, resolve, he, Deferred.ofValue, Sem.run_bind, Sem.run_pure, Result.andThen_ok, invoke, e]
        rw [← m2, bd k2 k3 k4]
        simp
       rw [hrun]
       exact hcall.mono fun e' w' ⟨v, g1, g2, g3⟩ => by
        obtain ⟨u, hu⟩ := lR (cf := cf) hc.F g2 (Nat.le_of_ble_eq_true hle)
        have hu' : Io ρ cf c es N w' u v := ⟨hu.na, fun b hb => ⟨Nat.le_trans h.base (hu.ji b hb).1, (hu.ji b hb).2⟩, hu.val, hu.len, fun l x hx => ⟨(hu.bA l x hx).1, fun ls' i B hB hi => (hu.bA l x hx).2 ls' i B (Nat.le_trans hB h.base) hi⟩⟩
        exact ⟨v, g1, put (ob := bU (some u)) hit (fun _ _ e => by cases e) (aN g3 none) (h.heap.calls g3) ⟨u, rfl, hu'⟩ (fun _ b hb => (hu.ji b hb).1)⟩
      ·cases hnew
     ·cases hnew
    ·cases hnew
   ·cases hnew
  ·cases hnew
 ·have hwd := bF hg hr hneg
  have hG : al ρ G = true := bJ hT
  refine .inl ⟨hwd.trans hG, ?_⟩
  unfold xO at hput
  obtain ⟨dst, op, ty, pos, after, guard⟩ := o'
  split at hput
  ·rename_i tt d x hop hdst
   simp only at hop hdst
   subst hop hdst
   split at hput
   ·rename_i ti m v sz hfn hx hsz
    split at hput
    ·rename_i cs hcs
     split at hput
     ·rename_i hif
      simp only [Bool.and_eq_true] at hif
      obtain ⟨c1, c2⟩ := hif
      have c1 := Nat.eq_of_beq_eq_true c1
      have c2 := Nat.eq_of_beq_eq_true c2
      cases hput
      obtain ⟨ty0, cs0, ⟨e, he, hb, hon⟩, f1, f2, f3⟩ := lG hfn
      subst hon
      have hl := hdep e (by simpa using he) hb
      have hlt : e.on < n := by
       rcases Nat.lt_or_ge e.on n with h1 | h1
       ·exact h1
       ·rcases Nat.lt_or_ge e.on all.size with h2 | h2
        ·have h3 := inv.tail e.on h1 h2
         rw [getD_both h3] at hl; cases hl
        ·rw [Array.getD_eq_getD_getElem?, Array.getElem?_eq_none (by rw [inv.size]; exact h2)] at hl; cases hl
      obtain ⟨us, z1, z2, z3⟩ := cW hcs (aj hx hr (G := .bc true) rfl)
      obtain ⟨b, w', g1, g2, g3⟩ := h.I0 (P := P) hun hpo hit hlt hl (hpre _ _ f1) f2 hBN hlow z2 z3 (by omega)
      have hul : us.length = sz := by rw [← z2.len]; omega
      have hst : (storeVar tt ⟨b, 0, none⟩ (a.eval x)).run P w = .ok () w' := by simp [storeVar, run_sizeOf hsz, z1, hul, g2]
      simp only [execOp, Instr.storeAt, Instr.sureAddr, qA, g1, Sem.run_bind, Sem.run_pure, hst, Result.andThen_ok]
      exact g3
     ·cases hput
    ·cases hput
   ·cases hput
  ·cases hput
end
def vO (all : Array Oper) (tm : aw) (j : Nat) : Tm := match aq all j with
 | some d => (match tm.t.get d with | some t => if Nat.blt d tm.n then t else gw | none => gw)
 | none => gw
def bz (all : Array Oper) (tm : aw) (k : Nat) : List It := (List.range k).map fun j => .val (vO all tm j)
def sK (P : Program) (cf : a8) (sm : Sm) (hp : SH) (neg : List E) (ops : Array Oper) (tm : aw) (k n : Nat) : QR := jK P cf sm hp neg ops (aV ops n tm) ((ops.toList.take n).drop k) (bz ops tm k) []
def IJ (ops : Array Oper) (tm : aw) (k n : Nat) (q : QR) : Bool := Nat.beq q.ah.length n && Nat.ble k n && Nat.ble n ops.size && iU .any ops && oN .any ops n && tX tm.n ((ops.toList.take n).map (·.dst)) && sd q.ah
def Gm (P : Program) (cf : a8) (sm : Sm) (hp : SH) (neg : List E) (ops : Array Oper) (tm : aw) (k : Nat) : Nat → Option (Nat × QR)
 | 0 => none
 | d + 1 => if oN .any ops (k + (d + 1)) then (match sK P cf sm hp neg ops tm k (k + (d + 1)) with
  | q => if IJ ops tm k (k + (d + 1)) q then some (k + (d + 1), q) else Gm P cf sm hp neg ops tm k d) else Gm P cf sm hp neg ops tm k d
def BG (P : Program) (cf : a8) (sm : Sm) (hp : SH) (neg : List E) (ops : Array Oper) (tm : aw) (k : Nat) : Option (Nat × QR) :=
 Gm P cf sm hp neg ops tm k ((sK P cf sm hp neg ops tm k (mG [] (ops.toList.drop k) + k)).ah.length - k)
section
variable {P : Program} {ρ : Env} {B : Nat} {w0 w : World} {ls : Ls} {hp : SH} {tm : aw} {a : Act} {G : E} {cf : a8} {sm : Sm} {neg : List E} {all : Array Oper}
theorem pB {k n : Nat} {q : QR} : ∀ {d : Nat}, Gm P cf sm hp neg all tm k d = some (n, q) → q = sK P cf sm hp neg all tm k n ∧ IJ all tm k n q = true
 | 0, h => by cases h
 | d + 1, h => by
  simp only [Gm] at h
  split at h
  ·split at h
   ·rename_i hc; cases h; exact ⟨rfl, hc⟩
   ·exact pB h
  ·exact pB h
theorem iI (k : Nat) : (bz all tm k).length = k := by simp [bz]
theorem eE {k j : Nat} (hj : j < k) : (bz all tm k)[j]? = some (.val (vO all tm j)) := by
 unfold bz
 rw [List.getElem?_map, List.getElem?_range hj]; rfl
theorem kh (hr : aX ρ ls tm a) {j d : Nat} (hd : aq all j = some d) : RT ρ ls (vO all tm j) (a.tmps.getD d undef) := by
 unfold vO
 rw [hd]
 simp only
 split
 ·rename_i t ht
  split
  ·rename_i hdn
   exact hr.2 d t (Nat.le_of_ble_eq_true hdn) ht
  ·exact bO _
 ·exact bO _
theorem vP {tm : aw} {o : Oper} {i : Nat} {c : List SC} {ow : Ow} (h : xN P cf tm hp o = some (.put i c, ow)) : False := by
 unfold xN at h
 split at h
 ·split at h <;> cases h
 ·split at h
  ·split at h <;> cases h
  ·cases h
 ·split at h
  ·split at h
   ·split at h <;> cases h
   ·cases h
  ·cases h
 ·split at h
  ·split at h
   ·split at h
    ·split at h <;> cases h
    ·cases h
   ·cases h
  ·cases h
 ·cases h
theorem FL {r : Option Nat} {ds : List Deferred} {Q : Exit → Act → World → Prop} {k n : Nat} {q : QR} (hsm : fS P ρ sm) (hc : aP P ρ cf) (hneg : ∀ e ∈ neg, al ρ e = false) (hr : aX ρ ls tm a) (hdf : a.defers = ds) (hh : aB ρ B w0 ls hp w)
 (hq : BG P cf sm hp neg all tm k = some (n, q)) (hows : ∀ x ∈ q.ows, al ρ x.1 = true → x.2.Ok ρ)
 (hk : ∀ ls'' a' w', Ext ls ls'' → aX ρ ls'' (lE cf all q.ah q.ah 0 (aV all n tm) hp).1 a' → a'.defers = ds → aB ρ B w0 ls'' (lE cf all q.ah q.ah 0 (aV all n tm) hp).2 w' → wpAnyIn (dD r) 0 P .any all Q (all.size - n) (aS all.size n) a' w') :
 wpAnyIn (dD r) 0 P .any all Q (all.size - k) (aS all.size k) a w := by
 obtain ⟨hq1, hq2⟩ := pB hq
 simp only [IJ, Bool.and_eq_true] at hq2
 obtain ⟨⟨⟨⟨⟨⟨hlen, hkn⟩, hnle⟩, hdn⟩, hB⟩, hds⟩, hpb⟩ := hq2
 have hlen' : q.ah.length = n := Nat.eq_of_beq_eq_true hlen
 have hkn : k ≤ n := Nat.le_of_ble_eq_true hkn
 have hnle : n ≤ all.size := Nat.le_of_ble_eq_true hnle
 obtain ⟨hpre, _, _, hspec⟩ := gU hq1.symm
 rw [iI] at hspec
 have hits : ∀ j o, k ≤ j → j < n → all[j]? = some o → lD P cf sm hp neg all (aV all n tm) q.ah q.ows j o := fun j o hkj hj ho => by
  have e : k + (j - k) = j := by omega
  have := hspec (j - k) o (by rw [hlen', e]; exact hj) (by rw [List.getElem?_drop, List.getElem?_take, e]; simp [hj, ho])
  rwa [e] at this
 have hval : ∀ {j : Nat} {it : It}, q.ah[j]? = some it → it.fresh = true → k ≤ j := fun {j it} hit hf => by
  rcases Nat.lt_or_ge j k with hj | hj
  ·have h2 := hpre _ _ (eE hj)
   rw [hit] at h2
   cases h2
   cases hf
  ·exact hj
 obtain ⟨d1, d2⟩ := mQ hds
 have hdst : ∀ {i d : Nat}, i < n → aq all i = some d → ((all.toList.take n).map (·.dst))[i]? = some (some d) := fun {i d} hi hd => by
  unfold aq at hd
  cases ho : all[i]? with
  | none => rw [ho] at hd; cases hd
  | some o =>
   rw [ho] at hd
   have hd' : o.dst = some d := hd
   rw [List.getElem?_map, List.getElem?_take]
   simp [hi, ho, hd']
 have hd : (∀ (i d : Nat), i < n → aq all i = some d → d < tm.n) ∧ ∀ (i j d : Nat), i < n → j < n → i ≠ j → aq all i = some d → aq all j ≠ some d :=
  ⟨fun i d hi h => d1 i d (hdst hi h), fun i j d hi hj hij h h' => d2 i j d hij (hdst hi h) (hdst hj h')⟩
 have hN : ∀ (i : Nat) (x : HE) (b : Nat), hp[i]? = some x → bn ρ ls i x b → b < w.heap.size := fun i x b hx hb => fN hh.size (hh.bA i x hx) hb
 have hpo : vN all n q.ah := ⟨xT hpb, fun {i j c} hj => by
  have hjn : j < n := by rw [← hlen']; exact (List.getElem?_eq_some_iff.1 hj).1
  have hkj : k ≤ j := by
   rcases Nat.lt_or_ge j k with h | h
   ·have h2 := hpre _ _ (eE (all := all) (tm := tm) h)
    rw [hj] at h2; cases h2
   ·exact h
  have hjs : j < all.size := by omega
  have ho := Array.getElem?_eq_getElem hjs
  obtain ⟨pre, _, hcase⟩ := hits j all[j] hkj hjn ho
  rcases hcase with ⟨_, hit⟩ | ⟨G, v, ow, _, _, hit, _⟩ | ⟨G, it', ow, _, _, _, hnew, hit, _⟩ | ⟨G, t, cs', _, _, hput, hit⟩
  ·rw [hj] at hit; cases hit
  ·rw [hj] at hit; cases hit
  ·rw [hj] at hit; cases hit
   exact (vP hnew).elim
  ·rw [hj] at hit; cases hit
   exact ⟨_, ho, Gl hput⟩⟩
 have hlk : ∀ {i : Nat}, i < n → (aS all.size k).getD i false = true → i < k := fun {i} hi hl => by
  rw [aR _ (by omega)] at hl
  exact of_decide_eq_true hl
 have hnf : ∀ {i : Nat} {it : It}, i < k → q.ah[i]? = some it → it.fresh = true → False := fun hi h1 h2 => by have := hval h1 h2; omega
 refine Fe (r := r) (P := P) (Q := Q) k n (fun listed a' w' => oU ρ cf B w0 ls hp tm all n ds q.ah w.heap.size listed a' w' ∧ ∀ i, i < k → listed.getD i true = true) hkn hnle hdn hB ⟨?_, ?_⟩ (fun listed a' w' i o inv hm hin hrd ho => ?_) fun a' w' hm => ?_
 ·exact ⟨hdf, hr.1.symm, hh, Nat.le_refl _, fun d t hdn ht _ => hr.2 d t hdn ht, fun _ => none, fun i it d hi hl hit hdi => by
   have hik := hlk hi hl
   have h2 := hpre _ _ (eE (all := all) (tm := tm) hik)
   rw [hit] at h2
   cases h2
   exact kh hr hdi, fun i j x y d e b hi hj _ hl _ hx _ fx => (hnf (hlk hi hl) hx fx).elim⟩
 ·exact fun i hi => by rw [aR _ (by omega)]; exact decide_eq_true hi
 ·obtain ⟨hm, hlist⟩ := hm
  have hik : k ≤ i := by
   rcases Nat.lt_or_ge i k with h | h
   ·have h1 := (mem_ready.1 hrd).1
    rw [hlist i h] at h1; cases h1
   ·exact h
  have hl' : ∀ j, j < k → (listed.setIfInBounds i true).getD j true = true := fun j hj => by rw [getD_set_ne true (by omega)]; exact hlist j hj
  rcases gV hsm hc hneg hd hows hpo hh.size hN (hits i o hik hin ho) inv hm hin hrd ho with ⟨h1, h2⟩ | ⟨h1, h2⟩
  ·exact .inl ⟨h1, gy.mono (fun v w'' h3 => ⟨h3, hl'⟩) h2⟩
  ·exact .inr ⟨h1, h2, hl'⟩
 ·obtain ⟨hm, _⟩ := hm
  have hall' : ∀ i, i < n → (aS all.size n).getD i false = true := fun i hi => by rw [aR _ (by omega)]; exact decide_eq_true hi
  have hr0 : aX ρ ls (aV all n tm) a' := ⟨by rw [iK]; exact hm.sz.symm, fun d t hdn ht => by
   rw [iK] at hdn
   rcases ko ht with rfl | ⟨h1, h2⟩
   ·exact bO _
   ·exact hm.jW d t hdn h2 fun i hi _ => h1 i hi⟩
  have hlt : ∀ {j : Nat} {it : It}, q.ah[j]? = some it → j < n := fun {j it} hj => by rw [← hlen']; exact (List.getElem?_eq_some_iff.1 hj).1
  obtain ⟨bl, hdone, hapart⟩ := hm.held
  have hdst' : ∀ (j : Nat) (it : It), q.ah[j]? = some it → it.fresh = true → ∃ d, aq all j = some d := fun j it hj hf => by
   have hjn := hlt hj
   have hjs : j < all.size := by omega
   obtain ⟨pre, _, hcase⟩ := hits j all[j] (hval hj hf) hjn (Array.getElem?_eq_getElem hjs)
   rcases hcase with ⟨_, hit⟩ | ⟨G, v, ow, _, _, hit, _⟩ | ⟨G, it', ow, _, _, hds, _, hit, _⟩ | ⟨G, t, cs', _, _, _, hit⟩
   ·rw [hj] at hit; cases hit; cases hf
   ·rw [hj] at hit; cases hit; cases hf
   rotate_left
   ·rw [hj] at hit; cases hit; cases hf
   ·obtain ⟨d, hd'⟩ := Option.isSome_iff_exists.1 hds
    exact ⟨d, by unfold aq; rw [Array.getElem?_eq_getElem hjs]; exact hd'⟩
  obtain ⟨ls'', g1, g2, g3⟩ := kp (cf := cf) (all := all) (ls := ls) (N := w.heap.size) (bl := bl) hh.size q.ah 0 (aV all n tm) hp ls [] hr0 hm.heap (Ext.refl _) (fun i x b hx hb => .inl (hN i x b hx hb))
   (fun j it d hj hdj => by
     rw [Nat.zero_add] at hdj ⊢
     have := hdone j it d (hlt hj) (hall' j (hlt hj)) hj hdj
     rwa [show fV q.ah (fun j => (aS all.size n).getD j false) j it = fV q.ah (fun _ => true) j it by
      cases it with
      | new sl ty cs => simp only [fV]; rw [iN (q := fun _ => true) fun m c hm => by rw [Nat.zero_add]; exact hall' m (hlt hm)]
      | val t => rfl
      | res a b => rfl
      | put a b => rfl] at this)
   (fun j it hj hf => by rw [Nat.zero_add]; exact hdst' j it hj hf)
   (fun j x b _ _ _ => by simp)
   (fun i j x y b hij hx hy fx fy hb => by
     rw [Nat.zero_add] at hb ⊢
     obtain ⟨d, hd1⟩ := hdst' i x hx fx
     obtain ⟨e, he1⟩ := hdst' j y hy fy
     exact hapart i j x y d e b (hlt hx) (hlt hy) hij (hall' i (hlt hx)) (hall' j (hlt hy)) hx hy fx fy hd1 he1 hb)
  exact hk ls'' a' w' g1 g2 hm.Gy g3
end
def It.isVal : It → Bool
 | .val _ => true
 | _ => false
def ru (P : Program) (cf : a8) (sm : Sm) (hp : SH) (neg : List E) (ops : Array Oper) (tm : aw) (k c n : Nat) : Option (List It) :=
 match jK P cf sm hp neg ops (aV ops n tm) ((ops.toList.take c).drop k) (bz ops tm k) [] with
 | q1 => if Nat.beq q1.ah.length c && q1.ows.isEmpty then (match jK P cf sm hp neg ops (aV ops n tm) ((ops.toList.take n).drop (c + 1)) (q1.ah ++ [.val gw]) [] with
  | q2 => if Nat.beq q2.ah.length n && q2.ows.isEmpty && q2.ah.all It.isVal then some q2.ah else none) else none
def fY (ops : Array Oper) (tm : aw) (k c n : Nat) : Bool := Nat.ble k c && Nat.blt c n && Nat.ble n ops.size && iU .any ops && oN .any ops n && tX tm.n ((ops.toList.take n).map (·.dst))
def kD (ops : Array Oper) (ah : List It) (L : Array Bool) : Nat → aw → aw
 | 0, tm => tm
 | n + 1, tm => bB (kD ops ah L n tm) (aq ops n) (bif L.getD n false then (match ah[n]? with | some it => it.tm | none => gw) else gw)
section
variable {P : Program} {ρ : Env} {B : Nat} {w0 w : World} {ls : Ls} {hp : SH} {tm : aw} {a : Act} {G : E} {cf : a8} {sm : Sm} {neg : List E} {all : Array Oper}
theorem lD.more {tmM : aw} {ah its' : List It} {ows ows' : List (E × Ow)} {j : Nat} {o : Oper} (h : lD P cf sm hp neg all tmM ah ows j o) (hp1 : FI ah its') (ho : ∀ x ∈ ows, x ∈ ows') : lD P cf sm hp neg all tmM its' ows' j o := by
 obtain ⟨pre, h1, h2⟩ := h
 refine ⟨pre, fun j it hj => hp1 _ _ (h1 _ _ hj), ?_⟩
 rcases h2 with ⟨h3, h4⟩ | ⟨G, v, ow, h3, h4, h5, h6⟩ | ⟨G, it, ow, h3, h4, h5, h6, h7, h8⟩ | ⟨G, i, cs, h3, h4, h5, h6⟩
 ·exact .inl ⟨h3, hp1 _ _ h4⟩
 ·exact .inr (.inl ⟨G, v, ow, h3, h4, hp1 _ _ h5, h6.imp id (ho _)⟩)
 ·exact .inr (.inr (.inl ⟨G, it, ow, h3, h4, h5, h6, hp1 _ _ h7, h8.imp id (ho _)⟩))
 ·exact .inr (.inr (.inr ⟨G, i, cs, h3, h4, h5, hp1 _ _ h6⟩))
theorem BL {k c n : Nat} {ah : List It} (h : ru P cf sm hp neg all tm k c n = some ah) (hkc : k ≤ c) (hcn : c < n) :
 ah.length = n ∧ (∀ it ∈ ah, it.isVal = true) ∧ ah[c]? = some (.val gw) ∧ FI (bz all tm k) ah ∧ ∀ j o, k ≤ j → j < n → j ≠ c → all[j]? = some o → lD P cf sm hp neg all (aV all n tm) ah [] j o := by
 unfold ru at h
 simp only at h
 split at h
 ·rename_i hc1
  split at h
  ·rename_i hc2
   cases h
   simp only [Bool.and_eq_true, List.isEmpty_iff] at hc1 hc2
   obtain ⟨l1, o1⟩ := hc1
   obtain ⟨⟨l2, o2⟩, hv⟩ := hc2
   have l1 := Nat.eq_of_beq_eq_true l1
   have l2 := Nat.eq_of_beq_eq_true l2
   obtain ⟨p1, _, _, s1⟩ := gU (P := P) (cf := cf) (sm := sm) (hp := hp) (neg := neg) (all := all) (tmM := aV all n tm) (l := (all.toList.take c).drop k) (ah := bz all tm k) (ows := []) rfl
   obtain ⟨p2, _, _, s2⟩ := gU (P := P) (cf := cf) (sm := sm) (hp := hp) (neg := neg) (all := all) (tmM := aV all n tm) (l := (all.toList.take n).drop (c + 1)) (ah := (jK P cf sm hp neg all (aV all n tm) ((all.toList.take c).drop k) (bz all tm k) []).ah ++ [.val gw]) (ows := []) rfl
   rw [iI] at s1
   have hpre : FI (jK P cf sm hp neg all (aV all n tm) ((all.toList.take c).drop k) (bz all tm k) []).ah (jK P cf sm hp neg all (aV all n tm) ((all.toList.take n).drop (c + 1)) ((jK P cf sm hp neg all (aV all n tm) ((all.toList.take c).drop k) (bz all tm k) []).ah ++ [.val gw]) []).ah := fun j it hj => p2 _ _ (by rw [List.getElem?_append_left (List.getElem?_eq_some_iff.1 hj).1]; exact hj)
   refine ⟨l2, fun it hit => List.all_eq_true.1 hv it hit, p2 _ _ (by rw [List.getElem?_append_right (by rw [l1]; exact Nat.le_refl _), l1, Nat.sub_self]; rfl), fun j it hj => hpre _ _ (p1 _ _ hj), fun j o hkj hj hjc ho => ?_⟩
   rcases Nat.lt_or_ge j c with hlt | hge
   ·have e : k + (j - k) = j := by omega
    have := s1 (j - k) o (by rw [l1, e]; exact hlt) (by rw [List.getElem?_drop, List.getElem?_take, e]; simp [hlt, ho])
    rw [e] at this
    exact this.more hpre fun x hx => by rw [o1] at hx; cases hx
   ·have e : c + 1 + (j - (c + 1)) = j := by omega
    have := s2 (j - (c + 1)) o (by rw [List.length_append, l1, l2]; simp only [List.length_singleton]; omega) (by rw [List.getElem?_drop, List.getElem?_take, e]; simp [hj, ho])
    rw [List.length_append, l1] at this
    simp only [List.length_singleton] at this
    rw [e] at this
    exact this.more (fun _ _ h => h) fun x hx => by rw [o2] at hx; exact hx
  ·cases h
 ·cases h
theorem sg {ah : List It} {L : Array Bool} : ∀ {n : Nat}, (kD all ah L n tm).n = tm.n
 | 0 => rfl
 | n + 1 => by rw [kD, gR, sg]
theorem si {ah : List It} {L : Array Bool} {e : Nat} {y : Tm} : ∀ {n : Nat}, (kD all ah L n tm).t.get e = some y → y = gw ∨ (∃ i it, i < n ∧ L.getD i false = true ∧ aq all i = some e ∧ ah[i]? = some it ∧ y = it.tm) ∨ ((∀ i, i < n → aq all i ≠ some e) ∧ tm.t.get e = some y)
 | 0, h => .inr (.inr ⟨fun i hi => by omega, h⟩)
 | n + 1, h => by
  rcases mP h with ⟨h1, h2⟩ | ⟨h1, h2⟩
  ·cases hl : L.getD n false with
   | false => rw [hl] at h2; exact .inl h2
   | true =>
    rw [hl] at h2
    simp only [cond_true] at h2
    split at h2
    ·rename_i it hit
     exact .inr (.inl ⟨n, it, by omega, hl, h1, hit, h2⟩)
    ·exact .inl h2
  ·rcases si h2 with h3 | ⟨i, it, h3, h4⟩ | ⟨h3, h4⟩
   ·exact .inl h3
   ·exact .inr (.inl ⟨i, it, by omega, h4⟩)
   ·refine .inr (.inr ⟨fun i hi => ?_, h4⟩)
    by_cases hin : i = n
    ·subst hin; exact h1
    ·exact h3 i (by omega)
end
def lC (ρ : Env) (ls : Ls) (ops : Array Oper) (ah : List It) (L : Array Bool) (n : Nat) (tm : aw) (a : Act) : Prop :=
 a.tmps.size = tm.n ∧ (∀ d t, d < tm.n → tm.t.get d = some t → (∀ i, i < n → L.getD i false = true → aq ops i ≠ some d) → RT ρ ls t (a.tmps.getD d undef)) ∧
 ∀ i t d, i < n → L.getD i false = true → ah[i]? = some (.val t) → aq ops i = some d → RT ρ ls t (a.tmps.getD d undef)
section
variable {P : Program} {ρ : Env} {B : Nat} {w0 w : World} {ls : Ls} {hp : SH} {tm : aw} {a : Act} {G : E} {cf : a8} {sm : Sm} {neg : List E} {all : Array Oper}
theorem lC.ext {ls' : Ls} {ah : List It} {L : Array Bool} {n : Nat} (he : Ext ls ls') (h : lC ρ ls all ah L n tm a) : lC ρ ls' all ah L n tm a :=
 ⟨h.1, fun d t h1 h2 h3 => RT.ext he (h.2.1 d t h1 h2 h3), fun i t d h1 h2 h3 h4 => RT.ext he (h.2.2 i t d h1 h2 h3 h4)⟩
theorem eT {k c n : Nat} (h : fY all tm k c n = true) : k ≤ c ∧ c < n ∧ n ≤ all.size ∧ iU .any all = true ∧ oN .any all n = true ∧
 (∀ (i d : Nat), i < n → aq all i = some d → d < tm.n) ∧ ∀ (i j d : Nat), i < n → j < n → i ≠ j → aq all i = some d → aq all j ≠ some d := by
 simp only [fY, Bool.and_eq_true] at h
 obtain ⟨⟨⟨⟨⟨h1, h2⟩, h3⟩, h4⟩, h5⟩, h6⟩ := h
 obtain ⟨d1, d2⟩ := mQ h6
 have hdst : ∀ {i d : Nat}, i < n → aq all i = some d → ((all.toList.take n).map (·.dst))[i]? = some (some d) := fun {i d} hi hd => by
  unfold aq at hd
  cases ho : all[i]? with
  | none => rw [ho] at hd; cases hd
  | some o =>
   rw [ho] at hd
   have hd' : o.dst = some d := hd
   rw [List.getElem?_map, List.getElem?_take]
   simp [hi, ho, hd']
 exact ⟨Nat.le_of_ble_eq_true h1, Nat.le_of_ble_eq_true h2, Nat.le_of_ble_eq_true h3, h4, h5, fun i d hi h => d1 i d (hdst hi h), fun i j d hi hj hij h h' => d2 i j d hij (hdst hi h) (hdst hj h')⟩
theorem oU.QM {ds : List Deferred} {n N i : Nat} {ah : List It} {listed : Array Bool} {o : Oper} (h : oU ρ cf B w0 ls hp tm all n ds ah N listed a w) (inv : HeadInv .any all n listed) (ho : all[i]? = some o) (hrd : i ∈ Region.ready .any all listed) : aX ρ ls (dN all ah o.after.toList (aV all n tm)) a := by
 obtain ⟨hun, o', ho', hdep⟩ := mem_ready.1 hrd
 have : o' = o := Option.some.inj (ho'.symm.trans ho)
 subst this
 refine ⟨by rw [lF, iK]; exact h.sz.symm, fun d t hdn ht => ?_⟩
 rw [lF, iK] at hdn
 rcases jQ ht with ⟨e, he, hb, it, hit, hde, rfl⟩ | ht
 ·have hl := hdep e (by simpa using he) hb
  have hlt : e.on < n := by
   rcases Nat.lt_or_ge e.on n with h1 | h1
   ·exact h1
   ·rcases Nat.lt_or_ge e.on all.size with h2 | h2
    ·have h3 := inv.tail e.on h1 h2
     rw [getD_both h3] at hl; cases hl
    ·rw [Array.getD_eq_getD_getElem?, Array.getElem?_eq_none (by rw [inv.size]; exact h2)] at hl; cases hl
  obtain ⟨ob, this⟩ := h.done e.on it d hlt hl hit hde
  cases it with
  | val t => exact this
  | new sl ty cs => exact bO _
  | res c es => exact bO _
  | put _ _ => exact bO _
 ·rcases ko ht with rfl | ⟨h1, h2⟩
  ·exact bO _
  ·exact h.jW d t hdn h2 fun j hj _ => h1 j hj
theorem fW {n : Nat} {ah : List It} (hv : ∀ it ∈ ah, it.isVal = true) : vN all n ah :=
 ⟨(fun hj _ => by have := hv _ (List.mem_of_getElem? hj); cases this), (fun hj => by have := hv _ (List.mem_of_getElem? hj); cases this)⟩
theorem cZ {it : It} (h : it.isVal = true) : it.fresh = false := by cases it <;> first | rfl | cases h
theorem tR {r : Option Nat} {ds : List Deferred} {Q : Exit → Act → World → Prop} {k c n : Nat} {ah : List It} (hsm : fS P ρ sm) (hc : aP P ρ cf) (hneg : ∀ e ∈ neg, al ρ e = false) (hr : aX ρ ls tm a) (hdf : a.defers = ds) (hh : aB ρ B w0 ls hp w)
 (hits : ru P cf sm hp neg all tm k c n = some ah) (hchk : fY all tm k c n = true)
 (hcall : ∀ L a' w' o, HeadInv .any all n L → (∀ i, i < k → L.getD i true = true) → L.getD c true = false → c ∈ Region.ready .any all L → all[c]? = some o → lC ρ ls all ah L n tm a' →
   aX ρ ls (dN all ah o.after.toList (aV all n tm)) a' → a'.defers = ds → aB ρ B w0 ls hp w' → wpOpIn (dD r) 0 P all Q c (wpAnyIn (dD r) 0 P .any all Q (kK (L.setIfInBounds c true) n + (all.size - n)) (L.setIfInBounds c true)) a' w') :
 wpAnyIn (dD r) 0 P .any all Q (all.size - k) (aS all.size k) a w := by
 obtain ⟨hkc, hcn, hn, hdn, hB, hd⟩ := eT hchk
 obtain ⟨hlen, hv, hcu, hpre, hit⟩ := BL hits hkc hcn
 have key : ∀ (f : Nat) (L : Array Bool) (a' : Act) (w' : World), kK L n = f → HeadInv .any all n L → (∀ i, i < k → L.getD i true = true) → L.getD c true = false → oU ρ cf B w0 ls hp tm all n ds ah w.heap.size L a' w' → wpAnyIn (dD r) 0 P .any all Q (f + (all.size - n)) L a' w' := by
  intro f
  induction f with
  | zero => intro L a' w' hu inv hlk hlc hm; have := gO hu c hcn; rw [hlc] at this; cases this
  | succ f ih =>
   intro L a' w' hu inv hlk hlc hm
   rw [show f + 1 + (all.size - n) = (f + (all.size - n)) + 1 by omega]
   obtain ⟨i, hi, hun, hmin⟩ := gP hu
   refine ⟨fun h0 => ?_, fun j hj => ?_⟩
   ·exfalso
    have hi' : i < all.size := by omega
    have : i ∈ Region.ready .any all L := mem_ready.2 ⟨hun, all[i], Array.getElem?_eq_getElem hi', fun e he hb => by
     have hlt := cY hdn i _ (Array.getElem?_eq_getElem hi') e he hb
     have h1 := hmin e.on hlt
     have hsz : e.on < L.size := by rw [inv.size]; omega
     simp [hsz] at h1 ⊢
     exact h1⟩
    rw [h0] at this
    cases this
   ·have hjn := eD hB inv hi hun hj
    obtain ⟨hjun, oj, hoj, _⟩ := mem_ready.1 hj
    have hset := mw hjun hjn
    by_cases hjc : j = c
    ·subst hjc
     have := hcall L a' w' oj inv hlk hlc hj hoj ⟨hm.sz, hm.jW, fun i t d h1 h2 h3 h4 => by obtain ⟨_, h⟩ := hm.done i (.val t) d h1 h2 h3 h4; exact h⟩ (hm.QM inv hoj hj) hm.Gy hm.heap
     rwa [show kK (L.setIfInBounds j true) n = f by omega] at this
    ·have hkj : k ≤ j := by
      rcases Nat.lt_or_ge j k with h | h
      ·rw [hlk j h] at hjun; cases hjun
      ·exact h
     have hlk' : ∀ i, i < k → (L.setIfInBounds j true).getD i true = true := fun i hi => by rw [getD_set_ne true (by omega)]; exact hlk i hi
     have hlc' : (L.setIfInBounds j true).getD c true = false := by rw [getD_set_ne true hjc]; exact hlc
     unfold wpOpIn
     simp only [hoj]
     rcases gV hsm hc hneg hd (ows := []) (fun x hx => by cases hx) (fW hv) hh.size (fun i x b hx hb => fN hh.size (hh.bA i x hx) hb) (hit j oj hkj hjn hjc hoj) inv hm hjn hj hoj with ⟨hw, hup⟩ | ⟨hw, hca'⟩
     ·rw [if_pos hw]
      exact Oper.wpIn_mono (fun a'' w'' h' => ih _ a'' w'' (by omega) (inv.set hj hjn) hlk' hlc' h') (gy.wp (K := oU ρ cf B w0 ls hp tm all n ds ah w.heap.size (L.setIfInBounds j true)) hup)
     ·rw [if_neg (by rw [hw]; exact Bool.false_ne_true)]
      exact ⟨fun f _ => gu r f, ih _ _ _ (by omega) (inv.set hj hjn) hlk' hlc' hca'⟩
 have h0 := key (n - k) (aS all.size k) a w (gQ n hn) (fJ hdn (by omega)) (fun i hi => by rw [aR _ (by omega)]; exact decide_eq_true hi) (by rw [aR _ (by omega)]; exact decide_eq_false (by omega)) ?_
 ·rwa [show n - k + (all.size - n) = all.size - k by omega] at h0
 ·have hlk : ∀ {i : Nat}, i < n → (aS all.size k).getD i false = true → i < k := fun {i} hi hl => by
   rw [aR _ (by omega)] at hl
   exact of_decide_eq_true hl
  exact ⟨hdf, hr.1.symm, hh, Nat.le_refl _, fun d t hdn ht _ => hr.2 d t hdn ht, fun _ => none, fun i it d hi hl hit' hdi => by
   have h2 := hpre _ _ (eE (all := all) (tm := tm) (hlk hi hl))
   rw [hit'] at h2
   cases h2
   exact kh hr hdi, fun i j x y d e b hi hj _ hl _ hx _ fx => by rw [cZ (hv x (List.mem_of_getElem? hx))] at fx; cases fx⟩
theorem oh {r : Option Nat} {ds : List Deferred} {Q : Exit → Act → World → Prop} {k c n : Nat} {ah : List It} {L : Array Bool} {t : Tm} {z : Value} (hsm : fS P ρ sm) (hc : aP P ρ cf) (hneg : ∀ e ∈ neg, al ρ e = false) (hdf : a.defers = ds) (hh : aB ρ B w0 ls hp w)
 (hits : ru P cf sm hp neg all tm k c n = some ah) (hchk : fY all tm k c n = true) (inv : HeadInv .any all n L) (hlk : ∀ i, i < k → L.getD i true = true) (hlc : L.getD c true = false) (hrd : c ∈ Region.ready .any all L)
 (hr : lC ρ ls all ah L n tm a) (hz : RT ρ ls t z)
 (hk : ∀ a' w', aX ρ ls (kD all (ah.set c (.val t)) (aS all.size n) n tm) a' → a'.defers = ds → aB ρ B w0 ls hp w' → wpAnyIn (dD r) 0 P .any all Q (all.size - n) (aS all.size n) a' w') :
 wpAnyIn (dD r) 0 P .any all Q (kK (L.setIfInBounds c true) n + (all.size - n)) (L.setIfInBounds c true) (a.put (aq all c) z) w := by
 obtain ⟨hkc, hcn, hn, hdn, hB, hd⟩ := eT hchk
 obtain ⟨hlen, hv, hcu, hpre, hit⟩ := BL hits hkc hcn
 have kO : ∀ {i : Nat} {x : It}, ah[i]? = some x → x.fresh = true → False := fun hx fx => by rw [cZ (hv _ (List.mem_of_getElem? hx))] at fx; cases fx
 refine iE (r := r) (P := P) (ops := all) (md := .any) (n := n) (g := all.size - n) (CA := fun listed a' w' => oU ρ cf B w0 ls hp tm all n ds ah w.heap.size listed a' w' ∧ (∀ i, i < k → listed.getD i true = true) ∧ listed.getD c true = true ∧ ∀ d, aq all c = some d → RT ρ ls t (a'.tmps.getD d undef)) (Q' := Q) (cY hdn) hn
  (fun listed inv ⟨i, hi, hun⟩ t ht => eD hB inv hi hun ht) (fun listed a' w' i o inv hm hin hrd2 ho => ?_) (fun listed a' w' inv hall hm => ?_) _ _ _ _ rfl (inv.set hrd hcn) ⟨⟨?_, ?_, hh, Nat.le_refl _, ?_, fun _ => none, ?_, fun i j x y d e b _ _ _ _ _ hx _ fx => (kO hx fx).elim⟩, fun i hi => by rw [getD_set_ne true (by omega)]; exact hlk i hi, cX _ _, ?_⟩
 ·obtain ⟨hm, hlist, hcl, hcv⟩ := hm
  have hik : k ≤ i := by
   rcases Nat.lt_or_ge i k with h | h
   ·have h1 := (mem_ready.1 hrd2).1
    rw [hlist i h] at h1; cases h1
   ·exact h
  have hic : i ≠ c := fun e => by subst e; have h1 := (mem_ready.1 hrd2).1; rw [hcl] at h1; cases h1
  have hdo : aq all i = o.dst := by unfold aq; rw [ho]; rfl
  have hl' : ∀ j, j < k → (listed.setIfInBounds i true).getD j true = true := fun j hj => by rw [getD_set_ne true (by omega)]; exact hlist j hj
  have hc' : (listed.setIfInBounds i true).getD c true = true := by rw [getD_set_ne true hic]; exact hcl
  have hv' : ∀ u d, aq all c = some d → RT ρ ls t ((a'.put o.dst u).tmps.getD d undef) := fun u d hdc => by
   rcases cD (a := a') (d := o.dst) (u := u) (e := d) with ⟨_, h2, _⟩ | ⟨h1, _⟩
   ·exact (hd.2 i c d hin hcn hic (by rw [hdo]; exact h2) hdc).elim
   ·rw [h1]; exact hcv d hdc
  rcases gV hsm hc hneg hd (ows := []) (fun x hx => by cases hx) (fW hv) hh.size (fun i x b hx hb => fN hh.size (hh.bA i x hx) hb) (hit i o hik hin hic ho) inv hm hin hrd2 ho with ⟨h1, h2⟩ | ⟨h1, h2⟩
  ·exact .inl ⟨h1, gy.mono (fun v w'' h3 => ⟨h3, hl', hc', hv' v⟩) h2⟩
  ·exact .inr ⟨h1, h2, hl', hc', hv' undef⟩
 ·obtain ⟨hm, hlist, hcl, hcv⟩ := hm
  have hl := my inv hall
  subst hl
  have hall' : ∀ i, i < n → (aS all.size n).getD i false = true := fun i hi => by rw [aR _ (by omega)]; exact decide_eq_true hi
  refine hk a' w' ⟨by rw [sg]; exact hm.sz.symm, fun d y hdn hy => ?_⟩ hm.Gy hm.heap
  rw [sg] at hdn
  rcases si hy with rfl | ⟨i, it, h1, h2, h3, h4, rfl⟩ | ⟨h1, h2⟩
  ·exact bO _
  ·by_cases hic : i = c
   ·subst hic
    rw [List.getElem?_set_self (by rw [hlen]; exact h1)] at h4
    cases h4
    exact hcv d h3
   ·rw [List.getElem?_set_ne (fun e => hic e.symm)] at h4
    obtain ⟨ob, this⟩ := hm.done i it d h1 (hall' i h1) h4 h3
    cases it with
    | val t' => exact this
    | new sl ty cs => exact bO _
    | res c es => exact bO _
    | put _ _ => exact bO _
  ·exact hm.jW d y hdn h2 fun i hi _ => h1 i hi
 ·cases aq all c <;> exact hdf
 ·cases aq all c with
  | none => exact hr.1
  | some d => show (a.tmps.setIfInBounds d z).size = _; rw [Array.size_setIfInBounds]; exact hr.1
 ·intro d y hdn hy hno
  have hnc : aq all c ≠ some d := hno c hcn (du hlc)
  rcases cD (a := a) (d := aq all c) (u := z) (e := d) with ⟨_, h2, _⟩ | ⟨h1, _⟩
  ·exact (hnc h2).elim
  ·rw [h1]; exact hr.2.1 d y hdn hy fun i hi hl => hno i hi (getD_set_true hl)
 ·intro i it d hi hl hit' hdi
  by_cases hic : i = c
  ·subst hic
   rw [hcu] at hit'; cases hit'
   exact bO _
  ·rw [getD_set_ne false (fun e => hic e.symm)] at hl
   rcases cD (a := a) (d := aq all c) (u := z) (e := d) with ⟨_, h2, _⟩ | ⟨h1, _⟩
   ·exact (hd.2 c i d hcn hi (fun e => hic e.symm) h2 hdi).elim
   ·rw [h1]
    have hiv := hv it (List.mem_of_getElem? hit')
    cases it with
    | val t' => exact hr.2.2 i t' d hi hl hit' hdi
    | new sl ty cs => cases hiv
    | res c es => cases hiv
    | put _ _ => cases hiv
 ·intro d hdc
  rcases cD (a := a) (d := aq all c) (u := z) (e := d) with ⟨h1, _, _⟩ | ⟨_, h2⟩
  ·rw [h1]; exact hz
  ·rcases h2 with h2 | h2
   ·exact (h2 hdc).elim
   ·have := hd.1 c d hcn hdc
    rw [hr.1] at h2; omega
end
def tP : List (Nat × Tm) → Nat → Option Tm
 | [], _ => none
 | (c, t) :: r, j => if Nat.beq c j then some t else tP r j
theorem fT : ∀ {l : List (Nat × Tm)} {j : Nat}, (∀ x ∈ l, x.1 ≠ j) → tP l j = none
 | [], _, _ => rfl
 | (c, t) :: r, j, h => by
  have hc : c ≠ j := h _ (List.mem_cons_self ..)
  have hb : Nat.beq c j = false := by
   cases hq : Nat.beq c j with
   | false => rfl
   | true => exact absurd (Nat.eq_of_beq_eq_true hq) hc
  show (if Nat.beq c j then some t else tP r j) = none
  rw [hb, if_neg Bool.false_ne_true]
  exact fT fun x hx => h x (List.mem_cons_of_mem _ hx)
def jI (P : Program) (cf : a8) (sm : Sm) (hp : SH) (neg : List E) (ops : Array Oper) (tmM : aw) (fx : List (Nat × Tm)) : List Oper → List It → List (E × Ow) → Option (List It × List (E × Ow))
 | [], acc, ows => some (acc, ows)
 | o :: r, acc, ows => (match tP fx acc.length with
  | some t => jI P cf sm hp neg ops tmM fx r (acc ++ [.val t]) ows
  | none => (match jK P cf sm hp neg ops tmM [o] acc ows with
   | q => if Nat.beq q.ah.length (acc.length + 1) && q.ah.all It.isVal then jI P cf sm hp neg ops tmM fx r q.ah q.ows else none))
structure vR (ρ : Env) (cf : a8) (B : Nat) (w0 : World) (ls : Ls) (hp : SH) (tm : aw) (all : Array Oper) (n k : Nat) (ds : List Deferred) (ah : List It) (dn pd : List Nat) (L : Array Bool) (a : Act) (w : World) : Prop where
 inv : HeadInv .any all n L
 lo : ∀ i, i < k → L.getD i true = true
 dn : ∀ i ∈ dn, L.getD i true = true
 pd : ∀ i ∈ pd, L.getD i true = false
 JD : ∃ N, B ≤ N ∧ (∀ (i : Nat) (x : HE) (b : Nat), hp[i]? = some x → bn ρ ls i x b → b < N) ∧ oU ρ cf B w0 ls hp tm all n ds ah N L a w
section
variable {P : Program} {ρ : Env} {B : Nat} {w0 w : World} {ls : Ls} {hp : SH} {tm tmM : aw} {a : Act} {G : E} {cf : a8} {sm : Sm} {neg : List E} {all : Array Oper}
theorem rL {i c : Nat} {l : List Nat} (h1 : i ∈ l) (h2 : c ∉ l) : c ≠ i := fun e => h2 (by rw [e]; exact h1)
theorem vz {fx : List (Nat × Tm)} : ∀ {l : List Oper} {acc ah : List It} {ows ows' : List (E × Ow)}, jI P cf sm hp neg all tmM fx l acc ows = some (ah, ows') → (∀ (i : Nat) o, l[i]? = some o → all[acc.length + i]? = some o) → (∀ it ∈ acc, it.isVal = true) →
 ah.length = acc.length + l.length ∧ (∀ it ∈ ah, it.isVal = true) ∧ FI acc ah ∧ (∀ x ∈ ows, x ∈ ows') ∧ ∀ j o, acc.length ≤ j → j < ah.length → tP fx j = none → all[j]? = some o → lD P cf sm hp neg all tmM ah ows' j o
 | [], acc, ah, ows, ows', h, _, hv => by
  cases h
  exact ⟨by simp, hv, fun _ _ h => h, fun _ h => h, fun j o h1 h2 => by omega⟩
 | o :: r, acc, ah, ows, ows', h, hl, hv => by
  simp only [jI] at h
  have hl' : ∀ (i : Nat) o', r[i]? = some o' → all[acc.length + 1 + i]? = some o' := fun i o' hi => by
   have := hl (i + 1) o' (by simpa using hi)
   rwa [show acc.length + (i + 1) = acc.length + 1 + i by omega] at this
  split at h
  ·rename_i t ht
   obtain ⟨i1, i2, i3, io, i4⟩ := vz h (fun i o' hi => by rw [List.length_append]; exact hl' i o' hi) (fun it hit => by
    rcases List.mem_append.1 hit with h1 | h1
    ·exact hv it h1
    ·rw [List.mem_singleton.1 h1]; rfl)
   rw [List.length_append] at i1 i4
   simp only [List.length_singleton] at i1 i4
   refine ⟨by rw [i1, List.length_cons]; omega, i2, fun j it hj => i3 _ _ (by rw [List.getElem?_append_left (List.getElem?_eq_some_iff.1 hj).1]; exact hj), io, fun j o' h1 h2 h3 h4 => ?_⟩
   by_cases e : j = acc.length
   ·rw [e, ht] at h3; cases h3
   ·exact i4 j o' (by omega) h2 h3 h4
  ·rename_i ht
   split at h
   ·rename_i hc
    simp only [Bool.and_eq_true] at hc
    obtain ⟨l1, hq⟩ := hc
    have l1 := Nat.eq_of_beq_eq_true l1
    obtain ⟨p1, p2, _, s1⟩ := gU (P := P) (cf := cf) (sm := sm) (hp := hp) (neg := neg) (all := all) (tmM := tmM) (l := [o]) (ah := acc) (ows := ows) rfl
    obtain ⟨i1, i2, i3, io, i4⟩ := vz h (fun i o' hi => by rw [l1]; exact hl' i o' hi) (fun it hit => List.all_eq_true.1 hq it hit)
    rw [l1] at i1 i4
    refine ⟨by rw [i1, List.length_cons]; omega, i2, fun j it hj => i3 _ _ (p1 _ _ hj), fun x hx => io x (p2 x hx), fun j o' h1 h2 h3 h4 => ?_⟩
    by_cases e : j = acc.length
    ·subst e
     have h5 := hl 0 o rfl
     rw [Nat.add_zero] at h5
     have : o' = o := Option.some.inj (h4.symm.trans h5)
     subst this
     exact (s1 0 o' (by rw [l1]; omega) rfl).more i3 io
    ·exact i4 j o' (by omega) h2 h3 h4
   ·cases h
theorem NM {r : Option Nat} {ds : List Deferred} {Q : Exit → Act → World → Prop} {k c n : Nat} {ah : List It} {ows : List (E × Ow)} {dn cs : List Nat} (hsm : fS P ρ sm) (hc : aP P ρ cf) (hneg : ∀ e ∈ neg, al ρ e = false)
 (hdn : iU .any all = true) (hB : oN .any all n = true) (hn : n ≤ all.size)
 (hd : (∀ (i d : Nat), i < n → aq all i = some d → d < tm.n) ∧ ∀ (i j d : Nat), i < n → j < n → i ≠ j → aq all i = some d → aq all j ≠ some d)
 (hv : ∀ it ∈ ah, it.isVal = true) (hcn : c < n) (hows : ∀ x ∈ ows, al ρ x.1 = true → x.2.Ok ρ)
 (hit : ∀ j o, k ≤ j → j < n → j ∉ dn → j ≠ c → j ∉ cs → all[j]? = some o → lD P cf sm hp neg all (aV all n tm) ah ows j o)
 (hdep : ∀ j ∈ cs, ∃ o, all[j]? = some o ∧ ∃ e ∈ o.after, Region.binds .any e = true ∧ e.on ∈ c :: cs)
 (hcall : ∀ L a w o, vR ρ cf B w0 ls hp tm all n k ds ah dn (c :: cs) L a w → c ∈ Region.ready .any all L → all[c]? = some o → wpOpIn (dD r) 0 P all Q c (wpAnyIn (dD r) 0 P .any all Q (kK (L.setIfInBounds c true) n + (all.size - n)) (L.setIfInBounds c true)) a w) :
 ∀ (f : Nat) (L : Array Bool) (a : Act) (w : World), kK L n = f → vR ρ cf B w0 ls hp tm all n k ds ah dn (c :: cs) L a w → wpAnyIn (dD r) 0 P .any all Q (f + (all.size - n)) L a w := by
 intro f
 induction f with
 | zero => intro L a w hu h; have := gO hu c hcn; rw [h.pd c (List.mem_cons_self ..)] at this; cases this
 | succ f ih =>
  intro L a w hu h
  have inv := h.inv
  rw [show f + 1 + (all.size - n) = (f + (all.size - n)) + 1 by omega]
  obtain ⟨i, hi, hun, hmin⟩ := gP hu
  refine ⟨fun h0 => ?_, fun j hj => ?_⟩
  ·exfalso
   have hi' : i < all.size := by omega
   have : i ∈ Region.ready .any all L := mem_ready.2 ⟨hun, all[i], Array.getElem?_eq_getElem hi', fun e he hb => by
    have hlt := cY hdn i _ (Array.getElem?_eq_getElem hi') e he hb
    have h1 := hmin e.on hlt
    have hsz : e.on < L.size := by rw [inv.size]; omega
    simp [hsz] at h1 ⊢
    exact h1⟩
   rw [h0] at this
   cases this
  ·have hjn := eD hB inv hi hun hj
   obtain ⟨hjun, oj, hoj, hdj⟩ := mem_ready.1 hj
   have hset := mw hjun hjn
   by_cases hjc : j = c
   ·subst hjc
    have := hcall L a w oj h hj hoj
    rwa [show kK (L.setIfInBounds j true) n = f by omega] at this
   ·have hkj : k ≤ j := by
     rcases Nat.lt_or_ge j k with h' | h'
     ·rw [h.lo j h'] at hjun; cases hjun
     ·exact h'
    have hjd : j ∉ dn := fun hm => by rw [h.dn j hm] at hjun; cases hjun
    have hjp : j ∉ cs := fun hm => by
     obtain ⟨o, ho, e, he, hb, hmem⟩ := hdep j hm
     have : o = oj := Option.some.inj (ho.symm.trans hoj)
     subst this
     have h1 := hdj e he hb
     rw [getD_both (h.pd _ hmem)] at h1; cases h1
    obtain ⟨N, hBN, hlow, hm⟩ := h.JD
    have next : ∀ {a' : Act} {w' : World}, oU ρ cf B w0 ls hp tm all n ds ah N (L.setIfInBounds j true) a' w' → vR ρ cf B w0 ls hp tm all n k ds ah dn (c :: cs) (L.setIfInBounds j true) a' w' := fun hm' =>
     ⟨inv.set hj hjn, fun i hi => by rw [getD_set_ne true (by omega)]; exact h.lo i hi, fun i hi => by rw [getD_set_ne true (rL hi hjd)]; exact h.dn i hi,
       fun i hi => by
        rw [getD_set_ne true (fun e => ?_)]
        ·exact h.pd i hi
        ·subst e
         rcases List.mem_cons.1 hi with e | e
         ·exact hjc e
         ·exact hjp e, N, hBN, hlow, hm'⟩
    unfold wpOpIn
    simp only [hoj]
    rcases gV hsm hc hneg hd (ows := ows) hows (fW hv) hBN hlow (hit j oj hkj hjn hjd hjc hjp hoj) inv hm hjn hj hoj with ⟨hw, hup⟩ | ⟨hw, hca'⟩
    ·rw [if_pos hw]
     exact Oper.wpIn_mono (fun a'' w'' h' => ih _ a'' w'' (by omega) (next h')) (gy.wp (K := oU ρ cf B w0 ls hp tm all n ds ah N (L.setIfInBounds j true)) hup)
    ·rw [if_neg (by rw [hw]; exact Bool.false_ne_true)]
     exact ⟨fun f _ => gu r f, ih _ _ _ (by omega) (next hca')⟩
theorem L8 {r : Option Nat} {ds : List Deferred} {Q : Exit → Act → World → Prop} {k c n : Nat} {ah : List It} {ows : List (E × Ow)} {dn cs : List Nat} (hsm : fS P ρ sm) (hc : aP P ρ cf) (hneg : ∀ e ∈ neg, al ρ e = false)
 (hdn : iU .any all = true) (hB : oN .any all n = true) (hn : n ≤ all.size)
 (hd : (∀ (i d : Nat), i < n → aq all i = some d → d < tm.n) ∧ ∀ (i j d : Nat), i < n → j < n → i ≠ j → aq all i = some d → aq all j ≠ some d)
 (hv : ∀ it ∈ ah, it.isVal = true) (hcn : c < n) (hows : ∀ x ∈ ows, al ρ x.1 = true → x.2.Ok ρ)
 (hmem : c ∈ cs) (hit : ∀ j o, k ≤ j → j < n → j ∉ dn → j ∉ cs → all[j]? = some o → lD P cf sm hp neg all (aV all n tm) ah ows j o)
 (hcall : ∀ c ∈ cs, ∀ L a w o, vR ρ cf B w0 ls hp tm all n k ds ah dn cs L a w → c ∈ Region.ready .any all L → all[c]? = some o → wpOpIn (dD r) 0 P all Q c (wpAnyIn (dD r) 0 P .any all Q (kK (L.setIfInBounds c true) n + (all.size - n)) (L.setIfInBounds c true)) a w) :
 ∀ (f : Nat) (L : Array Bool) (a : Act) (w : World), kK L n = f → vR ρ cf B w0 ls hp tm all n k ds ah dn cs L a w → wpAnyIn (dD r) 0 P .any all Q (f + (all.size - n)) L a w := by
 intro f
 induction f with
 | zero => intro L a w hu h; have := gO hu c hcn; rw [h.pd c hmem] at this; cases this
 | succ f ih =>
  intro L a w hu h
  have inv := h.inv
  rw [show f + 1 + (all.size - n) = (f + (all.size - n)) + 1 by omega]
  obtain ⟨i, hi, hun, hmin⟩ := gP hu
  refine ⟨fun h0 => ?_, fun j hj => ?_⟩
  ·exfalso
   have hi' : i < all.size := by omega
   have : i ∈ Region.ready .any all L := mem_ready.2 ⟨hun, all[i], Array.getElem?_eq_getElem hi', fun e he hb => by
    have hlt := cY hdn i _ (Array.getElem?_eq_getElem hi') e he hb
    have h1 := hmin e.on hlt
    have hsz : e.on < L.size := by rw [inv.size]; omega
    simp [hsz] at h1 ⊢
    exact h1⟩
   rw [h0] at this
   cases this
  ·have hjn := eD hB inv hi hun hj
   obtain ⟨hjun, oj, hoj, hdj⟩ := mem_ready.1 hj
   have hset := mw hjun hjn
   by_cases hjc : j ∈ cs
   ·have := hcall j hjc L a w oj h hj hoj
    rwa [show kK (L.setIfInBounds j true) n = f by omega] at this
   ·have hkj : k ≤ j := by
     rcases Nat.lt_or_ge j k with h' | h'
     ·rw [h.lo j h'] at hjun; cases hjun
     ·exact h'
    have hjd : j ∉ dn := fun hm => by rw [h.dn j hm] at hjun; cases hjun
    obtain ⟨N, hBN, hlow, hm⟩ := h.JD
    have next : ∀ {a' : Act} {w' : World}, oU ρ cf B w0 ls hp tm all n ds ah N (L.setIfInBounds j true) a' w' → vR ρ cf B w0 ls hp tm all n k ds ah dn cs (L.setIfInBounds j true) a' w' := fun hm' =>
     ⟨inv.set hj hjn, fun i hi => by rw [getD_set_ne true (by omega)]; exact h.lo i hi, fun i hi => by rw [getD_set_ne true (rL hi hjd)]; exact h.dn i hi,
       fun i hi => by
        rw [getD_set_ne true (fun e => hjc (by rw [e]; exact hi))]
        exact h.pd i hi, N, hBN, hlow, hm'⟩
    unfold wpOpIn
    simp only [hoj]
    rcases gV hsm hc hneg hd (ows := ows) hows (fW hv) hBN hlow (hit j oj hkj hjn hjd hjc hoj) inv hm hjn hj hoj with ⟨hw, hup⟩ | ⟨hw, hca'⟩
    ·rw [if_pos hw]
     exact Oper.wpIn_mono (fun a'' w'' h' => ih _ a'' w'' (by omega) (next h')) (gy.wp (K := oU ρ cf B w0 ls hp tm all n ds ah N (L.setIfInBounds j true)) hup)
    ·rw [if_neg (by rw [hw]; exact Bool.false_ne_true)]
     exact ⟨fun f _ => gu r f, ih _ _ _ (by omega) (next hca')⟩
theorem Bu {ds : List Deferred} {k c n : Nat} {ah : List It} {dn dn' cs : List Nat} {ls' : Ls} {hp' : SH} {w' : World} {L : Array Bool} {t : Tm} {z : Value} (hn : n ≤ all.size)
 (hd : (∀ (i d : Nat), i < n → aq all i = some d → d < tm.n) ∧ ∀ (i j d : Nat), i < n → j < n → i ≠ j → aq all i = some d → aq all j ≠ some d)
 (hv : ∀ it ∈ ah, it.isVal = true) (hlen : ah.length = n) (hcn : c < n) (hkc : k ≤ c) (hcs : c ∉ cs) (hsub : ∀ i ∈ dn', i = c ∨ L.getD i true = true)
 (h : vR ρ cf B w0 ls hp tm all n k ds ah dn (c :: cs) L a w) (hrd : c ∈ Region.ready .any all L) (he : Ext ls ls') (hh : aB ρ B w0 ls' hp' w') (hz : RT ρ ls' t z) :
 vR ρ cf B w0 ls' hp' tm all n k ds (ah.set c (.val t)) dn' cs (L.setIfInBounds c true) (a.put (aq all c) z) w' := by
 have hlc := h.pd c (List.mem_cons_self ..)
 obtain ⟨N, _, _, hm⟩ := h.JD
 have hv' : ∀ it ∈ ah.set c (.val t), it.isVal = true := fun it hit => by
  rcases List.mem_or_eq_of_mem_set hit with h1 | h1
  ·exact hv it h1
  ·subst h1; rfl
 have kO : ∀ {i : Nat} {x : It}, (ah.set c (.val t))[i]? = some x → x.fresh = true → False := fun hx fx => by rw [cZ (hv' _ (List.mem_of_getElem? hx))] at fx; cases fx
 refine ⟨h.inv.set hrd hcn, fun i hi => by rw [getD_set_ne true (by omega)]; exact h.lo i hi, fun i hi => ?_, fun i hi => by rw [getD_set_ne true (rL hi hcs)]; exact h.pd i (List.mem_cons_of_mem _ hi),
  w'.heap.size, hh.size, fun i x b hx hb => fN hh.size (hh.bA i x hx) hb, ?_, ?_, hh, Nat.le_refl _, ?_, fun _ => none, ?_, fun i j x y d e b _ _ _ _ _ hx _ fx => (kO hx fx).elim⟩
 ·by_cases hic : c = i
  ·rw [← hic]; exact cX _ _
  ·rw [getD_set_ne true hic]
   rcases hsub i hi with h1 | h1
   ·exact absurd h1.symm hic
   ·exact h1
 ·cases aq all c <;> exact hm.Gy
 ·cases aq all c with
  | none => exact hm.sz
  | some d => show (a.tmps.setIfInBounds d z).size = _; rw [Array.size_setIfInBounds]; exact hm.sz
 ·intro d y hdn hy hno
  have hnc : aq all c ≠ some d := hno c hcn (du hlc)
  rcases cD (a := a) (d := aq all c) (u := z) (e := d) with ⟨_, h2, _⟩ | ⟨h1, _⟩
  ·exact (hnc h2).elim
  ·rw [h1]; exact RT.ext he (hm.jW d y hdn hy fun i hi hl => hno i hi (getD_set_true hl))
 ·intro i it d hi hl hit' hdi
  by_cases hic : i = c
  ·subst hic
   rw [List.getElem?_set_self (by rw [hlen]; exact hi)] at hit'
   cases hit'
   show RT ρ ls' t _
   rcases cD (a := a) (d := aq all i) (u := z) (e := d) with ⟨h1, _, _⟩ | ⟨_, h2⟩
   ·rw [h1]; exact hz
   ·rcases h2 with h2 | h2
    ·exact (h2 hdi).elim
    ·have := hd.1 i d hcn hdi
     have := hm.sz
     omega
  ·rw [List.getElem?_set_ne (fun e => hic e.symm)] at hit'
   rw [getD_set_ne false (fun e => hic e.symm)] at hl
   rcases cD (a := a) (d := aq all c) (u := z) (e := d) with ⟨_, h2, _⟩ | ⟨h1, _⟩
   ·exact (hd.2 c i d hcn hi (fun e => hic e.symm) h2 hdi).elim
   ·rw [h1]
    obtain ⟨ob, this⟩ := hm.done i it d hi hl hit' hdi
    have hiv := hv it (List.mem_of_getElem? hit')
    cases it with
    | val t' => exact RT.ext he this
    | new sl ty cs => cases hiv
    | res c es => cases hiv
    | put _ _ => cases hiv
theorem FJ {r : Option Nat} {ds : List Deferred} {Q : Exit → Act → World → Prop} {k n : Nat} {ah : List It} {ows : List (E × Ow)} {dn : List Nat} {L : Array Bool} (hsm : fS P ρ sm) (hc : aP P ρ cf) (hneg : ∀ e ∈ neg, al ρ e = false)
 (hdn : iU .any all = true) (hB : oN .any all n = true) (hn : n ≤ all.size)
 (hd : (∀ (i d : Nat), i < n → aq all i = some d → d < tm.n) ∧ ∀ (i j d : Nat), i < n → j < n → i ≠ j → aq all i = some d → aq all j ≠ some d)
 (hv : ∀ it ∈ ah, it.isVal = true) (hows : ∀ x ∈ ows, al ρ x.1 = true → x.2.Ok ρ)
 (hit : ∀ j o, k ≤ j → j < n → j ∉ dn → all[j]? = some o → lD P cf sm hp neg all (aV all n tm) ah ows j o)
 (h : vR ρ cf B w0 ls hp tm all n k ds ah dn [] L a w)
 (hk : ∀ a' w', aX ρ ls (kD all ah (aS all.size n) n tm) a' → a'.defers = ds → aB ρ B w0 ls hp w' → wpAnyIn (dD r) 0 P .any all Q (all.size - n) (aS all.size n) a' w') :
 wpAnyIn (dD r) 0 P .any all Q (kK L n + (all.size - n)) L a w := by
 obtain ⟨N, hBN, hlow, hm⟩ := h.JD
 refine iE (r := r) (P := P) (ops := all) (md := .any) (n := n) (g := all.size - n) (CA := fun listed a' w' => oU ρ cf B w0 ls hp tm all n ds ah N listed a' w' ∧ (∀ i, i < k → listed.getD i true = true) ∧ ∀ i ∈ dn, listed.getD i true = true) (Q' := Q) (cY hdn) hn
  (fun listed inv ⟨i, hi, hun⟩ t ht => eD hB inv hi hun ht) (fun listed a' w' i o inv hm hin hrd2 ho => ?_) (fun listed a' w' inv hall hm => ?_) _ _ _ _ rfl h.inv ⟨hm, h.lo, h.dn⟩
 ·obtain ⟨hm, hlist, hcl⟩ := hm
  have hun := (mem_ready.1 hrd2).1
  have hik : k ≤ i := by
   rcases Nat.lt_or_ge i k with h' | h'
   ·rw [hlist i h'] at hun; cases hun
   ·exact h'
  have hid : i ∉ dn := fun hm' => by rw [hcl i hm'] at hun; cases hun
  have hl' : ∀ j, j < k → (listed.setIfInBounds i true).getD j true = true := fun j hj => by rw [getD_set_ne true (by omega)]; exact hlist j hj
  have hc' : ∀ j ∈ dn, (listed.setIfInBounds i true).getD j true = true := fun j hj => by rw [getD_set_ne true (rL hj hid)]; exact hcl j hj
  rcases gV hsm hc hneg hd (ows := ows) hows (fW hv) hBN hlow (hit i o hik hin hid ho) inv hm hin hrd2 ho with ⟨h1, h2⟩ | ⟨h1, h2⟩
  ·exact .inl ⟨h1, gy.mono (fun v w'' h3 => ⟨h3, hl', hc'⟩) h2⟩
  ·exact .inr ⟨h1, h2, hl', hc'⟩
 ·obtain ⟨hm, hlist, hcl⟩ := hm
  have hl := my inv hall
  subst hl
  have hall' : ∀ i, i < n → (aS all.size n).getD i false = true := fun i hi => by rw [aR _ (by omega)]; exact decide_eq_true hi
  refine hk a' w' ⟨by rw [sg]; exact hm.sz.symm, fun d y hdn hy => ?_⟩ hm.Gy hm.heap
  rw [sg] at hdn
  rcases si hy with rfl | ⟨i, it, h1, h2, h3, h4, rfl⟩ | ⟨h1, h2⟩
  ·exact bO _
  ·obtain ⟨ob, this⟩ := hm.done i it d h1 (hall' i h1) h4 h3
   cases it with
   | val t' => exact this
   | new sl ty cs => exact bO _
   | res c es => exact bO _
   | put _ _ => exact bO _
  ·exact hm.jW d y hdn h2 fun i hi _ => h1 i hi
end
end Vc
end Go.Proofs.YtpmfkelglmgddaaGreatDoor
