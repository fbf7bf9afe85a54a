/- Regions that draw their order, in the calculus: quiet operations and such as make new cells, each evaluated over what it surely comes behind. -/
import Derived.Test.YtfpecoddgdcaaaaDoorVcR
import Derived.Test.YtfpecoddgdcaaaaDoorVcH
namespace Go.Proofs.YtfpecoddgdcaaaaDoor
namespace Vc
open Go Go.RowKit

/-- What an operation of a region gives: a value, or a new variable. -/
inductive It where
  | val (t : Tm)
  | new (ty : TypeId) (cs : List SC)
  deriving Inhabited
def unkT : Tm := ⟨.bc true, .c .und⟩
def It.tm : It → Tm
  | .val t => t
  | .new _ _ => unkT
def dstOf (ops : Array Oper) (j : Nat) : Option Tmp := (ops[j]?).bind (·.dst)

section
variable {P : Program} {ρ : Env} {B : Nat} {w0 w : World} {ls : Ls} {hp : SH} {tm : Tms} {a : Act} {G : E} {cf : Cfg}

/-- An existing block of known cells becomes an entry. -/
theorem HOk.adopt (h : HOk ρ B w0 ls hp w) {ty : TypeId} {cs : List SC} {vs : List Value} {b : Nat} (hB : B ≤ b) (hb : w.heap[b]? = some (.cells vs.toArray ty (0, 0))) (hc : All2 (RS ρ ls) cs vs) (hne : ∀ (i : Nat) (x : HE), hp[i]? = some x → x.live = true → blkOf ls[i]? ≠ some b) :
    HOk ρ B w0 (ls ++ [.pointer (some ⟨b, 0, none⟩)]) (hp ++ [⟨true, ty, .cells cs⟩]) w where
  below := h.below
  base := h.base
  len := by simp [h.len]
  glob := h.glob
  ent := fun i y hy => by
    rw [List.getElem?_append] at hy
    split at hy
    · exact (h.ent i y hy).ext (Ext.snoc ls _)
    · rename_i hlt
      have hi : i = hp.length := by
        cases hk : i - hp.length with
        | zero => omega
        | succ n => simp [hk] at hy
      subst hi
      simp at hy
      subst hy
      rw [← h.len]
      refine ⟨⟨b, 0, none⟩, vs, by simp, hc.mono fun _ _ => RS.ext (Ext.snoc ls _), fun j v hv => ?_, fun _ => ⟨b, rfl, hB, hb⟩, fun e => by cases e⟩
      rw [Addr.add_lit, cell_of_row _ _ _ _ _ _ hb]; simpa using hv
  inj := fun i j y z b' hy hz ly lz bi bj => by
    have old : ∀ {i : Nat} {y : HE}, i < hp.length → (ls ++ [Value.pointer (some ⟨b, 0, none⟩)])[i]? = ls[i]? := fun {i y} hi => by
      rw [List.getElem?_append_left (by rw [h.len]; exact hi)]
    have new : ∀ {i : Nat} {y : HE}, (hp ++ [(⟨true, ty, .cells cs⟩ : HE)])[i]? = some y → ¬ i < hp.length → i = ls.length ∧ (ls ++ [Value.pointer (some ⟨b, 0, none⟩)])[i]? = some (.pointer (some ⟨b, 0, none⟩)) := fun {i y} hy hn => by
      have : i < (hp ++ [(⟨true, ty, .cells cs⟩ : HE)]).length := (List.getElem?_eq_some_iff.1 hy).1
      simp at this
      have e : i = ls.length := by rw [h.len]; omega
      subst e; exact ⟨rfl, by simp⟩
    by_cases hi : i < hp.length <;> by_cases hj : j < hp.length
    · rw [List.getElem?_append_left hi] at hy
      rw [List.getElem?_append_left hj] at hz
      rw [old (y := y) hi] at bi; rw [old (y := z) hj] at bj
      exact h.inj i j y z b' hy hz ly lz bi bj
    · obtain ⟨e1, e2⟩ := new hz hj
      rw [List.getElem?_append_left hi] at hy
      rw [old (y := y) hi] at bi; rw [e2] at bj
      cases bj
      exact (hne i y hy ly bi).elim
    · obtain ⟨e1, e2⟩ := new hy hi
      rw [List.getElem?_append_left hj] at hz
      rw [old (y := z) hj] at bj; rw [e2] at bi
      cases bi
      exact (hne j z hz lz bj).elim
    · rw [(new hy hi).1, (new hz hj).1]

/-- The temporaries that an operation sees: those that come surely ahead, and what no operation of the region writes. -/
def maskT (ops : Array Oper) : Nat → Tms → Tms
  | 0, tm => tm
  | n + 1, tm => putT (maskT ops n tm) (dstOf ops n) unkT
def seeT (ops : Array Oper) (its : List It) : List Edge → Tms → Tms
  | [], tm => tm
  | e :: r, tm => if Region.binds .any e then (match its[e.on]? with
      | some it => seeT ops its r (putT tm (dstOf ops e.on) it.tm)
      | none => seeT ops its r tm) else seeT ops its r tm
theorem putT_get {tm : Tms} {d : Option Tmp} {t y : Tm} {e : Nat} (h : (putT tm d t).t.get e = some y) : (d = some e ∧ y = t) ∨ (d ≠ some e ∧ tm.t.get e = some y) := by
  cases d with
  | none => exact .inr ⟨by simp, h⟩
  | some d =>
    rcases Tr.get_set h with ⟨h1, h2⟩ | ⟨h1, h2⟩
    · exact .inl ⟨by rw [h1], h2⟩
    · exact .inr ⟨fun e => h1 (by cases e; rfl), h2⟩
theorem maskT_get {ops : Array Oper} {y : Tm} {e : Nat} : ∀ {n : Nat} {tm : Tms}, (maskT ops n tm).t.get e = some y → y = unkT ∨ ((∀ i, i < n → dstOf ops i ≠ some e) ∧ tm.t.get e = some y)
  | 0, tm, h => .inr ⟨fun i hi => by omega, h⟩
  | n + 1, tm, h => by
    rcases putT_get h with ⟨_, h2⟩ | ⟨h1, h2⟩
    · exact .inl h2
    · rcases maskT_get h2 with h3 | ⟨h3, h4⟩
      · exact .inl h3
      · refine .inr ⟨fun i hi => ?_, h4⟩
        by_cases hin : i = n
        · subst hin; exact h1
        · exact h3 i (by omega)
theorem maskT_n {ops : Array Oper} : ∀ {n : Nat} {tm : Tms}, (maskT ops n tm).n = tm.n
  | 0, _ => rfl
  | n + 1, tm => by rw [maskT, putT_len, maskT_n]
theorem seeT_get {ops : Array Oper} {its : List It} {y : Tm} {d : Nat} : ∀ {es : List Edge} {tm : Tms}, (seeT ops its es tm).t.get d = some y → (∃ e ∈ es, Region.binds .any e = true ∧ ∃ it, its[e.on]? = some it ∧ dstOf ops e.on = some d ∧ y = it.tm) ∨ tm.t.get d = some y
  | [], tm, h => .inr h
  | e :: r, tm, h => by
    simp only [seeT] at h
    split at h
    · rename_i hb
      split at h
      · rename_i it hit
        rcases seeT_get h with ⟨e', he', h1⟩ | h1
        · exact .inl ⟨e', by simp [he'], h1⟩
        · rcases putT_get h1 with ⟨h2, h3⟩ | ⟨_, h3⟩
          · exact .inl ⟨e, by simp, hb, it, hit, h2, h3⟩
          · exact .inr h3
      · rcases seeT_get h with ⟨e', he', h1⟩ | h1
        · exact .inl ⟨e', by simp [he'], h1⟩
        · exact .inr h1
    · rcases seeT_get h with ⟨e', he', h1⟩ | h1
      · exact .inl ⟨e', by simp [he'], h1⟩
      · exact .inr h1
theorem seeT_n {ops : Array Oper} {its : List It} : ∀ {es : List Edge} {tm : Tms}, (seeT ops its es tm).n = tm.n
  | [], _ => rfl
  | e :: r, tm => by
    simp only [seeT]
    split
    · split
      · rw [seeT_n, putT_len]
      · exact seeT_n
    · exact seeT_n
/-! ### A call walked apart: its result in one symbolic value -/
def SC.free : SC → Bool
  | .und | .int .. | .bool _ | .cst _ | .opv _ | .str _ _ | .ln _ _ | .gl _ _ => true
  | .fn _ a b => a.isEmpty && b.isEmpty
  | _ => false
def SV.free : SV → Bool
  | .c s => s.free
  | .agg l => l.all SC.free
  | .tup l => l.all fun x => x.2.all SC.free
theorem RS.free {ls' : Ls} {s : SC} {v : Value} (hs : s.free = true) (h : RS ρ ls s v) : RS ρ ls' s v := by
  cases s <;> first | exact Bool.noConfusion (show false = true from hs) | skip
  case fn f a b =>
    simp only [SC.free, Bool.and_eq_true, List.isEmpty_iff] at hs
    obtain ⟨rfl, rfl⟩ := hs
    obtain ⟨fs, cs, h1, h2, h3⟩ := h
    cases fs with
    | cons _ _ => exact h2.elim
    | nil => cases cs with
      | cons _ _ => exact h3.elim
      | nil => exact ⟨[], [], h1, trivial, trivial⟩
  all_goals exact h
theorem RSs.free {ls' : Ls} : ∀ {l : List SC} {vs : List Value}, l.all SC.free = true → All2 (RS ρ ls) l vs → All2 (RS ρ ls') l vs
  | [], [], _, _ => trivial
  | _ :: _, _ :: _, h, hr => by
    simp only [List.all_cons, Bool.and_eq_true] at h
    exact ⟨RS.free h.1 hr.1, RSs.free h.2 hr.2⟩
theorem REs.free {ls' : Ls} : ∀ {l : List (Bool × List SC)} {vs : List Value}, (l.all fun x => x.2.all SC.free) = true → All2 (RE ρ ls) l vs → All2 (RE ρ ls') l vs
  | [], [], _, _ => trivial
  | (true, l) :: _, _ :: _, h, hr => by
    simp only [List.all_cons, Bool.and_eq_true] at h
    obtain ⟨⟨us, e, h1⟩, h2⟩ := hr
    exact ⟨⟨us, e, RSs.free h.1 h1⟩, REs.free h.2 h2⟩
  | (false, [s]) :: _, _ :: _, h, hr => by
    simp only [List.all_cons, List.all_nil, Bool.and_true, Bool.and_eq_true] at h
    exact ⟨RS.free h.1 hr.1, REs.free h.2 hr.2⟩
  | (false, []) :: _, _ :: _, _, hr => hr.1.elim
  | (false, _ :: _ :: _) :: _, _ :: _, _, hr => hr.1.elim
theorem RV.free {ls' : Ls} {s : SV} {v : Value} (hs : s.free = true) (h : RV ρ ls s v) : RV ρ ls' s v := by
  cases s with
  | c s => exact RS.free hs h
  | agg l => obtain ⟨us, e, h1⟩ := h; exact ⟨us, e, RSs.free hs h1⟩
  | tup l => obtain ⟨us, e, h1⟩ := h; exact ⟨us, e, REs.free hs h1⟩
theorem RVs.free {ls' : Ls} : ∀ {l : List SV} {vs : List Value}, l.all SV.free = true → All2 (RV ρ ls) l vs → All2 (RV ρ ls') l vs
  | [], [], _, _ => trivial
  | _ :: _, _ :: _, h, hr => by
    simp only [List.all_cons, Bool.and_eq_true] at h
    exact ⟨RV.free h.1 hr.1, RVs.free h.2 hr.2⟩
/-- All ends of a walk in one value, and the tests that are owed for it. -/
def Fm.mrg : Fm → Option (List E × SV)
  | .leaf v _ => if v.free then some ([], v) else none
  | .and (.imp g a) (.imp g' b) => if eqE g' (eNot g) then (match a.mrg, b.mrg with
      | some (oa, x), some (ob, y) => (match iteSV g x y with | some z => some (oa.map (eOr (eNot g)) ++ ob.map (eOr g), z) | none => none)
      | _, _ => none) else none
  | .and (.imp g (.tst e)) f => (match f.mrg with | some (o, v) => some (eOr (eNot g) e :: o, v) | none => none)
  | .and (.tst e) f => (match f.mrg with | some (o, v) => some (e :: o, v) | none => none)
  | _ => none
/-- What is asked of a result at the end. -/
def LeafOk (ρ : Env) (B : Nat) (w0 : World) (R0 : Ending → World → Prop) (v : SV) (hp : SH) : Prop := ∀ ls w' val, HOk ρ B w0 ls hp w' → RV ρ ls v val → R0 (.returned val) w'
theorem mrg_ok {B : Nat} {w0 : World} {F : Fm} {obs : List E} {v : SV} {R0 : Ending → World → Prop} (h : F.mrg = some (obs, v)) (ho : ∀ e ∈ obs, evB ρ e = true) (hk : ∀ w' val, Below B w0 w' → RV ρ [] v val → R0 (.returned val) w') : F.holds ρ (LeafOk ρ B w0 R0) := by
  have hor : ∀ a b : E, evB ρ (eOr a b) = (evB ρ a || evB ρ b) := fun a b => ev_eOr ρ a b
  have hnot : ∀ a : E, evB ρ (eNot a) = !evB ρ a := fun a => ev_eNot ρ a
  fun_induction Fm.mrg F generalizing obs v R0 with
  | case1 v' hp hf =>
    cases h
    exact fun ls w' val hh hr => hk w' val hh.below (RV.free hf hr)
  | case3 g a g' b he oa x ob y hx hy z hz ih1 ih2 =>
    cases h
    have he' := eqE_eq he
    subst he'
    refine ⟨fun hg => ?_, fun hg => ?_⟩
    · have hg' : evB ρ g = true := (evP_iff ρ g).1 hg
      refine ih1 (by assumption) (fun e hm => ?_) (fun w' val hb hr => hk w' val hb ?_)
      · have := ho (eOr (eNot g) e) (List.mem_append_left _ (List.mem_map.2 ⟨e, hm, rfl⟩))
        rw [hor, hnot, hg'] at this
        simpa using this
      · have := iteSV_ok (u := val) (v := val) hz (fun _ => hr) (fun e => by rw [hg'] at e; cases e)
        rw [hg'] at this; exact this
    · have hg' : evB ρ (eNot g) = true := (evP_iff ρ _).1 hg
      rw [hnot, Bool.not_eq_true'] at hg'
      refine ih2 (by assumption) (fun e hm => ?_) (fun w' val hb hr => hk w' val hb ?_)
      · have := ho (eOr g e) (List.mem_append_right _ (List.mem_map.2 ⟨e, hm, rfl⟩))
        rw [hor, hg'] at this
        simpa using this
      · have := iteSV_ok (u := val) (v := val) hz (fun e => by rw [hg'] at e; cases e) (fun _ => hr)
        rw [hg'] at this; exact this
  | case7 g e f _ o v' hf ih =>
    cases h
    refine ⟨fun hg => ?_, ih (by assumption) (fun x hx => ho x (List.mem_cons_of_mem _ hx)) hk⟩
    have hg' : evB ρ g = true := (evP_iff ρ g).1 hg
    have := ho _ (List.mem_cons_self ..)
    rw [hor, hnot, hg'] at this
    exact (evP_iff ρ e).2 (by simpa using this)
  | case9 e f o v' hf ih =>
    cases h
    exact ⟨(evP_iff ρ e).2 (ho _ (List.mem_cons_self ..)), ih (by assumption) (fun x hx => ho x (List.mem_cons_of_mem _ hx)) hk⟩
  | _ => cases h
abbrev Sm := Func → Code → List SV → Option (List E × SV)
def SmOk (P : Program) (ρ : Env) (sm : Sm) : Prop := ∀ (f : FuncId) (fn : Func) (c : Code) (vs : List SV) (obs : List E) (v : SV) (us : List Value) (w : World), P.funcs[f]? = some fn → fn.body = some c → sm fn c vs = some (obs, v) → (∀ e ∈ obs, evB ρ e = true) → GlobOk ρ.g w.heap.size w → All2 (RV ρ []) vs us →
  Calls P f us.toArray w fun e w' => ∃ val, e = .returned val ∧ RV ρ [] v val ∧ Below w.heap.size w w'
def sumOf (cf : Cfg) (sm : Sm) (tm : Tms) (G : E) (o : Oper) : Option (List E × SV) :=
  match o.op with
  | .call { callee := .value f, args, .. } => (match opd tm G f, opds tm G args.toList with
    | some (.c (.fn f [] [])), some vs => if (cf.sums.any fun x => x == f) && vs.all SV.free then (match lookFn cf.fns f with
      | some fn => (match fn.body with | some c => sm fn c vs | none => none)
      | none => none) else none
    | _, _ => none)
  | _ => none
def opQ2 (P : Program) (cf : Cfg) (sm : Sm) (tm : Tms) (hp : SH) (G : E) (o : Oper) : Option (SV × Ow) :=
  match opQuiet P cf tm hp G o with
  | some r => some r
  | none => (match sumOf cf sm tm G o with | some (obs, v) => some (v, ⟨obs, none⟩) | none => none)
theorem opQ2_okB {sm : Sm} {o : Oper} {s : SV} {ow : Ow} (hsm : SmOk P ρ sm) (h : opQ2 P cf sm tm hp G o = some (s, ow)) (hc : CfgOk P ρ cf) (hp' : ow.Ok ρ) (hr : RTm ρ ls tm a) (hG : evB ρ G = true) (hh : HOk ρ B w0 ls hp w) :
    setUpon P (Below w.heap.size w) w (RV ρ ls s) ((execOp a.eval o).run P w) := by
  unfold opQ2 at h
  split at h
  · rename_i r hr'
    cases h
    exact opQuiet_okB hr' hc hp' hr hG hh
  · split at h
    · rename_i obs v hv
      cases h
      unfold sumOf at hv
      split at hv
      · rename_i f args at_ ho
        split at hv
        · rename_i f' vs hf hvs
          split at hv
          · rename_i hif
            simp only [Bool.and_eq_true] at hif
            split at hv
            · rename_i fn hfn
              split at hv
              · rename_i c hb
                obtain ⟨f1, f2⟩ := hc.fns _ _ hfn
                obtain ⟨fs, cs, he, h1, h2⟩ := opd_ok hf hr hG
                have hfs : fs = [] := by cases fs with | nil => rfl | cons _ _ => exact h1.elim
                have hcs : cs = [] := by cases cs with | nil => rfl | cons _ _ => exact h2.elim
                subst hfs hcs
                have e : args.map a.eval = (args.toList.map a.eval).toArray := by rw [← Array.toList_map]
                have hrun : (execOp a.eval o).run P w = .ok (.enter f' (args.toList.map a.eval).toArray) w := by
                  simp only [execOp, ho, resolve, he, Deferred.ofValue, Sem.run_bind, Sem.run_pure, Result.andThen_ok, invoke, e]
                  rw [run_callFunc f1 (by rw [hb]; rfl) f2]
                  simp
                rw [hrun]
                refine ⟨rfl, ?_⟩
                exact (hsm f' fn c vs obs s _ w f1 hb hv hp'.1 (hh.glob.up hh.size) (RVs.free hif.2 (opds_ok hr hG hvs))).mono fun e' w' ⟨val, g1, g2, g3⟩ => by
                  have hfree : RV ρ ls s val := by
                    exact RV.ext (fun i b hi => by simp at hi) g2
                  exact ⟨val, g1, hfree, g3⟩
              · cases hv
            · cases hv
          · cases hv
        · cases hv
      · cases hv
    · cases h

theorem opQ2_ok {sm : Sm} {o : Oper} {s : SV} {ow : Ow} (hsm : SmOk P ρ sm) (h : opQ2 P cf sm tm hp G o = some (s, ow)) (hc : CfgOk P ρ cf) (hp' : ow.Ok ρ) (hr : RTm ρ ls tm a) (hG : evB ρ G = true) (hh : HOk ρ B w0 ls hp w) :
    setUpon P (HOk ρ B w0 ls hp) w (RV ρ ls s) ((execOp a.eval o).run P w) := (opQ2_okB hsm h hc hp' hr hG hh).cls fun _ hb => hh.calls hb

end
end Vc
end Go.Proofs.YtfpecoddgdcaaaaDoor
