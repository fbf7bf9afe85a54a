/- The walk as a reckoning: it goes through a function's code on symbolic values and gives what is left to show. -/
import Derived.Test.YtfpecoddgdcaaaaDoorVcU
import Derived.Scope
namespace Go.Proofs.YtfpecoddgdcaaaaDoor
namespace Vc
open Go Go.RowKit

section
variable {P : Program} {ρ : Env} {B : Nat} {w0 w : World} {ls : Ls} {hp : SH} {tm : Tms} {a : Act} {G : E} {cf : Cfg}

end

/-! ### The machine -/
inductive Fr where
  | seq (c : Code)
  | blk (id : Nat)
  | lp (c : Code) (n : Nat)
  | scp
  | act (fn : Func) (tm : Tms) (all : Array Oper) (rest : List Oper) (dst : Option Tmp)
inductive Ctl where
  | code (c : Code)
  | ops (all : Array Oper) (rest : List Oper)
  | nrm
  | ex (id : Nat)
  | ret

def owsF : List (E × Ow) → Fm → Fm
  | [], f => f
  | (G, o) :: r, f => owF G o (owsF r f)

/-- As many operations as leave the world alone and owe nothing. -/
def runQ (P : Program) (cf : Cfg) (sm : Sm) (hp : SH) (neg : List E) (all : Array Oper) : List Oper → Tms → List Oper × Tms
  | [], tm => ([], tm)
  | o :: r, tm => match guardOf tm all neg o.guard with
    | some none => runQ P cf sm hp neg all r (putT tm o.dst undT)
    | some (some G) => (match opQ2 P cf sm tm hp G o with
      | some (v, ow) => if ow.none? then runQ P cf sm hp neg all r (putT tm o.dst ⟨G, nz neg v⟩) else (o :: r, tm)
      | none => (o :: r, tm))
    | none => (o :: r, tm)
def setAll : Tr → Nat → List SV → Tr
  | t, _, [] => t
  | t, i, v :: r => setAll (t.set i ⟨.bc true, v⟩) (i + 1) r
def initT (n : Nat) (vs : List SV) : Tms := ⟨vs.length + (n - vs.length), setAll (Tr.full undT 11) 0 vs⟩
def runS (P : Program) (cf : Cfg) (sm : Sm) (all : Array Oper) (l : List Oper) (s : St) : List Oper × St :=
  match runQ P cf sm s.hp s.neg all l s.tm with
  | (r, tm) => (r, ⟨tm, s.hp, s.neg⟩)
def pvS (p : PV) : SV := .c (.ptr p.1 p.2)
/-- A call that is walked into: the function, its code, the arguments. -/
def callOf (cf : Cfg) (tm : Tms) (G : E) (o : Oper) : Option (Func × Code × List SV) :=
  match o.op with
  | .call { callee := .value f, args, .. } => (match opd tm G f, opds tm G args.toList with
    | some (.c (.fn f first cap)), some vs => (match lookFn cf.fns f with
      | some fn => (match fn.body with | some c => some (fn, c, first.map pvS ++ vs ++ cap.map pvS) | none => none)
      | none => none)
    | _, _ => none)
  | _ => none

def begin0 (fn : Func) (vs : List SV) : St := ⟨initT fn.ntmps vs, [], []⟩
def go (P : Program) (cf : Cfg) : Func → Nat → Ctl → List Fr → St → Fm
  | _, 0, _, _, _ => .fls
  | fn0, n + 1, ctl, K, s => match ctl with
    | .code c => (match c with
      | .skip => go P cf fn0 n .nrm K s
      | .label _ => go P cf fn0 n .nrm K s
      | .seq x y => go P cf fn0 n (.code x) (.seq y :: K) s
      | .block id c => go P cf fn0 n (.code c) (.blk id :: K) s
      | .loop c => go P cf fn0 n (.code c) (.lp c 200 :: K) s
      | .scope c => go P cf fn0 n (.code c) (.scp :: K) s
      | .exit id => go P cf fn0 n (.ex id) K s
      | .ret => go P cf fn0 n .ret K s
      | .cond c x y => (match opd s.tm (.bc true) c with
        | some (.c (.bool e)) =>
          if isT e then go P cf fn0 n (.code x) K s else if isF e then go P cf fn0 n (.code y) K s else
          (match line P cf s.hp x s.tm, line P cf s.hp y s.tm with
            | some tx, some ty => go P cf fn0 n .nrm K ⟨mergeL e tx ty, s.hp, s.neg⟩
            | _, _ => .and (.imp e (go P cf fn0 n (.code x) K (assumeN e s))) (.imp (eNot e) (go P cf fn0 n (.code y) K (assumeN (eNot e) s))))
        | _ => .fls)
      | .region _ ops false => go P cf fn0 n (.ops ops ops.toList) K s
      | .region _ ops true => (match regAt P cf (fun fn c vs => (go P cf fn n (.code c) [] (begin0 fn vs)).mrg) s.hp s.neg ops s.tm with
          | some (m, q) => owsF q.ows (match finL ops q.its 0 (maskT ops m s.tm) s.hp with
            | (tm, hp) => go P cf fn0 n (.ops ops (ops.toList.drop m)) K ⟨tm, hp, s.neg⟩)
          | none => .fls)
      | _ => .fls)
    | .ops all l => (match runS P cf (fun fn c vs => (go P cf fn n (.code c) [] (begin0 fn vs)).mrg) all l s with
     | ([], s) => go P cf fn0 n .nrm K s
     | (o :: rest, s) => (match guardOf s.tm all s.neg o.guard with
      | none => .fls
      | some none => go P cf fn0 n (.ops all rest) K ⟨putT s.tm o.dst undT, s.hp, s.neg⟩
      | some (some G) => (match opQ2 P cf (fun fn c vs => (go P cf fn n (.code c) [] (begin0 fn vs)).mrg) s.tm s.hp G o with
        | some (v, ow) => owF G ow (go P cf fn0 n (.ops all rest) K ⟨putT s.tm o.dst ⟨G, nz s.neg v⟩, s.hp, s.neg⟩)
        | none =>
          if isT G then (match opEff P s.tm s.hp G o with
            | some (some v, hp') => go P cf fn0 n (.ops all rest) K ⟨putT s.tm o.dst ⟨.bc true, v⟩, hp', s.neg⟩
            | some (none, hp') => go P cf fn0 n (.ops all rest) K ⟨putT s.tm o.dst undT, hp', s.neg⟩
            | none => (match callOf cf s.tm G o with
              | some (fn, c, vs) => go P cf fn0 n (.code c) (.act fn s.tm all rest o.dst :: K) ⟨initT fn.ntmps vs, s.hp, s.neg⟩
              | none => .fls))
          else .and (.imp G (go P cf fn0 n (.ops all (o :: rest)) K (assumeN G s)))
            (.imp (eNot G) (go P cf fn0 n (.ops all rest) K ⟨putT (assumeN (eNot G) s).tm o.dst undT, (assumeN (eNot G) s).hp, G :: (assumeN (eNot G) s).neg⟩)))))
    | .nrm => (match K with
      | [] => (match resOf P cf.globs s.tm s.hp fn0.results.toList with | some v => .leaf v s.hp | none => .fls)
      | .seq c :: K => go P cf fn0 n (.code c) K s
      | .blk _ :: K => go P cf fn0 n .nrm K s
      | .scp :: K => go P cf fn0 n .nrm K s
      | .lp _ 0 :: _ => .fls
      | .lp c (m + 1) :: K => go P cf fn0 n (.code c) (.lp c m :: K) s
      | .act fn tm all rest dst :: K => (match resOf P cf.globs s.tm s.hp fn.results.toList with
        | some v => go P cf fn0 n (.ops all rest) K ⟨putT tm dst ⟨.bc true, nz s.neg v⟩, s.hp, s.neg⟩
        | none => .fls))
    | .ex id => (match K with
      | .seq _ :: K => go P cf fn0 n (.ex id) K s
      | .blk i :: K => if id = i then go P cf fn0 n .nrm K s else go P cf fn0 n (.ex id) K s
      | .lp _ _ :: K => go P cf fn0 n (.ex id) K s
      | .scp :: K => go P cf fn0 n (.ex id) K s
      | _ => .fls)
    | .ret => (match K with
      | [] => (match resOf P cf.globs s.tm s.hp fn0.results.toList with | some v => .leaf v s.hp | none => .fls)
      | .act fn tm all rest dst :: K => (match resOf P cf.globs s.tm s.hp fn.results.toList with
        | some v => go P cf fn0 n (.ops all rest) K ⟨putT tm dst ⟨.bc true, nz s.neg v⟩, s.hp, s.neg⟩
        | none => .fls)
      | _ :: K => go P cf fn0 n .ret K s)

/-! ### What the continuation stands for -/
def actR (P : Program) (all : Array Oper) (rest : List Oper) (dst : Option Tmp) (a : Act) (Q : Exit → Act → World → Prop) : Ending → World → Prop
  | .returned v, w => wpList P all Q rest (a.put dst v) w
  | .panicked ch, w => Q (.panic ch) a w
  | .outgrown, _ => LetsOut Q

def Cont (P : Program) (ρ : Env) (fn0 : Func) (R0 : Ending → World → Prop) (ls : Ls) : List Fr → (Exit → Act → World → Prop) → Prop
  | [], Q => Q = bodyPost P fn0 R0
  | .seq c :: K, Q => ∃ Q', Cont P ρ fn0 R0 ls K Q' ∧ Q = Exit.then (c.wp P Q') Q'
  | .blk id :: K, Q => ∃ Q', Cont P ρ fn0 R0 ls K Q' ∧ Q = Exit.inBlock id Q'
  | .lp c n :: K, Q => ∃ Q', Cont P ρ fn0 R0 ls K Q' ∧ Q = Exit.then (Code.rounds P c Q' n) Q'
  | .scp :: K, Q => ∃ Q', Cont P ρ fn0 R0 ls K Q' ∧ Q = Exit.noGoto Q'
  | .act fn tm all rest dst :: K, Q => ∃ Q' a', Cont P ρ fn0 R0 ls K Q' ∧ a'.defers = [] ∧ RTm ρ ls tm a' ∧ Q = bodyPost P fn (actR P all rest dst a' Q')

def GoalC (P : Program) (Q : Exit → Act → World → Prop) (a : Act) (w : World) : Ctl → Prop
  | .code c => c.wp P Q a w
  | .ops all rest => wpList P all Q rest a w
  | .nrm => Q .normal a w
  | .ex id => Q (.exit id) a w
  | .ret => Q .ret a w

section
variable {P : Program} {ρ : Env} {B : Nat} {w0 : World} {cf : Cfg} {fn0 : Func} {R0 : Ending → World → Prop}

theorem Cont.ext {ls ls' : Ls} (h : Ext ls ls') : ∀ {K : List Fr} {Q : Exit → Act → World → Prop}, Cont P ρ fn0 R0 ls K Q → Cont P ρ fn0 R0 ls' K Q
  | [], _, k => k
  | .seq _ :: _, _, ⟨Q', k, e⟩ => ⟨Q', Cont.ext h k, e⟩
  | .blk _ :: _, _, ⟨Q', k, e⟩ => ⟨Q', Cont.ext h k, e⟩
  | .lp _ _ :: _, _, ⟨Q', k, e⟩ => ⟨Q', Cont.ext h k, e⟩
  | .scp :: _, _, ⟨Q', k, e⟩ => ⟨Q', Cont.ext h k, e⟩
  | .act .. :: _, _, ⟨Q', a', k, d, r, e⟩ => ⟨Q', a', Cont.ext h k, d, r.ext h, e⟩

theorem owsF_ok {L : SV → SH → Prop} {f : Fm} : ∀ {ps : List (E × Ow)}, (owsF ps f).holds ρ L → (∀ x ∈ ps, evB ρ x.1 = true → x.2.Ok ρ) ∧ f.holds ρ L
  | [], h => ⟨(fun x hx => by cases hx), h⟩
  | (G, o) :: r, h => by
    obtain ⟨h1, h2⟩ := owF_ok h
    obtain ⟨i1, i2⟩ := owsF_ok h2
    refine ⟨fun x hx hG => ?_, i2⟩
    rcases List.mem_cons.1 hx with rfl | hx
    · exact h1 hG
    · exact i1 x hx hG

theorem assume_ok {e : E} {s : St} {ls : Ls} {a : Act} {w : World} (he : evB ρ e = true) (hr : RTm ρ ls s.tm a) (hh : HOk ρ B w0 ls s.hp w) : RTm ρ ls (assume e s).tm a ∧ HOk ρ B w0 ls (assume e s).hp w :=
  ⟨⟨hr.1, fun d t hd ht => by obtain ⟨x, h1, rfl⟩ := Tr.get_map ht; exact rfTm_ok (fun _ hf => conjs_true he hf) (hr.2 d x hd h1)⟩, hh.rf fun _ hf => conjs_true he hf⟩

theorem evB_eNot (e : E) : evB ρ (eNot e) = !evB ρ e := ev_eNot ρ e

theorem factsN_ok {e : E} {neg : List E} (he : evB ρ e = true) (hn : ∀ x ∈ neg, evB ρ x = false) : ∀ f ∈ factsN e neg, evB ρ f = true := fun f hf => by
  rcases List.mem_append.1 hf with hf | hf
  · exact conjs_true he hf
  · exact derive_ok (fun f hf => conjs_true he hf) hn f hf
theorem assumeN_ok {e : E} {s : St} {ls : Ls} {a : Act} {w : World} (he : evB ρ e = true) (hn : ∀ x ∈ s.neg, evB ρ x = false) (hr : RTm ρ ls s.tm a) (hh : HOk ρ B w0 ls s.hp w) : RTm ρ ls (assumeN e s).tm a ∧ HOk ρ B w0 ls (assumeN e s).hp w :=
  ⟨⟨hr.1, fun d t hd ht => by obtain ⟨x, h1, rfl⟩ := Tr.get_map ht; exact rfTm_ok (factsN_ok he hn) (hr.2 d x hd h1)⟩, hh.rf (factsN_ok he hn)⟩
theorem assumeN_neg {e : E} {s : St} (he : evB ρ e = true) (hn : ∀ x ∈ s.neg, evB ρ x = false) : ∀ x ∈ (assumeN e s).neg, evB ρ x = false := fun x hx => by
  rcases List.mem_cons.1 hx with rfl | hx
  · rw [evB_eNot, he]; rfl
  · rcases List.mem_append.1 hx with hx | hx
    · obtain ⟨y, hy, rfl⟩ := List.mem_map.1 hx
      rw [evB_eNot, derive_ok (fun f hf => conjs_true he hf) hn y hy]; rfl
    · exact hn x hx
theorem act_defers {a : Act} (hd : a.defers = []) (dst : Option Tmp) (v : Value) : (a.put dst v).defers = [] := by cases dst <;> exact hd

theorem all2_pv {ls : Ls} : ∀ {ps : List PV} {vs : List Value}, All2 (RP ls) ps vs → All2 (RV ρ ls) (ps.map pvS) vs
  | [], [], _ => trivial
  | _ :: _, _ :: _, h => ⟨h.1, all2_pv h.2⟩
theorem setAll_ok : ∀ {vs : List SV} {t : Tr} {i d : Nat} {y : Tm}, (setAll t i vs).get d = some y → (∃ j v, d = i + j ∧ vs[j]? = some v ∧ y = ⟨.bc true, v⟩) ∨ (t.get d = some y ∧ (d < i ∨ i + vs.length ≤ d))
  | [], t, i, d, y, h => .inr ⟨h, by simp; omega⟩
  | v :: r, t, i, d, y, h => by
    have h' : (setAll (t.set i ⟨.bc true, v⟩) (i + 1) r).get d = some y := h
    rcases setAll_ok (vs := r) h' with ⟨j, v', h1, h2, h3⟩ | ⟨h1, h2⟩
    · exact .inl ⟨j + 1, v', by omega, by simpa using h2, h3⟩
    · rcases Tr.get_set h1 with ⟨rfl, rfl⟩ | ⟨hne, h1'⟩
      · exact .inl ⟨0, v, rfl, rfl, rfl⟩
      · exact .inr ⟨h1', by simp only [List.length_cons]; omega⟩
theorem initT_ok {ls : Ls} {vs : List SV} {us : List Value} {n : Nat} {a : Act} (h : All2 (RV ρ ls) vs us) (ha : a.tmps = us.toArray ++ Array.replicate (n - us.length) undef) : RTm ρ ls (initT n vs) a := by
  have hl := h.len
  refine ⟨by rw [ha]; simp [initT, hl], fun d t hd ht => ?_⟩
  rw [ha]
  rcases setAll_ok ht with ⟨j, v, h1, h2, rfl⟩ | ⟨h1, h2⟩
  · obtain ⟨u, hu, hr⟩ := h.get h2
    have hj : j < us.length := (List.getElem?_eq_some_iff.1 hu).1
    have e : (us.toArray ++ Array.replicate (n - us.length) undef).getD d undef = u := by
      rw [Array.getD_eq_getD_getElem?, Array.getElem?_append_left (by simp; omega)]
      rw [show d = j by omega]
      simp [hu]
    rw [e]; exact RT_true hr
  · have hge : us.length ≤ d := by omega
    have e : (us.toArray ++ Array.replicate (n - us.length) undef).getD d undef = undef := by
      rw [Array.getD_eq_getD_getElem?, Array.getElem?_append_right (by simpa using hge), Array.getElem?_replicate]
      split <;> rfl
    rw [e, Tr.get_full h1]; exact RT_und

theorem runQ_ok {sm : Sm} {all : Array Oper} {hp : SH} {neg : List E} {ls : Ls} {Q : Exit → Act → World → Prop} (hsm : SmOk P ρ sm) (hc : CfgOk P ρ cf) (hneg : ∀ e ∈ neg, evB ρ e = false) : ∀ {l l' : List Oper} {tm tm' : Tms} {a : Act} {w : World}, runQ P cf sm hp neg all l tm = (l', tm') → RTm ρ ls tm a → a.defers = [] → HOk ρ B w0 ls hp w →
    (∀ a' w', RTm ρ ls tm' a' → a'.defers = [] → HOk ρ B w0 ls hp w' → wpList P all Q l' a' w') → wpList P all Q l a w
  | [], l', tm, tm', a, w, h, hr, hd, hh, hq => by cases h; exact hq a w hr hd hh
  | o :: r, l', tm, tm', a, w, h, hr, hd, hh, hq => by
    simp only [runQ] at h
    split at h
    · rename_i hg
      have hwd := guardOf_ok hg hr hneg
      unfold wpList
      rw [hwd]
      exact runQ_ok hsm hc hneg h (hr.put _ RT_und) (act_defers hd _ _) hh hq
    · rename_i Gd hg
      have hwd := guardOf_ok hg hr hneg
      split at h
      · rename_i v ow hv
        split at h
        · rename_i how
          cases hGd : evB ρ Gd
          · unfold wpList
            rw [hwd, show gdV ρ (some Gd) = false from hGd]
            exact runQ_ok hsm hc hneg h (hr.put _ ⟨(fun e => by rw [show evB ρ Gd = true from e] at hGd; cases hGd), fun _ => rfl⟩) (act_defers hd _ _) hh hq
          · have hu := opQ2_ok (P := P) (a := a) (w := w) hsm hv hc (Ow.none_ok how) hr hGd hh
            refine wp_of_upon (hwd.trans hGd) (upon_of_set hu hh fun z w' hz hw' => ?_)
            exact runQ_ok hsm hc hneg h (hr.put _ ⟨fun _ => nz_ok hneg hz, (fun e => by rw [show evB ρ Gd = false from e] at hGd; cases hGd)⟩) (act_defers hd _ _) hw' hq
        · cases h; exact hq a w hr hd hh
      · cases h; exact hq a w hr hd hh
    · cases h; exact hq a w hr hd hh

set_option maxHeartbeats 1000000 in
theorem go_ok (hc : CfgOk P ρ cf) : ∀ (n : Nat) (fn0 : Func) (R0 : Ending → World → Prop) (B : Nat) (w0 : World) (ctl : Ctl) (K : List Fr) (s : St) (ls : Ls) (a : Act) (w : World) (Q : Exit → Act → World → Prop),
    Cont P ρ fn0 R0 ls K Q → RTm ρ ls s.tm a → a.defers = [] → HOk ρ B w0 ls s.hp w → (∀ e ∈ s.neg, evB ρ e = false) → (go P cf fn0 n ctl K s).holds ρ (LeafOk ρ B w0 R0) → GoalC P Q a w ctl := by
  intro n
  induction n with
  | zero => intro fn0 R0 B w0 ctl K s ls a w Q _ _ _ _ _ h; exact h.elim
  | succ n ih0 =>
    intro fn0 R0 B w0 ctl K s ls a w Q hk hr hd hh hn h
    have ih := ih0 fn0 R0 B w0
    have hsm : SmOk P ρ (fun fn c vs => (go P cf fn n (.code c) [] (begin0 fn vs)).mrg) := by
      intro f fn c vs obs v us w hf hb hm hob hg hv
      refine calls_of_wp (R := fun e w' => ∃ val, e = .returned val ∧ RV ρ [] v val ∧ Below w.heap.size w w') hf hb ?_
      refine ih0 fn _ w.heap.size w (.code c) [] (begin0 fn vs) [] _ w _ rfl (initT_ok hv ?_) rfl ?_ (fun e he => by cases he) (mrg_ok hm hob fun w' val hb' hr' => ⟨val, rfl, hr', hb'⟩)
      · simp only [List.size_toArray]
      · exact ⟨Below.refl _ _, rfl, rfl, hg, fun i x hi => by simp [begin0] at hi, fun i j x y b hi => by simp [begin0] at hi⟩
    have retK : ∀ {K : List Fr} {Q : Exit → Act → World → Prop} {fn : Func} {tm : Tms} {all : Array Oper} {rest : List Oper} {dst : Option Tmp},
        Cont P ρ fn0 R0 ls (.act fn tm all rest dst :: K) Q →
        (match resOf P cf.globs s.tm s.hp fn.results.toList with | some v => go P cf fn0 n (.ops all rest) K ⟨putT tm dst ⟨.bc true, nz s.neg v⟩, s.hp, s.neg⟩ | none => .fls).holds ρ (LeafOk ρ B w0 R0) → Q .normal a w ∧ Q .ret a w := by
      intro K Q fn tm all rest dst hk h
      obtain ⟨Q', a', k1, k2, k3, rfl⟩ := hk
      split at h
      · rename_i v hv
        rw [hc.globs] at hv
        obtain ⟨z, hz, hz'⟩ := resOf_ok hv hr hh
        have := ih (.ops all rest) K ⟨putT tm dst ⟨.bc true, nz s.neg v⟩, s.hp, s.neg⟩ ls (a'.put dst z) w Q' k1 (RTm.put k3 dst (RT_true (nz_ok hn hz'))) (act_defers k2 dst z) hh hn h
        exact ⟨⟨hd, z, hz, this⟩, ⟨hd, z, hz, this⟩⟩
      · exact h.elim
    have topK : ∀ {Q : Exit → Act → World → Prop}, Cont P ρ fn0 R0 ls [] Q →
        (match resOf P cf.globs s.tm s.hp fn0.results.toList with | some v => Fm.leaf v s.hp | none => .fls).holds ρ (LeafOk ρ B w0 R0) → Q .normal a w ∧ Q .ret a w := by
      intro Q hk h
      have hk' : Q = _ := hk
      subst hk'
      split at h
      · rename_i v hv
        rw [hc.globs] at hv
        obtain ⟨z, hz, hz'⟩ := resOf_ok hv hr hh
        exact ⟨⟨hd, z, hz, h ls w z hh hz'⟩, ⟨hd, z, hz, h ls w z hh hz'⟩⟩
      · exact h.elim
    cases ctl with
    | code c =>
      cases c <;> simp only [go] at h <;> try (exact h.elim)
      case skip => exact wp_skip (ih .nrm K s ls a w Q hk hr hd hh hn h)
      case label l => exact wp_label (ih .nrm K s ls a w Q hk hr hd hh hn h)
      case seq x y => exact wp_seq (ih (.code x) (.seq y :: K) s ls a w _ ⟨Q, hk, rfl⟩ hr hd hh hn h)
      case block id c => exact wp_block (ih (.code c) (.blk id :: K) s ls a w _ ⟨Q, hk, rfl⟩ hr hd hh hn h)
      case loop c => exact wp_loop_rounds 201 (ih (.code c) (.lp c 200 :: K) s ls a w _ ⟨Q, hk, rfl⟩ hr hd hh hn h)
      case scope c => exact wp_scope_straight (ih (.code c) (.scp :: K) s ls a w _ ⟨Q, hk, rfl⟩ hr hd hh hn h)
      case exit id => exact wp_exit (ih (.ex id) K s ls a w Q hk hr hd hh hn h)
      case ret => exact wp_ret (ih .ret K s ls a w Q hk hr hd hh hn h)
      case cond c x y =>
        split at h
        · rename_i e he
          have hev : a.eval c = .bool (evB ρ e) := opd_ok he hr (G := .bc true) rfl
          split at h
          · rename_i ht
            rw [isT_ok ht] at hev
            exact wp_cond_true hev (ih (.code x) K s ls a w Q hk hr hd hh hn h)
          · split at h
            · rename_i hf
              have : evB ρ e = false := by cases e <;> simp_all [isF, evB, ev, dB, xB]
              rw [this] at hev
              exact wp_cond_false hev (ih (.code y) K s ls a w Q hk hr hd hh hn h)
            · split at h
              · rename_i tx ty hx hy
                have lx := line_len hx
                have ly := line_len hy
                have hlen := hr.1
                cases hb : evB ρ e
                · rw [hb] at hev
                  refine wp_cond_false hev (line_ok hc hy hr hd hh fun a' w' hr' hd' hh' => ?_)
                  refine ih .nrm K ⟨mergeL e tx ty, s.hp, s.neg⟩ ls a' w' Q hk (mergeL_ok ⟨(fun h' => by rw [hb] at h'; cases h'), fun _ => hr'⟩ (by have := hr'.1; omega) hr'.1) hd' hh' hn h
                · rw [hb] at hev
                  refine wp_cond_true hev (line_ok hc hx hr hd hh fun a' w' hr' hd' hh' => ?_)
                  refine ih .nrm K ⟨mergeL e tx ty, s.hp, s.neg⟩ ls a' w' Q hk (mergeL_ok ⟨fun _ => hr', (fun h' => by rw [hb] at h'; cases h')⟩ hr'.1 (by have := hr'.1; omega)) hd' hh' hn h
              · obtain ⟨h1, h2⟩ := h
                cases hb : evB ρ e
                · rw [hb] at hev
                  have hne : evB ρ (eNot e) = true := by rw [evB_eNot, hb]; rfl
                  obtain ⟨g1, g2⟩ := assumeN_ok hne hn hr hh
                  exact wp_cond_false hev (ih (.code y) K (assumeN (eNot e) s) ls a w Q hk g1 hd g2 (assumeN_neg hne hn) (h2 ((evP_iff ρ _).2 hne)))
                · rw [hb] at hev
                  obtain ⟨g1, g2⟩ := assumeN_ok hb hn hr hh
                  exact wp_cond_true hev (ih (.code x) K (assumeN e s) ls a w Q hk g1 hd g2 (assumeN_neg hb hn) (h1 ((evP_iff ρ _).2 hb)))
        · exact h.elim
      case region id ops d =>
        cases d with
        | false => exact wp_region_list (ih (.ops ops ops.toList) K s ls a w Q hk hr hd hh hn h)
        | true =>
          simp only at h
          split at h
          · rename_i m q hq
            obtain ⟨p1, p2⟩ := owsF_ok h
            refine region_ok hsm hc hn hr hd hh hq p1 fun ls'' a' w' he hr' hd' hh' => ?_
            exact ih (.ops ops (ops.toList.drop m)) K ⟨(finL ops q.its 0 (maskT ops m s.tm) s.hp).1, (finL ops q.its 0 (maskT ops m s.tm) s.hp).2, s.neg⟩ ls'' a' w' Q (hk.ext he) hr' hd' hh' hn p2
          · exact h.elim
    | ops all l0 =>
      simp only [go] at h
      generalize hq : runQ P cf (fun fn c vs => (go P cf fn n (.code c) [] (begin0 fn vs)).mrg) s.hp s.neg all l0 s.tm = q at h
      obtain ⟨l1, tm1⟩ := q
      have hrs : runS P cf (fun fn c vs => (go P cf fn n (.code c) [] (begin0 fn vs)).mrg) all l0 s = (l1, ⟨tm1, s.hp, s.neg⟩) := by unfold runS; rw [hq]
      rw [hrs] at h
      refine runQ_ok hsm hc hn hq hr hd hh fun a1 w1 hr1 hd1 hh1 => ?_
      clear hq hrs hr hd hh retK topK
      obtain ⟨tm0, hp0, neg0⟩ := s
      generalize hs : (⟨tm1, hp0, neg0⟩ : St) = s at h
      have hr : RTm ρ ls s.tm a1 := by subst hs; exact hr1
      have hh : HOk ρ B w0 ls s.hp w1 := by subst hs; exact hh1
      have hn : ∀ e ∈ s.neg, evB ρ e = false := by subst hs; exact hn
      have hd := hd1
      clear hr1 hh1 hd1 hs
      generalize a1 = a at *
      generalize w1 = w at *
      cases l1 with
      | nil =>
        exact ih .nrm K s ls a w Q hk hr hd hh hn h
      | cons o rest =>
        simp only at h
        split at h
        · exact h.elim
        · rename_i hg
          have hwd := guardOf_ok hg hr hn
          show wpList P all Q (o :: rest) a w
          unfold wpList
          rw [hwd]
          exact ih (.ops all rest) K ⟨putT s.tm o.dst undT, s.hp, s.neg⟩ ls (a.put o.dst undef) w Q hk (hr.put _ RT_und) (act_defers hd _ _) hh hn h
        · rename_i Gd hg
          have hwd := guardOf_ok hg hr hn
          have hskip : evB ρ Gd = false → wpList P all Q rest (a.put o.dst undef) w → wpList P all Q (o :: rest) a w := fun hf hx => by
            unfold wpList
            rw [hwd, show gdV ρ (some Gd) = false from hf]
            exact hx
          split at h
          · rename_i v ow hv
            obtain ⟨p1, p2⟩ := owF_ok h
            cases hGd : evB ρ Gd
            · exact hskip hGd (ih (.ops all rest) K ⟨putT s.tm o.dst ⟨Gd, nz s.neg v⟩, s.hp, s.neg⟩ ls (a.put o.dst undef) w Q hk (hr.put _ ⟨(fun e => by rw [show evB ρ Gd = true from e] at hGd; cases hGd), fun _ => rfl⟩) (act_defers hd _ _) hh hn p2)
            · have hu := opQ2_ok hsm hv hc (p1 hGd) hr hGd hh
              refine wp_of_upon (hwd.trans hGd) (upon_of_set hu hh fun z w' hz hw' => ?_)
              exact ih (.ops all rest) K ⟨putT s.tm o.dst ⟨Gd, nz s.neg v⟩, s.hp, s.neg⟩ ls (a.put o.dst z) w' Q hk (hr.put _ ⟨fun _ => nz_ok hn hz, (fun e => by rw [show evB ρ Gd = false from e] at hGd; cases hGd)⟩) (act_defers hd _ _) hw' hn p2
          · split at h
            · rename_i hT
              have hGd : evB ρ Gd = true := isT_ok hT
              refine wp_of_upon (hwd.trans hGd) ?_
              split at h
              · rename_i v hp' he
                obtain ⟨ls', w', e1, e2, e3⟩ := opEff_ok (P := P) (w := w) he hr hGd hh
                rcases e3 with ⟨s', z, hs, hrun, hz⟩ | ⟨hs, _⟩
                · cases hs
                  unfold Oper.wp
                  rw [hrun]
                  exact ih (.ops all rest) K ⟨putT s.tm o.dst ⟨.bc true, v⟩, hp', s.neg⟩ ls' (a.put o.dst z) w' Q (hk.ext e1) ((hr.ext e1).put _ (RT_true hz)) (act_defers hd _ _) e2 hn h
                · cases hs
              · rename_i hp' he
                obtain ⟨ls', w', e1, e2, e3⟩ := opEff_ok (P := P) (w := w) he hr hGd hh
                rcases e3 with ⟨s', z, hs, _⟩ | ⟨_, hrun⟩
                · cases hs
                · unfold Oper.wp
                  rw [hrun]
                  exact ih (.ops all rest) K ⟨putT s.tm o.dst undT, hp', s.neg⟩ ls' (a.put o.dst undef) w' Q (hk.ext e1) ((hr.ext e1).put _ RT_und) (act_defers hd _ _) e2 hn h
              · split at h
                · rename_i fn c vs hcall
                  unfold callOf at hcall
                  split at hcall
                  · rename_i f args at_ ho
                    split at hcall
                    · rename_i f' first cap vs' hf hvs
                      split at hcall
                      · rename_i fn' hfn
                        split at hcall
                        · rename_i c' hbody
                          cases hcall
                          obtain ⟨f1, f2⟩ := hc.fns _ _ hfn
                          obtain ⟨fs, cs, he, g1, g2⟩ := opd_ok hf hr hGd
                          have hargs := opds_ok hr hGd hvs
                          have hall : All2 (RV ρ ls) (first.map pvS ++ vs' ++ cap.map pvS) (fs ++ args.toList.map a.eval ++ cs) := ((all2_pv g1).append hargs).append (all2_pv g2)
                          have hl := hall.len
                          have e : args.map a.eval = (args.toList.map a.eval).toArray := by rw [← Array.toList_map]
                          have hrun : (execOp a.eval o).run P w = .ok (.enter f' (fs ++ args.toList.map a.eval ++ cs).toArray) w := by
                            simp only [execOp, ho, resolve, he, Deferred.ofValue, Sem.run_bind, Sem.run_pure, Result.andThen_ok, invoke, e]
                            rw [run_callFunc f1 (by rw [hbody]; rfl) f2]
                            simp
                          unfold Oper.wp
                          rw [hrun]
                          refine (calls_of_wp (R := actR P all rest o.dst a Q) f1 hbody ?_).mono fun e w' he' => by cases e <;> exact he'
                          refine ih (.code c) (.act fn s.tm all rest o.dst :: K) ⟨initT fn.ntmps (first.map pvS ++ vs' ++ cap.map pvS), s.hp, s.neg⟩ ls _ w _ ⟨Q, a, hk, hd, hr, rfl⟩ (initT_ok hall ?_) rfl hh hn h
                          simp only [List.size_toArray]
                        · cases hcall
                      · cases hcall
                    · cases hcall
                  · cases hcall
                · exact h.elim
            · obtain ⟨h1, h2⟩ := h
              cases hGd : evB ρ Gd
              · have hne : evB ρ (eNot Gd) = true := by rw [evB_eNot, hGd]; rfl
                obtain ⟨g1, g2⟩ := assumeN_ok hne hn hr hh
                exact hskip hGd (ih (.ops all rest) K ⟨putT (assumeN (eNot Gd) s).tm o.dst undT, (assumeN (eNot Gd) s).hp, Gd :: (assumeN (eNot Gd) s).neg⟩ ls (a.put o.dst undef) w Q hk (RTm.put g1 _ RT_und) (act_defers hd _ _) g2 (fun e he => by
                  rcases List.mem_cons.1 he with rfl | he
                  · exact hGd
                  · exact assumeN_neg hne hn e he) (h2 ((evP_iff ρ _).2 hne)))
              · obtain ⟨g1, g2⟩ := assumeN_ok hGd hn hr hh
                exact ih (.ops all (o :: rest)) K (assumeN Gd s) ls a w Q hk g1 hd g2 (assumeN_neg hGd hn) (h1 ((evP_iff ρ _).2 hGd))
    | nrm =>
      cases K with
      | nil => simp only [go] at h; exact (topK hk h).1
      | cons fr K =>
        cases fr with
        | seq c =>
          simp only [go] at h
          obtain ⟨Q', k1, rfl⟩ := hk
          exact ih (.code c) K s ls a w Q' k1 hr hd hh hn h
        | blk id =>
          simp only [go] at h
          obtain ⟨Q', k1, rfl⟩ := hk
          exact ih .nrm K s ls a w Q' k1 hr hd hh hn h
        | scp =>
          simp only [go] at h
          obtain ⟨Q', k1, rfl⟩ := hk
          exact ih .nrm K s ls a w Q' k1 hr hd hh hn h
        | lp c m =>
          obtain ⟨Q', k1, rfl⟩ := hk
          cases m with
          | zero => simp only [go] at h; exact h.elim
          | succ m =>
            simp only [go] at h
            exact ih (.code c) (.lp c m :: K) s ls a w _ ⟨Q', k1, rfl⟩ hr hd hh hn h
        | act fn tm all rest dst => simp only [go] at h; exact (retK hk h).1
    | ex id =>
      cases K with
      | nil => simp only [go] at h; exact h.elim
      | cons fr K =>
        cases fr with
        | seq c =>
          simp only [go] at h
          obtain ⟨Q', k1, rfl⟩ := hk
          exact ih (.ex id) K s ls a w Q' k1 hr hd hh hn h
        | blk i =>
          simp only [go] at h
          obtain ⟨Q', k1, rfl⟩ := hk
          show (if id = i then Q' .normal a w else Q' (.exit id) a w)
          split at h
          · rename_i hi
            rw [if_pos hi]
            exact ih .nrm K s ls a w Q' k1 hr hd hh hn h
          · rename_i hi
            rw [if_neg hi]
            exact ih (.ex id) K s ls a w Q' k1 hr hd hh hn h
        | scp =>
          simp only [go] at h
          obtain ⟨Q', k1, rfl⟩ := hk
          exact ih (.ex id) K s ls a w Q' k1 hr hd hh hn h
        | lp c m =>
          simp only [go] at h
          obtain ⟨Q', k1, rfl⟩ := hk
          exact ih (.ex id) K s ls a w Q' k1 hr hd hh hn h
        | act fn tm all rest dst => simp only [go] at h; exact h.elim
    | ret =>
      cases K with
      | nil => simp only [go] at h; exact (topK hk h).2
      | cons fr K =>
        cases fr with
        | seq c =>
          simp only [go] at h
          obtain ⟨Q', k1, rfl⟩ := hk
          exact ih .ret K s ls a w Q' k1 hr hd hh hn h
        | blk i =>
          simp only [go] at h
          obtain ⟨Q', k1, rfl⟩ := hk
          exact ih .ret K s ls a w Q' k1 hr hd hh hn h
        | scp =>
          simp only [go] at h
          obtain ⟨Q', k1, rfl⟩ := hk
          exact ih .ret K s ls a w Q' k1 hr hd hh hn h
        | lp c m =>
          simp only [go] at h
          obtain ⟨Q', k1, rfl⟩ := hk
          exact ih .ret K s ls a w Q' k1 hr hd hh hn h
        | act fn tm all rest dst => simp only [go] at h; exact (retK hk h).2

/-! ### A call, from its arguments -/
theorem call_ok (hc : CfgOk P ρ cf) {f : FuncId} {fn : Func} {c : Code} (hf : P.funcs[f]? = some fn) (hb : fn.body = some c) (n : Nat) {vs : List SV} {us : List Value} {w : World} (hg : GlobOk ρ.g w.heap.size w) (hv : All2 (RV ρ []) vs us)
    (h : (go P cf fn n (.code c) [] (begin0 fn vs)).holds ρ (LeafOk ρ w.heap.size w R0)) : Calls P f us.toArray w R0 := by
  refine calls_of_wp (R := R0) hf hb ?_
  refine go_ok hc n fn R0 w.heap.size w (.code c) [] (begin0 fn vs) [] _ w _ rfl (initT_ok hv ?_) rfl ?_ (fun e he => by cases he) h
  · simp only [List.size_toArray]
  · exact ⟨Below.refl _ _, rfl, rfl, hg, fun i x hi => by simp [begin0] at hi, fun i j x y b hi => by simp [begin0] at hi⟩
end
end Vc
end Go.Proofs.YtfpecoddgdcaaaaDoor
