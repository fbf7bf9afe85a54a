/- A region that draws its order, walked in the calculus: the law. -/
import Derived.Test.YtfpecoddgdcaaaaDoorVcT
namespace Go.Proofs.YtfpecoddgdcaaaaDoor
namespace Vc
open Go Go.RowKit

/-- What is known behind the first operations. -/
def finL (all : Array Oper) : List It → Nat → Tms → SH → Tms × SH
  | [], _, tm, hp => (tm, hp)
  | .val t :: r, k, tm, hp => finL all r (k + 1) (putT tm (dstOf all k) t) hp
  | .new ty cs :: r, k, tm, hp => finL all r (k + 1) (putT tm (dstOf all k) ⟨.bc true, .c (.ptr hp.length 0)⟩) (hp ++ [⟨true, ty, .cells cs⟩])
def isStop (o : Oper) : Bool := match o.op with
  | .store .. => true
  | .call { callee := .builtin .append, .. } => true
  | .call { callee := .builtin .copy, .. } => true
  | _ => false
def readsT (d : Tmp) (o : Oper) : Bool := o.op.operands.toList.any fun x => match x with | .tmp t => Nat.beq t d | _ => false
def lateA (prev : List Oper) (o : Oper) : Bool := match o.op, o.dst with
  | .assign _, some d => prev.any (readsT d)
  | _, _ => false
def headN : List Oper → List Oper → Nat
  | _, [] => 0
  | prev, o :: r => if isStop o || lateA prev o then 0 else headN (o :: prev) r + 1
def regQ (P : Program) (cf : Cfg) (sm : Sm) (hp : SH) (neg : List E) (ops : Array Oper) (tm : Tms) (n : Nat) : QR := regL P cf sm hp neg ops (maskT ops n tm) (ops.toList.take n) [] []
def regChk (ops : Array Oper) (tm : Tms) (n : Nat) (q : QR) : Bool := Nat.beq q.its.length n && invB .any ops n && dstsB tm.n ((ops.toList.take n).map (·.dst))
def regAt (P : Program) (cf : Cfg) (sm : Sm) (hp : SH) (neg : List E) (ops : Array Oper) (tm : Tms) : Option (Nat × QR) :=
  match regQ P cf sm hp neg ops tm (headN [] ops.toList) with
  | q => if q.rest.isEmpty then (if regChk ops tm (headN [] ops.toList) q then some (headN [] ops.toList, q) else none)
    else (match regQ P cf sm hp neg ops tm q.its.length with
      | q' => if regChk ops tm q.its.length q' then some (q.its.length, q') else none)

section
variable {P : Program} {ρ : Env} {B : Nat} {w0 w : World} {ls : Ls} {hp : SH} {tm : Tms} {a : Act} {G : E} {cf : Cfg} {sm : Sm} {neg : List E} {all : Array Oper}

theorem regAt_ok {n : Nat} {q : QR} (h : regAt P cf sm hp neg all tm = some (n, q)) : q = regQ P cf sm hp neg all tm n ∧ regChk all tm n q = true := by
  unfold regAt at h
  simp only at h
  split at h
  · split at h
    · rename_i hc; cases h; exact ⟨rfl, hc⟩
    · cases h
  · split at h
    · rename_i hc; cases h; exact ⟨rfl, hc⟩
    · cases h

theorem RTm.know (hr : RTm ρ ls tm a) {d : Option Tmp} {t : Tm} (h : ∀ e, d = some e → RT ρ ls t (a.tmps.getD e undef)) : RTm ρ ls (putT tm d t) a := by
  refine ⟨by rw [putT_len]; exact hr.1, fun e t' he ht => ?_⟩
  rw [putT_len] at he
  rcases putT_get ht with ⟨h1, h2⟩ | ⟨_, h2⟩
  · rw [h2]; exact h e h1
  · exact hr.2 e t' he h2

theorem finL_ok {N : Nat} (hBN : B ≤ N) : ∀ (r : List It) (k : Nat) (tm' : Tms) (hp' : SH) (ls' : Ls) (used : List Nat),
    RTm ρ ls' tm' a → HOk ρ B w0 ls' hp' w → Ext ls ls' → (∀ (i : Nat) (x : HE) (b : Nat), hp'[i]? = some x → x.live = true → blkOf ls'[i]? = some b → b < N ∨ b ∈ used) →
    (∀ j it d, r[j]? = some it → dstOf all (k + j) = some d → ItV ρ ls N w it (a.tmps.getD d undef)) →
    (∀ j it, r[j]? = some it → it.fresh = true → ∃ d, dstOf all (k + j) = some d) →
    (∀ j x d b, r[j]? = some x → x.fresh = true → dstOf all (k + j) = some d → a.tmps.getD d undef = .pointer (some ⟨b, 0, none⟩) → b ∉ used) →
    (∀ i j x y d e, i ≠ j → r[i]? = some x → r[j]? = some y → x.fresh = true → y.fresh = true → dstOf all (k + i) = some d → dstOf all (k + j) = some e → a.tmps.getD d undef ≠ a.tmps.getD e undef) →
    ∃ ls'', Ext ls' ls'' ∧ RTm ρ ls'' (finL all r k tm' hp').1 a ∧ HOk ρ B w0 ls'' (finL all r k tm' hp').2 w
  | [], k, tm', hp', ls', used, hr, hh, _, _, _, _, _, _ => ⟨ls', Ext.refl _, hr, hh⟩
  | .val t :: r, k, tm', hp', ls', used, hr, hh, he, hl, hv, hf, hu, ha => by
    have sh : ∀ j, k + 1 + j = k + (j + 1) := fun j => by omega
    simp only [finL]
    refine finL_ok hBN r (k + 1) _ hp' ls' used (hr.know fun d hd => ?_) hh he hl (fun j it d h1 h2 => hv (j + 1) it d (by simpa using h1) (by rw [← sh]; exact h2)) (fun j it h1 h2 => by obtain ⟨d, hd⟩ := hf (j + 1) it (by simpa using h1) h2; exact ⟨d, by rw [sh]; exact hd⟩)
      (fun j x d b h1 h2 h3 h4 => hu (j + 1) x d b (by simpa using h1) h2 (by rw [← sh]; exact h3) h4)
      (fun i j x y d e hij hx hy fx fy di dj => ha (i + 1) (j + 1) x y d e (by omega) (by simpa using hx) (by simpa using hy) fx fy (by rw [← sh]; exact di) (by rw [← sh]; exact dj))
    have := hv 0 (.val t) d (by simp) (by simpa using hd)
    exact RT.ext he this
  | .new ty cs :: r, k, tm', hp', ls', used, hr, hh, he, hl, hv, hf, hu, ha => by
    have sh : ∀ j, k + 1 + j = k + (j + 1) := fun j => by omega
    obtain ⟨d0, hd0⟩ := hf 0 (.new ty cs) (by simp) rfl
    obtain ⟨b, vs, h1, h2, h3, h4⟩ := hv 0 (.new ty cs) d0 (by simp) hd0
    have hnu := hu 0 (.new ty cs) d0 b (by simp) rfl hd0 h1
    have hh' : HOk ρ B w0 (ls' ++ [.pointer (some ⟨b, 0, none⟩)]) (hp' ++ [⟨true, ty, .cells cs⟩]) w := hh.adopt (Nat.le_trans hBN h2) h3 (h4.mono fun _ _ => RS.ext he) (fun i x hx hlx hb => by
      rcases hl i x b hx hlx hb with h5 | h5
      · omega
      · exact hnu h5)
    simp only [finL]
    have hd0' : dstOf all k = some d0 := hd0
    obtain ⟨ls'', g1, g2, g3⟩ := finL_ok hBN r (k + 1) (putT tm' (dstOf all k) ⟨.bc true, .c (.ptr hp'.length 0)⟩) (hp' ++ [⟨true, ty, .cells cs⟩]) (ls' ++ [.pointer (some ⟨b, 0, none⟩)]) (b :: used)
      ((hr.ext (Ext.snoc ls' _)).know fun d hd => by
        rw [hd0'] at hd; cases hd
        rw [h1]
        exact RT_true ⟨⟨b, 0, none⟩, by rw [← hh.len]; simp, by simp [Addr.add]⟩) hh' (he.trans (Ext.snoc ls' _))
      (fun i x b' hx hlx hb => by
        rw [List.getElem?_append] at hx
        split at hx
        · rename_i hi
          rw [List.getElem?_append_left (by rw [hh.len]; exact hi)] at hb
          rcases hl i x b' hx hlx hb with h5 | h5
          · exact .inl h5
          · exact .inr (List.mem_cons_of_mem _ h5)
        · rename_i hi
          have : i = ls'.length := by
            have := (List.getElem?_eq_some_iff.1 hx).1
            simp at this
            rw [hh.len]; omega
          subst this
          simp [blkOf] at hb
          exact .inr (by rw [hb]; simp))
      (fun j it d h1 h2 => hv (j + 1) it d (by simpa using h1) (by rw [← sh]; exact h2)) (fun j it h1 h2 => by obtain ⟨d, hd⟩ := hf (j + 1) it (by simpa using h1) h2; exact ⟨d, by rw [sh]; exact hd⟩)
      (fun j x d b' h5 h6 h7 h8 => by
        rw [sh] at h7
        intro hm
        rcases List.mem_cons.1 hm with rfl | hm
        · exact ha 0 (j + 1) (.new ty cs) x d0 d (by omega) (by simp) (by simpa using h5) rfl h6 hd0 h7 (by rw [h1, h8])
        · exact hu (j + 1) x d b' (by simpa using h5) h6 h7 h8 hm)
      (fun i j x y d e hij hx hy fx fy di dj => ha (i + 1) (j + 1) x y d e (by omega) (by simpa using hx) (by simpa using hy) fx fy (by rw [← sh]; exact di) (by rw [← sh]; exact dj))
    exact ⟨ls'', (Ext.snoc ls' _).trans g1, g2, g3⟩

theorem mid_step {n N : Nat} {its : List It} {ows : List (E × Ow)} (hsm : SmOk P ρ sm) (hc : CfgOk P ρ cf) (hneg : ∀ e ∈ neg, evB ρ e = false)
    (hd : (∀ (i d : Nat), i < n → dstOf all i = some d → d < tm.n) ∧ ∀ (i j d : Nat), i < n → j < n → i ≠ j → dstOf all i = some d → dstOf all j ≠ some d)
    (hits : ∀ k o, k < n → all[k]? = some o → ItOk P cf sm hp neg all (maskT all n tm) its ows k o) (hows : ∀ x ∈ ows, evB ρ x.1 = true → x.2.Ok ρ)
    {listed : Array Bool} {a : Act} {w : World} {i : Nat} {o : Oper} (inv : HeadInv .any all n listed) (h : Mid ρ B w0 ls hp tm all n its N listed a w) (hin : i < n) (hrd : i ∈ Region.ready .any all listed) (ho : all[i]? = some o) :
    (Region.wanted o (yielded all a.tmps) = true ∧ upR P (fun v w' => Mid ρ B w0 ls hp tm all n its N (listed.setIfInBounds i true) (a.put o.dst v) w') ((execOp a.eval o).run P w)) ∨
    (Region.wanted o (yielded all a.tmps) = false ∧ Mid ρ B w0 ls hp tm all n its N (listed.setIfInBounds i true) (a.put o.dst undef) w) := by
  obtain ⟨hun, o', ho', hdep⟩ := mem_ready.1 hrd
  have : o' = o := Option.some.inj (ho'.symm.trans ho)
  subst this
  have hdo : dstOf all i = o'.dst := by unfold dstOf; rw [ho]; rfl
  obtain ⟨pre, hpre, hcase⟩ := hits i o' hin ho
  have hr : RTm ρ ls (seeT all pre o'.after.toList (maskT all n tm)) a := by
    refine ⟨by rw [seeT_n, maskT_n]; exact h.sz.symm, fun d t hdn ht => ?_⟩
    rw [seeT_n, maskT_n] at hdn
    rcases seeT_get ht with ⟨e, he, hb, it, hit, hde, rfl⟩ | ht
    · have hl := hdep e (by simpa using he) hb
      have hlt : e.on < n := by
        rcases Nat.lt_or_ge e.on n with h1 | h1
        · exact h1
        · rcases Nat.lt_or_ge e.on all.size with h2 | h2
          · have h3 := inv.tail e.on h1 h2
            rw [getD_both h3] at hl; cases hl
          · rw [Array.getD_eq_getD_getElem?, Array.getElem?_eq_none (by rw [inv.size]; exact h2)] at hl; cases hl
      have := h.done e.on it d hlt hl (hpre _ _ hit) hde
      cases it with
      | val t => exact this
      | new ty cs => exact RT_unk _
    · rcases maskT_get ht with rfl | ⟨h1, h2⟩
      · exact RT_unk _
      · exact h.old d t hdn h2 fun j hj _ => h1 j hj
  have put : ∀ {it : It} {u : Value} {w' : World}, its[i]? = some it → w.grownBy w' none → HOk ρ B w0 ls hp w' → ItV ρ ls N w' it u → (it.fresh = true → ∀ b, blkOf (some u) = some b → w.heap.size ≤ b) →
      Mid ρ B w0 ls hp tm all n its N (listed.setIfInBounds i true) (a.put o'.dst u) w' := fun h1 h2 h3 h4 h5 => by
    rw [← hdo]; exact h.step hin hun h1 hd h2 h3 h4 h5
  have g0 : w.grownBy w none := grownBy_of_below (Below.refl _ _) none
  rcases hcase with ⟨hg, hit⟩ | ⟨G, v, ow, hg, hv, hit, how⟩ | ⟨G, it, hg, hT, hdst, hnew, hit⟩
  · exact .inr ⟨guardOf_ok hg hr hneg, put hit g0 h.heap RT_und (fun e => by cases e)⟩
  · have hwd := guardOf_ok hg hr hneg
    cases hG : evB ρ G
    · refine .inr ⟨hwd.trans hG, put hit g0 h.heap ⟨(fun e => by rw [show evB ρ G = true from e] at hG; cases hG), fun _ => rfl⟩ (fun e => by cases e)⟩
    · have hok : ow.Ok ρ := by
        rcases how with h1 | h1
        · exact Ow.none_ok h1
        · exact hows _ h1 hG
      have hs := opQ2_okB (P := P) (a := a) (w := w) hsm hv hc.q hok hr hG h.heap
      refine .inl ⟨hwd.trans hG, ?_⟩
      generalize (execOp a.eval o').run P w = r at *
      cases r with
      | ok nx w' =>
        cases nx <;> simp only [setUpon] at hs <;> simp only [upR]
        case value u => obtain ⟨rfl, h2⟩ := hs; exact put hit g0 h.heap ⟨fun _ => nz_ok hneg h2, (fun e => by rw [show evB ρ G = false from e] at hG; cases hG)⟩ (fun e => by cases e)
        case skip => obtain ⟨rfl, h2⟩ := hs; exact put hit g0 h.heap ⟨fun _ => nz_ok hneg h2, fun _ => rfl⟩ (fun e => by cases e)
        case enter f args =>
          obtain ⟨rfl, hcl⟩ := hs
          exact hcl.mono fun e w'' ⟨u, he, hu, hb⟩ => ⟨u, he, put hit (grownBy_of_below hb none) (h.heap.calls hb) ⟨fun _ => nz_ok hneg hu, (fun e => by rw [show evB ρ G = false from e] at hG; cases hG)⟩ (fun e => by cases e)⟩
      | halt x w' => exact hs.elim
  · have hwd := guardOf_ok hg hr hneg
    have hG : evB ρ G = true := isT_ok hT
    refine .inl ⟨hwd.trans hG, ?_⟩
    have halloc : ∀ {ty : TypeId} {cs : List SC} {vs : List Value}, it = .new ty cs → All2 (RS ρ ls) cs vs → (execOp a.eval o').run P w = .ok (.value (.pointer (some ⟨w.heap.size, 0, none⟩))) (w.alloc (.cells vs.toArray ty)) →
        upR P (fun v w' => Mid ρ B w0 ls hp tm all n its N (listed.setIfInBounds i true) (a.put o'.dst v) w') ((execOp a.eval o').run P w) := fun {ty cs vs} hite hrs hrun => by
      rw [hrun]
      have hgr : w.grownBy (w.alloc (.cells vs.toArray ty)) none := World.grownBy_alloc w _ none
      subst hite
      exact put hit hgr (h.heap.calls ⟨hgr.os, hgr.tape, hgr.output, hgr.size, fun k hk => hgr.block k hk (by simp)⟩) ⟨w.heap.size, vs, rfl, h.base, heap_alloc_new w _, hrs⟩ (fun _ b hb => by cases hb; exact Nat.le_refl _)
    unfold isNew at hnew
    obtain ⟨dst, op, ty, pos, after, guard⟩ := o'
    cases op <;> simp only at hnew <;> try (cases hnew; done)
    case alloc t =>
      split at hnew
      · rename_i l hl
        cases hnew
        obtain ⟨z, vs, z1, z2, z3⟩ := zeroCells_ok hl ρ ls
        refine halloc rfl z3 ?_
        simp only [execOp, Instr.alloc, Sem.run_bind, z1, Result.andThen_ok, newVar_run z2, Sem.run_pure]
      · cases hnew
    case box t x =>
      split at hnew
      · rename_i v hx
        split at hnew
        · rename_i l hl
          cases hnew
          obtain ⟨vs, z2, z3, _⟩ := svCells_ok hl (opd_ok hx hr (G := .bc true) rfl)
          refine halloc rfl z3 ?_
          simp only [execOp, Instr.box, Sem.run_bind, Result.andThen_ok, newVar_run z2, Sem.run_pure]
        · cases hnew
      · cases hnew

theorem region_ok {id : Nat} {Q : Exit → Act → World → Prop} {n : Nat} {q : QR} (hsm : SmOk P ρ sm) (hc : CfgOk P ρ cf) (hneg : ∀ e ∈ neg, evB ρ e = false) (hr : RTm ρ ls tm a) (hdf : a.defers = []) (hh : HOk ρ B w0 ls hp w)
    (hq : regAt P cf sm hp neg all tm = some (n, q)) (hows : ∀ x ∈ q.ows, evB ρ x.1 = true → x.2.Ok ρ)
    (hk : ∀ ls'' a' w', Ext ls ls'' → RTm ρ ls'' (finL all q.its 0 (maskT all n tm) hp).1 a' → a'.defers = [] → HOk ρ B w0 ls'' (finL all q.its 0 (maskT all n tm) hp).2 w' → wpList P all Q (all.toList.drop n) a' w') :
    (Code.region id all true).wp P Q a w := by
  obtain ⟨hq1, hq2⟩ := regAt_ok hq
  simp only [regChk, Bool.and_eq_true] at hq2
  obtain ⟨⟨hlen, hB⟩, hds⟩ := hq2
  have hlen' : q.its.length = n := Nat.eq_of_beq_eq_true hlen
  have hnle : n ≤ all.size := by
    simp only [invB, Bool.and_eq_true, decide_eq_true_eq] at hB
    exact hB.1.1.2
  obtain ⟨_, _, _, hspec⟩ := regL_spec hq1.symm
  simp only [List.length_nil, Nat.zero_add] at hspec
  have hits : ∀ k o, k < n → all[k]? = some o → ItOk P cf sm hp neg all (maskT all n tm) q.its q.ows k o := fun k o hk ho => hspec k o (by rw [hlen']; exact hk) (by rw [List.getElem?_take]; simp [hk, ho])
  obtain ⟨d1, d2⟩ := dstsB_ok hds
  have hdst : ∀ {i d : Nat}, i < n → dstOf all i = some d → ((all.toList.take n).map (·.dst))[i]? = some (some d) := fun {i d} hi hd => by
    unfold dstOf at hd
    cases ho : all[i]? with
    | none => rw [ho] at hd; cases hd
    | some o =>
      rw [ho] at hd
      have hd' : o.dst = some d := hd
      rw [List.getElem?_map, List.getElem?_take]
      simp [hi, ho, hd']
  have hd : (∀ (i d : Nat), i < n → dstOf all i = some d → d < tm.n) ∧ ∀ (i j d : Nat), i < n → j < n → i ≠ j → dstOf all i = some d → dstOf all j ≠ some d :=
    ⟨fun i d hi h => d1 i d (hdst hi h), fun i j d hi hj hij h h' => d2 i j d hij (hdst hi h) (hdst hj h')⟩
  have hN : ∀ (i : Nat) (x : HE) (b : Nat), hp[i]? = some x → x.live = true → blkOf ls[i]? = some b → b < w.heap.size := fun i x b hx hlx hb => (live_blk (hh.ent i x hx) hlx hb).2
  refine wp_region_inv n (Mid ρ B w0 ls hp tm all n q.its w.heap.size) hc.mixed hB ?_ (fun listed a' w' i o inv hm hin hrd ho => mid_step hsm hc hneg hd hits hows inv hm hin hrd ho) fun listed a' w' inv hall hm => ?_
  · exact ⟨hdf, hr.1.symm, hh.drawn _, Nat.le_refl _, fun d t hdn ht _ => hr.2 d t hdn ht, (fun i it d hi hl => by rw [getD_replicate_false] at hl; cases hl), (fun i j x y d e _ _ _ hl => by rw [getD_replicate_false] at hl; cases hl)⟩
  · have hall' : ∀ i, i < n → listed.getD i false = true := fun i hi => by
      have h1 := hall i hi
      have hsz : i < listed.size := by rw [inv.size]; omega
      simp [hsz] at h1 ⊢
      exact h1
    have hr0 : RTm ρ ls (maskT all n tm) a' := ⟨by rw [maskT_n]; exact hm.sz.symm, fun d t hdn ht => by
      rw [maskT_n] at hdn
      rcases maskT_get ht with rfl | ⟨h1, h2⟩
      · exact RT_unk _
      · exact hm.old d t hdn h2 fun i hi _ => h1 i hi⟩
    have hlt : ∀ {j : Nat} {it : It}, q.its[j]? = some it → j < n := fun {j it} hj => by rw [← hlen']; exact (List.getElem?_eq_some_iff.1 hj).1
    obtain ⟨ls'', g1, g2, g3⟩ := finL_ok (all := all) (ls := ls) (N := w.heap.size) hh.size q.its 0 (maskT all n tm) hp ls [] hr0 hm.heap (Ext.refl _) (fun i x b hx hlx hb => .inl (hN i x b hx hlx hb))
      (fun j it d hj hdj => by rw [Nat.zero_add] at hdj; exact hm.done j it d (hlt hj) (hall' j (hlt hj)) hj hdj)
      (fun j it hj hf => by
        rw [Nat.zero_add]
        have hjn := hlt hj
        have hjs : j < all.size := by omega
        obtain ⟨pre, _, hcase⟩ := hits j all[j] hjn (Array.getElem?_eq_getElem hjs)
        rcases hcase with ⟨_, hit⟩ | ⟨G, v, ow, _, _, hit, _⟩ | ⟨G, it', _, _, hds, _, hit⟩
        · rw [hj] at hit; cases hit; cases hf
        · rw [hj] at hit; cases hit; cases hf
        · obtain ⟨d, hd'⟩ := Option.isSome_iff_exists.1 hds
          exact ⟨d, by unfold dstOf; rw [Array.getElem?_eq_getElem hjs]; exact hd'⟩)
      (fun j x d b _ _ _ _ => by simp)
      (fun i j x y d e hij hx hy fx fy di dj => by
        rw [Nat.zero_add] at di dj
        exact hm.apart i j x y d e (hlt hx) (hlt hy) hij (hall' i (hlt hx)) (hall' j (hlt hy)) hx hy fx fy di dj)
    exact hk ls'' a' w' g1 g2 hm.dfr g3
end
end Vc
end Go.Proofs.YtfpecoddgdcaaaaDoor
