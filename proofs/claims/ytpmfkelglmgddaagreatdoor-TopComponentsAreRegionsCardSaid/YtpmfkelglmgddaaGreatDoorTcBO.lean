/- The call of Build: its matrix is a list of known lists; what it hands back is read alone. -/
import Derived.Test.YtpmfkelglmgddaaGreatDoorTcK
import Derived.Test.YtpmfkelglmgddaaGreatDoorTcC
import Derived.Test.YtpmfkelglmgddaaGreatDoorTcP
namespace Go.Proofs.YtpmfkelglmgddaaGreatDoor
namespace Vc
open Go Go.RowKit
set_option linter.unusedVariables false
def pY (hp : SH) : List SC → Option (List E × List E)
 | [] => some ([], [])
 | s :: r => (match jm hp gW 64 s, pY hp r with | some (e, o), some (es, os) => some (e :: es, o ++ .le (.ic 64) e :: os) | _, _ => none)
def G6 : List E → E
 | [] => .bE 1 .nil
 | e :: r => .eo e (.ic 64) (G6 r)
def Ad : E → E
 | .eY (.dL r i o x) (.ic 64) => .eY (.bE 1 (aL ((List.range 64).map fun (j : Nat) => kT (.dL r i o x) (.ic j) (.ic 0)))) (.ic 64)
 | e => e
def lS : List E → E
 | [e] => Ad e
 | es => .eY (G6 es) (.ic (64 * es.length))
def BY (F : Option (Nat → List X → X)) (A : List E) (j : Nat) (sh : List Sk) (hi : Int) : HE :=
 match F, jn A with
 | some F, some ds => (match mV sh [] (G7 sh (F j ds).r (F j ds).i.toNat) with
  | some es => ⟨false, 0, .row sh (.bE sh.length (aL es)) (.ic (F j ds).i.toNat) hi⟩
  | none => ⟨false, 0, .row sh (.app j (aL A)) (.app j (aL A)) hi⟩)
 | _, _ => ⟨false, 0, .row sh (.app j (aL A)) (.app j (aL A)) hi⟩
def G8 (hp : SH) : SC → Option (List SC)
 | .ow l => (match hp[l]? with | some ⟨_, _, .grow 1 cs⟩ => some cs | _ => none)
 | .sc l off n _ => (match hp[l]? with | some ⟨_, _, .cells cs⟩ => if ((cs.drop off).take n).length = n then some ((cs.drop off).take n) else none | _ => none)
 | _ => none
def pX (F : Option (Nat → List X → X)) : ku := fun P tm hp G o => match o.op with
 | .call { callee := .value f, args, .. } => (match cA tm G f with
  | some (.c (.fn 6 [] [])) => (match kS tm G args.toList with
   | some [.c p, .c m, .c t] => (match G8 hp m with
    | some cs => (match sW hp (.row vY 8) p, pY hp cs, sW hp (.row Gp maxLen) t with
     | some (e0, o0), some (es, o1), some (e2, o2) => if 0 < cs.length ∧ cs.length ≤ 8 then
      some (.agg [.ow hp.length, .ow (hp.length + 1)], hp ++ [BY F [e0, lS es, e2] 941 iO 3072] ++ [BY F [e0, lS es, e2] 942 su 12288], ⟨o0 ++ (o1 ++ o2), some (952, aL [e0, lS es, e2])⟩) else none
     | _, _, _ => none)
    | _ => none)
   | _ => none)
  | _ => none)
 | _ => none
section
variable {ρ : Env} {B : Nat} {w0 w : World} {ls : Ls} {hp : SH}
theorem wg (hh : aB ρ B w0 ls hp w) : ∀ {cs : List SC} {es bg : List E} {vs : List Value}, pY hp cs = some (es, bg) → (∀ e ∈ bg, al ρ e = true) → ai (RS ρ ls) cs vs →
 es.length = vs.length ∧ ∀ (k : Nat) (v : Value), vs[k]? = some v → ∃ e, es[k]? = some e ∧ gB w gW 64 (ev ρ e).x v ∧ (ev ρ e).x.i = 64
 | [], _, _, [], h, _, _ => by cases h; exact ⟨rfl, fun k v hv => by simp at hv⟩
 | s :: r, es, bg, v :: vs, h, ho, hr => by
  simp only [pY] at h
  split at h
  ·rename_i e o es' os h1 h2
   cases h
   obtain ⟨i1, i2⟩ := wg hh h2 (fun x hx => ho x (by simp [hx])) hr.2
   have g1 := jT h1 (fun x hx => ho x (by simp [hx])) hh hr.1
   have g2 : (64 : Int) ≤ (ev ρ e).x.i := of_decide_eq_true (ho (.le (.ic 64) e) (by simp))
   refine ⟨by simp [i1], fun k u hu => ?_⟩
   cases k with
   | zero =>
    cases hu
    obtain ⟨A, c, q1, q2, q3, q4⟩ := id g1
    exact ⟨e, rfl, g1, by omega⟩
   | succ k => exact i2 k u (by simpa using hu)
  ·cases h
theorem Ae : ∀ {es : List E}, (∀ e ∈ es, (ev ρ e).x.i = 64) → ∀ (k : Nat) (e : E), es[k]? = some e → ∀ i : Nat, i < 64 → (ev ρ (G6 es)).x.r (64 * (k : Int) + i) 0 = (ev ρ e).x.r i 0
 | [], _, k, e, h, _, _ => by simp at h
 | a :: r, h, 0, e, he, i, hi => by
  cases he
  exact (if_pos (show 64 * ((0 : Nat) : Int) + i < 64 by omega)).trans (by congr 1; omega)
 | a :: r, h, k + 1, e, he, i, hi => by
  refine (if_neg (show ¬ 64 * ((k + 1 : Nat) : Int) + i < 64 by omega)).trans ?_
  rw [← Ae (fun x hx => h x (List.mem_cons_of_mem _ hx)) k e (by simpa using he) i hi]
  show (ev ρ (G6 r)).x.r (64 * ((k + 1 : Nat) : Int) + i - 64) 0 = _
  congr 1
  omega
theorem DY (e : E) : (ev ρ (Ad e)).x.i = (ev ρ e).x.i ∧ ∀ i : Nat, i < 64 → (ev ρ (Ad e)).x.r i 0 = (ev ρ e).x.r i 0 := by
 unfold Ad
 split
 ·rename_i r a o x
  refine ⟨rfl, fun i hi => ?_⟩
  show ((ev ρ (aL _)).l.getD ((i : Int).toNat * 1 + (0 : Int).toNat) (xI 0)).y = (ev ρ (.dL r a o x)).x.r i 0
  rw [bM]
  have e := Af ρ (.dL r a o x) (.ic i) (.ic 0)
  rw [show (ev ρ (.dL r a o x)).x.r i 0 = (ev ρ (.dL r a o x)).x.r (ev ρ (.ic i)).x.i (ev ρ (.ic 0)).x.i from rfl, ← e]
  have hn : (i : Int).toNat * 1 + (0 : Int).toNat = i := by simp
  rw [hn, List.getD_eq_getElem?_getD]
  unfold aM
  rw [List.getElem?_map, List.getElem?_map, List.getElem?_range hi]
  rfl
 ·exact ⟨rfl, fun _ _ => rfl⟩
theorem G9 {es : List E} (h : ∀ e ∈ es, (ev ρ e).x.i = 64) : (ev ρ (lS es)).x.i = 64 * (es.length : Int) ∧ ∀ (k : Nat) (e : E), es[k]? = some e → ∀ i : Nat, i < 64 → (ev ρ (lS es)).x.r (64 * (k : Int) + i) 0 = (ev ρ e).x.r i 0 := by
 unfold lS
 split
 ·rename_i e
  obtain ⟨n1, n2⟩ := DY (ρ := ρ) e
  refine ⟨n1.trans (h e (by simp)), fun k x hx i hi => ?_⟩
  cases k with
  | zero =>
   cases hx
   rw [← n2 i hi]
   congr 1; omega
  | succ k => simp at hx
 ·exact ⟨rfl, fun k e he i hi => Ae h k e he i hi⟩
theorem G' (hh : aB ρ B w0 ls hp w) {s : SC} {cs : List SC} {v : Value} (h : G8 hp s = some cs) (hv : RS ρ ls s v) (h0 : 0 < cs.length) :
 ∃ a n c vs, v = .slice (some a) n c ∧ n ≤ c ∧ vs.length = n ∧ ai (RS ρ ls) cs vs ∧ ∀ (j : Nat) (u : Value), vs[j]? = some u → w.cell? (a.add j) = some u := by
 unfold G8 at h
 split at h
 ·split at h
  ·rename_i hl
   cases h
   obtain ⟨_, _, A, n, c, vs, e1, e2, e3, e4⟩ := hh.bA _ _ hl
   have hlen := e3.len
   rw [hv.1] at e1
   cases e1
   rw [Nat.mul_one] at e2
   rcases e4.2 with ⟨e, e'⟩ | ⟨g, cap, cur, e, _, _, hc, _⟩
   ·omega
   ·cases e
    exact ⟨_, _, _, vs, rfl, hc, e2, e3, e4.cells rfl⟩
  ·cases h
 ·rename_i l off n cap
  split at h
  ·rename_i cs' hl
   split at h
   ·rename_i hn
    cases h
    obtain ⟨a, vs, e1, e2, e3, _⟩ := hh.bA _ _ hl
    obtain ⟨q1, a', q2, rfl⟩ := hv
    rw [e1] at q2
    cases q2
    have e4 : ai (RS ρ ls) ((cs'.drop off).take n) ((vs.drop off).take n) := (e2.drop off).take n
    refine ⟨_, _, _, _, rfl, q1, by rw [← e4.len, hn], e4, fun j u hu => ?_⟩
    rw [add_add]
    rw [List.getElem?_take] at hu
    split at hu
    ·rw [List.getElem?_drop] at hu
     exact e3 _ _ hu
    ·cases hu
   ·cases h
  ·cases h
 ·cases h
theorem Ha (hh : aB ρ B w0 ls hp w) {s : SC} {cs : List SC} {es bg : List E} {v : Value} (hm : G8 hp s = some cs) (hv : RS ρ ls s v) (hp' : pY hp cs = some (es, bg)) (ho : ∀ e ∈ bg, al ρ e = true) (h0 : 0 < cs.length) (h8 : cs.length ≤ 8) :
 Hb 0 w (ev ρ (lS es)).x v := by
 obtain ⟨a, n, c, vs, rfl, hnc, e2, e3, hcell⟩ := G' hh hm hv h0
 obtain ⟨p1, p2⟩ := wg hh hp' ho e3
 have hlen := e3.len
 have h64 : ∀ e ∈ es, (ev ρ e).x.i = 64 := fun e he => by
  obtain ⟨k, hk, rfl⟩ := List.mem_iff_getElem.1 he
  obtain ⟨e', q1, _, q2⟩ := p2 k _ (List.getElem?_eq_getElem (by omega))
  rw [List.getElem?_eq_getElem hk] at q1
  cases q1
  exact q2
 obtain ⟨c1, c2⟩ := G9 h64
 have hat : ∀ k : Nat, k < n → ∃ (b : Addr) (c : Nat), 64 ≤ c ∧ vs[k]? = some (.slice (some b) 64 c) ∧ ∀ i : Nat, i < 64 → 0 ≤ ((ev ρ (lS es)).x.r (64 * (k : Int) + i) 0).i ∧ ((ev ρ (lS es)).x.r (64 * (k : Int) + i) 0).i ≤ 255 ∧ w.cell? (b.add i) = some (.int .i64 ((ev ρ (lS es)).x.r (64 * (k : Int) + i) 0).i) := fun k hk => by
  have hk' : vs[k]? = some vs[k] := List.getElem?_eq_getElem (by omega)
  obtain ⟨e, q1, ⟨A', c', q2, q3, q4, q5, q6, q7, q8⟩, q9⟩ := p2 k _ hk'
  have e64 : (ev ρ e).x.i.toNat = 64 := by omega
  obtain ⟨b, rfl, hb⟩ := q8 (by omega)
  rw [e64] at q2 q5 q7 hb
  refine ⟨b, c', q5, by rw [hk', q2], fun i hi => ?_⟩
  rw [c2 k e q1 i hi]
  have hr := (q7 i hi).1
  exact ⟨hr.1, hr.2, hb i _ (by have := cT (R := (ev ρ e).x.r) (sh := gW) (n := 64) (j := 0) hi rfl; simpa [gW, iR] using this)⟩
 refine ⟨.agg ((Value.slice (some a) n c :: vs).toArray), ⟨(Value.slice (some a) n c :: vs).toArray, some a, n, c, rfl, rfl, hnc, by omega, by omega, by simp [e2], by omega, fun j j0 j1 => ?_, fun k hk => ?_⟩, rfl⟩
 ·obtain ⟨_, _, _, _, h⟩ := hat (j / 64).toNat (by omega)
  have := h (j % 64).toNat (by omega)
  rw [show 64 * (((j / 64).toNat : Nat) : Int) + ((j % 64).toNat : Nat) = j by omega] at this
  exact ⟨this.1, this.2.1⟩
 ·obtain ⟨b, c', h1, h2, h3⟩ := hat k hk
  exact ⟨a, b, c', rfl, h1, by simpa using h2, hcell k _ h2, fun i hi => (h3 i hi).2.2⟩
theorem Hc {F : Option (Nat → List X → X)} (hF : ∀ G, F = some G → G = ρ.f) {A : List E} {j : Nat} {sh : List Sk} {hi : Int} (h0 : 0 ≤ (ρ.f j (aM ρ A)).i) (hk : au sh (ρ.f j (aM ρ A)).r (ρ.f j (aM ρ A)).i.toNat) :
 ∃ R n, BY F A j sh hi = ⟨false, 0, .row sh R n hi⟩ ∧ aa ρ n = (ρ.f j (aM ρ A)).i ∧ au sh (aU ρ R) (ρ.f j (aM ρ A)).i.toNat ∧ aO sh (aU ρ R) (ρ.f j (aM ρ A)).i.toNat = aO sh (ρ.f j (aM ρ A)).r (ρ.f j (aM ρ A)).i.toNat := by
 have hf : (ev ρ (.app j (aL A))).x = ρ.f j (aM ρ A) := by show ρ.f j (ev ρ (aL A)).l = _; rw [bM]
 have app : ∃ R n, (⟨false, 0, .row sh (.app j (aL A)) (.app j (aL A)) hi⟩ : HE) = ⟨false, 0, .row sh R n hi⟩ ∧ aa ρ n = (ρ.f j (aM ρ A)).i ∧ au sh (aU ρ R) (ρ.f j (aM ρ A)).i.toNat ∧ aO sh (aU ρ R) (ρ.f j (aM ρ A)).i.toNat = aO sh (ρ.f j (aM ρ A)).r (ρ.f j (aM ρ A)).i.toNat :=
  ⟨_, _, rfl, congrArg X.i hf, by unfold aU; rw [hf]; exact hk, by unfold aU; rw [hf]⟩
 unfold BY
 split
 ·rename_i G ds hc
  obtain rfl := hF G rfl
  split
  ·rename_i es ht
   rw [ep hc] at h0 hk ⊢
   obtain ⟨t1, t2⟩ := lT (ρ := ρ) (ls := []) (n := (ρ.f j ds).i.toNat) ht (uq sh _ _) (a7 _ _ _)
   exact ⟨_, _, rfl, Int.toNat_of_nonneg h0, t1, t2⟩
  ·exact app
 ·exact app
theorem aB.Nf {N : Nat} {u : Value} {x : HE} (hh : aB ρ B w0 ls hp w) (hN : ∀ (i : Nat) (y : HE) (b : Nat), hp[i]? = some y → y.live = true → eK ls[i]? b → b < N) (hx : aT ρ B w (ls ++ [u]) ls.length x) (hwr : x.wr = false) (hu : ∀ b, eK (some u) b → N ≤ b) :
 aB ρ B w0 (ls ++ [u]) (hp ++ [x]) w ∧ ∀ (i : Nat) (y : HE) (b : Nat), (hp ++ [x])[i]? = some y → y.live = true → eK (ls ++ [u])[i]? b → b < N := by
 have hl : x.live = false := by simp [HE.live, hwr]
 refine ⟨hh.join hx (fun e => by rw [hl] at e; cases e) (fun b hb i y hy ly hbl => ?_), fun i y b hy ly hb => ?_⟩
 ·have h1 := hN i y b hy ly hbl
  have h2 := hu b (by have := hb.1; rwa [show (ls ++ [u])[ls.length]? = some u by simp] at this)
  omega
 ·have hi := (List.getElem?_eq_some_iff.1 hy).1
  rw [List.length_append] at hi
  by_cases h : i < hp.length
  ·rw [List.getElem?_append_left h] at hy
   rw [List.getElem?_append_left (by rw [hh.len]; exact h)] at hb
   exact hN i y b hy ly hb
  ·have : i = hp.length := by simp at hi; omega
   subst this
   simp at hy
   subst hy
   rw [hl] at ly; cases ly
theorem Ag {N j : Nat} {F : Option (Nat → List X → X)} (hF : ∀ G, F = some G → G = ρ.f) {A : List E} {ty : TypeId} {sh : List Sk} {hi : Int} {v : Value} (h : BZ N w (ρ.f j (aM ρ A)) (.row ty sh hi) v) {i : Nat} (hv : ls[i]? = some v) :
 aT ρ B w ls i (BY F A j sh hi) ∧ (BY F A j sh hi).wr = false ∧ (∀ b, eK (some v) b → N ≤ b) ∧ ∃ A n c, v = .slice A n c := by
 obtain ⟨⟨A', c, q1, q2⟩, q3, q4, q5, q6, q7⟩ := h
 obtain ⟨R, n, e, r1, r2, r3⟩ := Hc (hi := hi) hF q3 q6
 rw [e]
 refine ⟨⟨A', c, by rw [r1, hv, q1], by rw [r1]; exact q3, by rw [r1]; exact q4, by rw [r1]; exact q2, q5, by rw [r1]; exact r2, (fun e => by cases e), fun _ hn => ?_⟩, rfl, fun b hb => ?_, A', _, c, q1⟩
 ·rw [r1] at hn ⊢
  rw [r3]
  rcases q7.2 with ⟨e', e''⟩ | ⟨g, cap, cur, e', _⟩
  ·rw [q1] at e'
   injection e' with _ e' _
   omega
  ·rw [q1] at e' q7
   cases e'
   exact ⟨_, rfl, q7.cells rfl⟩
 ·rw [q1] at hb q7
  exact (nR q7 hb.sl).1
end
section
variable {P : Program} (hP : P = Tryz.prog) {F : Option (Nat → List X → X)} (hF : ∀ G, F = some G → G = Ff)
include hP hF
theorem B0 : fp P (pX F) := fun x k ob tm hp G o s hp' ow h B w0 w ls a hw hr hG hh => by
 obtain ⟨ρ', hρ⟩ : ∃ ρ', ρ' = ρ0.sw x k ob := ⟨_, rfl⟩
 have hf : ρ'.f = Ff := by rw [hρ]; rfl
 have hp0 : ρ'.p = ρ0.p := by rw [hρ]; rfl
 have hg0 : ρ'.g = ρ0.g := by rw [hρ]; rfl
 rw [← hρ] at hw hr hG hh ⊢
 have hF : ∀ G, F = some G → G = ρ'.f := by rw [hf]; exact hF
 obtain ⟨dst, op, ty, pos, after, guard⟩ := o
 unfold pX at h
 simp only at h
 split at h
 ·rename_i f args at_
  split at h
  ·rename_i hfn
   split at h
   ·rename_i p m t hvs
    split at h
    ·rename_i cs hl
     split at h
     ·rename_i e0 o0 es o1 e2 o2 h0 h1 h2
      split at h
      ·rename_i hc
       cases h
       have q := b8 hr hG hvs
       obtain ⟨va, vb, vc, hab⟩ : ∃ va vb vc, args.toList.map a.eval = [va, vb, vc] := by
        generalize args.toList.map a.eval = l2 at q
        match l2, q with
        | [u, v, z], _ => exact ⟨u, v, z, rfl⟩
       rw [hab] at q
       obtain ⟨r0, r1, r2, _⟩ := q
       have a0 := lU h0 (fun e he => hw.1 e (by simp [he])) hh r0
       have a1 := Ha hh hl r1 h1 (fun e he => hw.1 e (by simp [he])) hc.1 hc.2
       have a2 := lU h2 (fun e he => hw.1 e (by simp [he])) hh r2
       have hpre : ρ0.p 952 (aM ρ' [e0, lS es, e2]) := by
        have := hw.2
        rw [← hp0]
        show ρ'.p 952 _
        rw [← bM]
        exact this
       refine wh (P := P) (g := 6) (yx (aj hfn hr hG)) hab (by rw [hP]; exact Tryz.func6) rfl rfl ?_
       have hcall := KJ (aM ρ' [e0, lS es, e2]) [va, vb, vc] w (by have := hh.cS.up hh.size; rwa [hg0] at this) ⟨a0, a1, a2, trivial⟩ hpre
       rw [← hP] at hcall
       refine hcall.mono fun e w' ⟨z, g1, g2, g3⟩ => ⟨z, g1, ?_⟩
       obtain ⟨us, rfl, g4⟩ := g2
       match us, g4 with
       | [vq, vh], g4 =>
        obtain ⟨k1, k2, _⟩ := g4
        have hh1 := hh.calls g3
        have hN : ∀ (i : Nat) (y : HE) (b : Nat), hp[i]? = some y → y.live = true → eK ls[i]? b → b < w.heap.size := fun i y b hy ly hb => fN hh.size (hh.bA i y hy) (bn.ik ly hb)
        have k1 : BZ w.heap.size w' (ρ'.f 941 (aM ρ' [e0, lS es, e2])) (.row 49 iO 3072) vq := by rw [hf]; exact k1
        have k2 : BZ w.heap.size w' (ρ'.f 942 (aM ρ' [e0, lS es, e2])) (.row 68 su 12288) vh := by rw [hf]; exact k2
        obtain ⟨m1, m2, m3, A1, n1, c1, m4⟩ := Ag (B := B) (ls := ls ++ [vq]) hF k1 (i := ls.length) (by simp)
        obtain ⟨hh2, hN2⟩ := hh1.Nf hN m1 m2 m3
        obtain ⟨m5, m6, m7, A2, n2, c2, m8⟩ := Ag (B := B) (ls := ls ++ [vq] ++ [vh]) hF k2 (i := (ls ++ [vq]).length) (by simp)
        obtain ⟨hh3, _⟩ := hh2.Nf hN2 m5 m6 m7
        refine ⟨ls ++ [vq] ++ [vh], (Ext.snoc _ _).trans (Ext.snoc _ _), hh3, [vq, vh], rfl, ⟨?_, A1, n1, c1, m4⟩, ⟨?_, A2, n2, c2, m8⟩, trivial⟩
        ·rw [← hh.len]; simp
        ·rw [← hh.len]; simp
      ·cases h
     ·cases h
    ·cases h
   ·cases h
  ·cases h
 ·cases h
end
theorem Dj {F : Option (Nat → List X → X)} (hF : ∀ G, F = some G → G = Ff) : fp Tryz.prog (pX F) := B0 rfl hF
end Vc
end Go.Proofs.YtpmfkelglmgddaaGreatDoor
namespace Go.Proofs.YtpmfkelglmgddaaGreatDoor
namespace Vc
open Go Go.RowKit
set_option linter.unusedVariables false
theorem B1 : dT kF = kF := by
 have h : ∀ i : Nat, i < 6 → Go.Sort.insInner O4 0 i kF.toArray = kF.toArray := fun i hi => by
  match i, hi with
  | 0, _ => rfl
  | 1, _ => decide +kernel
  | 2, _ => decide +kernel
  | 3, _ => decide +kernel
  | 4, _ => decide +kernel
  | 5, _ => decide +kernel
 unfold dT
 rw [Go.Sort.pdq, if_pos (by decide)]
 show (Go.Sort.insOuter O4 0 6 1 kF.toArray).toList = kF
 rw [Go.Sort.insOuter, if_pos (by decide), h 1 (by decide), Go.Sort.insOuter, if_pos (by decide), h _ (by decide), Go.Sort.insOuter, if_pos (by decide), h _ (by decide), Go.Sort.insOuter, if_pos (by decide), h _ (by decide), Go.Sort.insOuter, if_pos (by decide), h _ (by decide), Go.Sort.insOuter, if_neg (by decide)]
def Ob (t d T : X) : List Qd := if bK t d T (384 * t.i.toNat) = kF then kF else bo t d T
theorem DZ (t d T : X) : Ob t d T = bo t d T := by
 unfold Ob bo
 split
 ·rename_i h
  rw [h, B1]
 ·rfl
def Gf : Nat → List X → X
 | 941, [t, d, T] => bh cG (Ob t d T)
 | 942, [t, d, T] => bh DC (Mu (Ob t d T))
 | n, l => Ff n l
theorem Ng : Gf = Ff := by
 funext n l
 unfold Gf
 split
 ·rw [DZ]; rfl
 ·rw [DZ]; rfl
 ·rfl
theorem Ac : ∀ G : Nat → List X → X, some Gf = some G → G = Ff := fun G h => by
 cases h
 exact Ng
def PC : Nat → List X → Bool
 | 956, [Q, H, h] => decide (h.i < H.i) && (decide (0 ≤ (H.r h.i 3).i) && decide ((H.r h.i 3).i < H.i))
 | _, _ => false
theorem KK (k : Nat) (ds : Ds) (h : PC k ds = true) : Px k ds := by
 unfold PC at h
 split at h
 ·simp only [Bool.and_eq_true, decide_eq_true_eq] at h
  exact ⟨h.1, h.2.1, h.2.2⟩
 ·cases h
noncomputable def Oa (g : List (List Nat × Nat)) (ee : ku) (F : Option (Nat → List X → X)) (cs : List kq) (rs : List br) (ls : List ba) (sm : List FuncId) : a8 := { ui ee F cs rs ls sm with Q9 := g, Pb := PC }
theorem KG {g : List (List Nat × Nat)} {ee : ku} {F : Option (Nat → List X → X)} {cs : List kq} {rs : List br} {ls : List ba} {sm : List FuncId} (hx : fp Tryz.prog ee) (h : nS cs) (hr : lV rs) (hF : ∀ G, F = some G → G = Ff) : aP Tryz.prog ρ0 (Oa g ee F cs rs ls sm) :=
 have q := ib (ls := ls) (sm := sm) hx h hr hF
 ⟨q.eq, q.bL, q.F, q.mixed, q.fns, q.pK, q.fn, q.mW, KK, q.mX, q.mY⟩
theorem we {P : Program} {ρ : Env} {cf : a8} {c : br} (hc : aP P ρ cf) {fn : Func} (hf : P.funcs[c.f]? = some fn) (hb : fn.body = some (gb fn)) (n : Nat) {q : Nat} (hpre : c.pre = some q) (hp' : SH)
 (hcv : ∀ (ds : Ds) (lsn : Ls) (w : World), fv c.args ds → ρ.p q ds → aB { ρ with x := fun j => ds.getD j (xI 0) } w.heap.size w lsn (Ah c.args 0) w → aB { ρ with x := fun j => ds.getD j (xI 0) } w.heap.size w lsn hp' w)
 (h : ∀ ds, fv c.args ds → bS (fun j => ρ.f j ds) c.fs c.res { ρ with x := fun j => ds.getD j (xI 0) } (go P cf 0 fn n (.code (gb fn)) [] (gj fn (pW c.args 0 0) hp') [] none)) : aZ P ρ c := by
 intro ds vs w hg hr hp
 rw [hpre] at hp
 obtain ⟨lsn, b1, b2, b3⟩ := mZ (ρ := { ρ with x := fun j => ds.getD j (xI 0) }) (j := 0) hr fun i x hi => by
  show ds.getD (0 + i) (xI 0) = x
  rw [Nat.zero_add, List.getD_eq_getElem?_getD, hi]; rfl
 have hv := b3
 exact gE (ρ := { ρ with x := fun j => ds.getD j (xI 0) }) (hc.nT _) hf hb n (hcv ds lsn w b1 hp (b2.dZ hg)) hv (bZ (h ds b1))
theorem gF : ∀ {sh : List Sk} {f g : Int → Y} {j : Int}, pZ sh f g j → pZ sh g f j
 | [], _, _, _, _ => trivial
 | .int .. :: r, _, _, _, h => ⟨h.1.symm, gF (sh := r) h.2⟩
 | .bool :: r, _, _, _, h => ⟨h.1.symm, gF (sh := r) h.2⟩
 | .p8 :: r, _, _, _, h => ⟨h.1.symm, gF (sh := r) h.2⟩
 | .str _ :: r, _, _, _, h => ⟨⟨h.1.1.symm, h.1.2.symm⟩, gF (sh := r) h.2⟩
theorem D0 {α : Type} {dec : (Int → Y) → α} {enc : α → Int → Y} {sh : List Sk} (hed : ∀ f : Int → Y, pZ sh (enc (dec f)) f 0) {R S : Int → Int → Y} {n : Nat} (h : ∀ i : Nat, i < n → dec (R i) = dec (S i)) : aO sh S n = aO sh R n ∧ (au sh R n → au sh S n) := by
 have e1 : ∀ i : Nat, i < n → gk sh (S i) 0 = gk sh (R i) 0 := fun i hi => by
  rw [← (dz (hed (S i))).1, ← (dz (hed (R i))).1, h i hi]
 refine ⟨bQ e1, fun dZ i hi => ?_⟩
 have := (dz (hed (R i))).2 (dZ i hi)
 rw [h i hi] at this
 exact (dz (gF (hed (S i)))).2 this
theorem Ai {α : Type} {ρ : Env} {B : Nat} {w : World} {ls : Ls} {i : Nat} {dec : (Int → Y) → α} {enc : α → Int → Y} {sh : List Sk} (hed : ∀ f : Int → Y, pZ sh (enc (dec f)) f 0) {hi : Int} {v t : E} {n : Nat} (h : aT ρ B w ls i ⟨false, 0, .row sh v v hi⟩) (e : ae dec (ev ρ v).x = ae dec (aH (aU ρ t) n)) : aT ρ B w ls i ⟨false, 0, .row sh t (.ic n) hi⟩ := by
 obtain ⟨A, c, h1, h2, h3, h4, h5, h6, _, h8⟩ := h
 have h1 : ls[i]? = some (.slice A (ev ρ v).x.i.toNat c) := h1
 have h2 : 0 ≤ (ev ρ v).x.i := h2
 have hn : (ev ρ v).x.i.toNat = n := by
  have := congrArg List.length e
  rwa [aK, aK, show (aH (aU ρ t) n).i.toNat = n from Int.toNat_natCast n] at this
 have hs := D0 hed (R := (ev ρ v).x.r) (S := aU ρ t) (n := n) fun k hk => by
  have g1 := bu (dec := dec) (x := (ev ρ v).x) (i := k) (by omega)
  have g2 := bu (dec := dec) (x := aH (aU ρ t) n) (i := k) (by show k < (n : Int).toNat; omega)
  rw [e, g2] at g1
  exact (Option.some.inj g1).symm
 have hi' : (ev ρ v).x.i = n := by omega
 have h3 : (ev ρ v).x.i ≤ hi := h3
 have h4 : (ev ρ v).x.i.toNat ≤ c := h4
 refine ⟨A, c, by rw [h1, hn]; rfl, Int.natCast_nonneg n, by show (n : Int) ≤ hi; omega, by show (n : Int).toNat ≤ c; omega, h5, ?_, (fun e => by cases e), fun hw hn0 => ?_⟩
 ·show au sh (aU ρ t) (n : Int).toNat
  rw [Int.toNat_natCast]
  have : au sh (ev ρ v).x.r (ev ρ v).x.i.toNat := h6
  rw [hn] at this
  exact hs.2 this
 ·obtain ⟨a, ha, hcell⟩ := h8 hw (by show 0 < (ev ρ v).x.i.toNat; have : 0 < (n : Int).toNat := hn0; omega)
  refine ⟨a, ha, ?_⟩
  show ∀ (j : Nat) u, (aO sh (aU ρ t) (n : Int).toNat)[j]? = some u → _
  rw [Int.toNat_natCast, hs.1]
  have : ∀ (j : Nat) u, (aO sh (ev ρ v).x.r (ev ρ v).x.i.toNat)[j]? = some u → w.cell? (a.add j) = some u := hcell
  rwa [hn] at this
def Pw : E := .cons (.ic 1) (.cons (.ic 1) (.cons (.ic 1) (.cons (.ic 0) (.cons (.bc false) (.cons (.ic 1) (.cons (.ic 2) (.cons (.ic 1) (.cons (.ic 1) (.cons (.ic 0) (.cons (.bc true) (.cons (.ic 1) (.cons (.ic 1) (.cons (.ic 1) (.cons (.ic 1) (.cons (.ic 1) (.cons (.bc false) (.cons (.ic 1) (.cons (.ic 1) (.cons (.ic 2) (.cons (.ic 1) (.cons (.ic 1) (.cons (.bc true) (.cons (.ic 1) (.cons (.ic 1) (.cons (.ic 1) (.cons (.ic 1) (.cons (.ic 2) (.cons (.bc false) (.cons (.ic 1) (.cons (.ic 1) (.cons (.ic 1) (.cons (.ic 2) (.cons (.ic 2) (.cons (.bc true) (.cons (.ic 1) .nil)))))))))))))))))))))))))))))))))))
def Py : E := .cons (.ic 1) (.cons (.ic 1) (.cons (.ic 1) (.cons (.ic 1) (.cons (.ic 11) (.cons (.ic 0) (.cons (.ic 1) (.cons (.ic 1) (.cons (.ic 2) (.cons (.ic 2) (.cons (.ic 23) (.cons (.ic 0) (.cons (.ic 1) (.cons (.ic 2) (.cons (.ic 2) (.cons (.ic 3) (.cons (.ic 12) (.cons (.ic 0) (.cons (.ic 1) (.cons (.ic 2) (.cons (.ic 1) (.cons (.ic 0) (.cons (.ic 16) (.cons (.ic 0) (.cons (.ic 2) (.cons (.ic 1) (.cons (.ic 1) (.cons (.ic 5) (.cons (.ic 18) (.cons (.ic 1) (.cons (.ic 2) (.cons (.ic 2) (.cons (.ic 1) (.cons (.ic 6) (.cons (.ic 14) (.cons (.ic 1) (.cons (.ic 2) (.cons (.ic 2) (.cons (.ic 2) (.cons (.ic 7) (.cons (.ic 21) (.cons (.ic 1) (.cons (.ic 2) (.cons (.ic 1) (.cons (.ic 2) (.cons (.ic 4) (.cons (.ic 9) (.cons (.ic 1) (.cons (.ic 1) (.cons (.ic 1) (.cons (.ic 1) (.cons (.ic 9) (.cons (.ic 19) (.cons (.ic 2) (.cons (.ic 2) (.cons (.ic 1) (.cons (.ic 1) (.cons (.ic 10) (.cons (.ic 7) (.cons (.ic 2) (.cons (.ic 2) (.cons (.ic 1) (.cons (.ic 2) (.cons (.ic 11) (.cons (.ic 20) (.cons (.ic 2) (.cons (.ic 1) (.cons (.ic 1) (.cons (.ic 2) (.cons (.ic 8) (.cons (.ic 0) (.cons (.ic 2) (.cons (.ic 1) (.cons (.ic 2) (.cons (.ic 1) (.cons (.ic 13) (.cons (.ic 2) (.cons (.ic 3) (.cons (.ic 1) (.cons (.ic 2) (.cons (.ic 2) (.cons (.ic 14) (.cons (.ic 22) (.cons (.ic 3) (.cons (.ic 2) (.cons (.ic 2) (.cons (.ic 2) (.cons (.ic 15) (.cons (.ic 5) (.cons (.ic 3) (.cons (.ic 2) (.cons (.ic 2) (.cons (.ic 1) (.cons (.ic 12) (.cons (.ic 17) (.cons (.ic 3) (.cons (.ic 1) (.cons (.ic 1) (.cons (.ic 1) (.cons (.ic 17) (.cons (.ic 3) (.cons (.ic 4) (.cons (.ic 1) (.cons (.ic 2) (.cons (.ic 1) (.cons (.ic 18) (.cons (.ic 15) (.cons (.ic 4) (.cons (.ic 2) (.cons (.ic 2) (.cons (.ic 1) (.cons (.ic 19) (.cons (.ic 4) (.cons (.ic 4) (.cons (.ic 2) (.cons (.ic 1) (.cons (.ic 1) (.cons (.ic 16) (.cons (.ic 8) (.cons (.ic 4) (.cons (.ic 1) (.cons (.ic 1) (.cons (.ic 2) (.cons (.ic 21) (.cons (.ic 10) (.cons (.ic 5) (.cons (.ic 2) (.cons (.ic 1) (.cons (.ic 2) (.cons (.ic 22) (.cons (.ic 6) (.cons (.ic 5) (.cons (.ic 2) (.cons (.ic 2) (.cons (.ic 2) (.cons (.ic 23) (.cons (.ic 13) (.cons (.ic 5) (.cons (.ic 1) (.cons (.ic 2) (.cons (.ic 2) (.cons (.ic 20) (.cons (.ic 1) (.cons (.ic 5) .nil)))))))))))))))))))))))))))))))))))))))))))))))))))))))))))))))))))))))))))))))))))))))))))))))))))))))))))))))))))))))))))))))))))))))))))))))
def Mw : SH := [⟨false, 0, .row iO (.bE 6 Pw) (.ic 6) 3072⟩, ⟨false, 0, .row su (.bE 6 Py) (.ic 24) 12288⟩]
theorem DX {ρ : Env} {ds : Ds} {lsn : Ls} {w : World} (hr : fv [BT] ds) (hp : Px 978 ds) (hh : aB { ρ with x := fun j => ds.getD j (xI 0) } w.heap.size w lsn (Ah [BT] 0) w) : aB { ρ with x := fun j => ds.getD j (xI 0) } w.heap.size w lsn Mw w := by
 have hr := aA hr
 match ds, hr, hp with
 | [Q, H], _, hp =>
  obtain ⟨h1, h2⟩ := hp
  have g1 := hh.fh (l := 0) (x := ⟨false, 0, .row iO (.var 0) (.var 0) 3072⟩) (x' := ⟨false, 0, .row iO (.bE 6 Pw) (.ic (6 : Nat)) 3072⟩) rfl (Ai (sh := iO) (enc := cG) (dec := aQ) (fun f => ⟨rfl, rfl, rfl, rfl, rfl, rfl, trivial⟩) (hh.bA 0 _ rfl) (h1.trans (by kernel_rfl))) (fun e => by cases e) (fun b hb => ⟨hb.1, rfl, fun _ => by
   show 0 < Q.i.toNat
   have := congrArg List.length h1
   rw [aK] at this
   rw [this]; decide⟩)
  exact g1.fh (l := 1) (x := ⟨false, 0, .row su (.var 1) (.var 1) 12288⟩) (x' := ⟨false, 0, .row su (.bE 6 Py) (.ic (24 : Nat)) 12288⟩) rfl (Ai (sh := su) (enc := DC) (dec := fA) (fun f => ⟨rfl, rfl, rfl, rfl, rfl, rfl, trivial⟩) (g1.bA 1 _ rfl) (h2.trans (by kernel_rfl))) (fun e => by cases e) (fun b hb => ⟨hb.1, rfl, fun _ => by
   show 0 < H.i.toNat
   have := congrArg List.length h2
   rw [aK] at this
   rw [this]; decide⟩)
def wc : br := ⟨35, [.agg [.int .i64 (-1000) 1000, .int .i64 (-1000) 1000, .int .i64 (-1000) 1000], .agg [.int .i64 (-1000) 1000, .int .i64 (-1000) 1000, .int .i64 (-1000) 1000]], .one .bool, none, 929⟩
def uo : br := ⟨12, [BT], .one .bool, some 978, 918⟩
def BW : br := ⟨11, [BT], .one (.row 3 [.int .i64 (-1000) 1000] 10), some 978, 922⟩
def sV : br := ⟨4, [], .one .bool, none, 928⟩
end Vc
end Go.Proofs.YtpmfkelglmgddaaGreatDoor
namespace Go.Proofs.YtpmfkelglmgddaaGreatDoor
namespace Vc
open Go Go.RowKit
set_option linter.unusedVariables false
def Jd (k : Nat) : ba := ⟨[2, 5, 0, k], 20 + 10 * k, [(.tmp 12, 0, 64)], [(.tmp 11, 3, gW, 64)], BV 7 ++ [.ex (.ic (ff k).1), .ex (.ic (ff k).2.1), .ex (.ic (ff k).2.2)], 974, 923⟩
def QV : List ba := [Jd 0, Jd 1, Jd 2, Jd 3, Jd 4, Jd 5, Jd 6, Jd 7]
def QU : List (List Nat × Nat) := [([0, 15, 5, 0], 0)]
def MB : ku := pX none
end Vc
end Go.Proofs.YtpmfkelglmgddaaGreatDoor
