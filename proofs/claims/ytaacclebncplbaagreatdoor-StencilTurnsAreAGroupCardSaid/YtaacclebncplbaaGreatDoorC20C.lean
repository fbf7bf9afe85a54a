/- Layer 20: what the walks assume of each function; the loops. -/
import Derived.Test.YtaacclebncplbaaGreatDoorC07U
namespace Go.Proofs.YtaacclebncplbaaGreatDoor
namespace Vc
open Go Go.RowKit
set_option linter.unusedVariables false
def K10 : RA := .int .i64 (-10000) 10000
def K100 : RA := .int .i64 (-100000) 100000
def RP64 : RSh := .agg [K64, K64, K64]
def RP10 : RSh := .agg [K10, K10, K10]
def RB10 : RSh := .agg [K10, K10, K10, K10, K10, K10]
def RP100 : RSh := .agg [K100, K100, K100]
def RB100 : RSh := .agg [K100, K100, K100, K100, K100, K100]
def P30 : RPt := .int .i64 (-30000) 30000
def P300 : RPt := .int .i64 (-300000) 300000
def P10 : RPt := .int .i64 (-10000) 10000
def shTgt : List RSh := [RB10, .one K64, RP10]
def shPlc : List RSh := [RB100, .one K64, RP100, RP64]
def shSrc : List RSh := [RB10, .one K64, RP10, RP64]
def cTgt : RCtr := ⟨25, [RB64, .one K64, RP64], .agg [P30, P30, P30, P30, P30, P30], some 1080, 1000⟩
def cPlc : RCtr := ⟨41, [RB64, .one K64, RP64, RP64], .tup [(true, [P300, P300, P300]), (false, [.bool])], some 1081, 1010⟩
def cPlcR : RCtr := ⟨83, [RB64, .one K64, RP64, RP64], .tup [(true, [P300, P300, P300]), (false, [.bool])], some 1081, 1010⟩
def cSrc : RCtr := ⟨42, [RB64, .one K64, RP64, RP64], .tup [(true, [P10, P10, P10]), (false, [.bool])], some 1082, 1020⟩
def lpSrcR : List LSpec := [⟨[0, 0], 20, [(.tmp 10, 0, 9000000000000)], [], exs 13, 1070, 1070⟩]
def SCc : List Sk := [.int .i64 (-1048575) 1048575, .int .i64 (-1048575) 1048575, .int .i64 (-1048575) 1048575, .int .i64 0 255, .int .i64 0 255]
def PCh : Bool × List RPt := (false, [.row 67 SCc 2097152])
def shCpy : List RSh := [RGv, RB10, .one K64, RP10]
def cCpy : RCtr := ⟨10, [RGw, RB64, .one K64, RP64], .tup [PCh, PErr], some 1083, 1030⟩
def cStm : RCtr := ⟨12, [RGw, RGw, .one K64, RP64], .tup [PCh, PErr], some 1084, 1032⟩
def cRep : RCtr := ⟨14, [RGw, RGw, RB64], .tup [PCh, PErr], some 1085, 1034⟩
def lpCpy : List LSpec := [⟨[0, 106, 49, 44, 0], 30, [(.tmp 10, 0, 2097152)], [(.cell 11 0, 67, SCc, 2097152)], exs 17, 1071, 1071⟩]
def lpStm : List LSpec := [⟨[0, 106, 49, 44, 0], 30, [(.tmp 10, 0, 2097152)], [(.cell 12 0, 67, SCc, 2097152)], exs 18, 1072, 1072⟩]
def lpRep : List LSpec := [⟨[0, 106, 49, 0], 30, [(.tmp 10, 0, 2097152)], [(.cell 8 0, 67, SCc, 2097152)], exs 20, 1073, 1073⟩]
def RI : RSh := .one (.row [S64] maxLen)
def cCmp : Ctr := ⟨91, [.one I64, .one I64], .one (IR (-1) 1), none, 1069⟩
def cSCm : RCtr := ⟨92, [RI, RI], .one (.int .i64 (-1) 1), none, 1068⟩
def lpSCm : List LSpec := [⟨[0, 0], 20, [(.tmp 11, 0, maxLen)], [], exs 2, 1074, 1074⟩]
def cOrd : RCtr := ⟨61, [RGw, RGw], .one (.int .i64 (-1) 1), none, 1040⟩
def cPat : RCtr := ⟨60, [.one K64, RGw], .agg [PS21, PS21, PS21, PS21, PS21, PS21, .row 3 SMat 2097152], some 947, 1051⟩
def S48 : List Sk := [.int .i64 0 47]
def shG : List RSh := [RGv]
def cTns : RCtr := ⟨20, [RGw], .one (.row 3 S48 48), some 710, 1041⟩
def lpTns : List LSpec := [⟨[0, 0], 20, [(.tmp 7, 0, 48)], [(.tmp 2, 3, S48, 48)], exs 7, 1075, 1075⟩]
def cCan : RCtr := ⟨17, [RGw], .tup [(true, [PS21, PS21, PS21, PS21, PS21, PS21, .row 3 SMat 2097152]), (false, [.int .i64 0 47])], some 710, 1042⟩
def lpCan : List LSpec := [⟨[0, 0], 20, [(.tmp 10, 0, 48), (.tmp 5, 0, 47), (.cell 4 0, -2097151, 2097151), (.cell 4 1, -2097151, 2097151), (.cell 4 2, -2097151, 2097151), (.cell 4 3, -2097151, 2097151), (.cell 4 4, -2097151, 2097151), (.cell 4 5, -2097151, 2097151)], [(.cell 4 6, 3, SMat, 2097152)], exs 7, 1076, 1076⟩]
def cLik : RCtr := ⟨23, [RGw, RGw], .one .bool, some 711, 1050⟩
theorem tgt_rsh (ds : Ds) (h : rshX [RB64, .one K64, RP64] ds) (hp : Px 1080 ds) : rshX shTgt ds := by
 have h0 := rshX_flat h
 match ds, h0, h, hp with
 | [a, b, c, d, e, f, k, x, y, z], h0, h, hp =>
  obtain ⟨⟨p0, p1, p2⟩, p3, p4, p5⟩ := hp.1
  obtain ⟨q0, q1, q2⟩ := hp.2
  obtain ⟨⟨e0, e1, e2, e3, e4, e5, e6⟩, h1, h2, ⟨f0, f1, f2, f3⟩, f4, f5⟩ := h
  exact ⟨⟨⟨e0.1, p0⟩, ⟨e1.1, p1⟩, ⟨e2.1, p2⟩, ⟨e3.1, p3⟩, ⟨e4.1, p4⟩, ⟨e5.1, p5⟩, e6⟩, h1, h2, ⟨⟨f0.1, q0⟩, ⟨f1.1, q1⟩, ⟨f2.1, q2⟩, f3⟩, f4, f5⟩
theorem plc_rsh (ds : Ds) (h : rshX [RB64, .one K64, RP64, RP64] ds) (hp : Px 1081 ds) : rshX shPlc ds := by
 have h0 := rshX_flat h
 match ds, h0, h, hp with
 | [a, b, c, d, e, f, k, x, y, z, u, v, w], h0, h, hp =>
  obtain ⟨⟨p0, p1, p2⟩, p3, p4, p5⟩ := hp.1
  obtain ⟨q0, q1, q2⟩ := hp.2
  obtain ⟨⟨e0, e1, e2, e3, e4, e5, e6⟩, h1, h2, ⟨f0, f1, f2, f3⟩, f4, f5⟩ := h
  exact ⟨⟨⟨e0.1, p0⟩, ⟨e1.1, p1⟩, ⟨e2.1, p2⟩, ⟨e3.1, p3⟩, ⟨e4.1, p4⟩, ⟨e5.1, p5⟩, e6⟩, h1, h2, ⟨⟨f0.1, q0⟩, ⟨f1.1, q1⟩, ⟨f2.1, q2⟩, f3⟩, f4, f5⟩
theorem src_rsh (ds : Ds) (h : rshX [RB64, .one K64, RP64, RP64] ds) (hp : Px 1082 ds) : rshX shSrc ds := by
 have h0 := rshX_flat h
 match ds, h0, h, hp with
 | [a, b, c, d, e, f, k, x, y, z, u, v, w], h0, h, hp =>
  obtain ⟨⟨p0, p1, p2⟩, p3, p4, p5⟩ := hp.1
  obtain ⟨q0, q1, q2⟩ := hp.2
  obtain ⟨⟨e0, e1, e2, e3, e4, e5, e6⟩, h1, h2, ⟨f0, f1, f2, f3⟩, f4, f5⟩ := h
  exact ⟨⟨⟨e0.1, p0⟩, ⟨e1.1, p1⟩, ⟨e2.1, p2⟩, ⟨e3.1, p3⟩, ⟨e4.1, p4⟩, ⟨e5.1, p5⟩, e6⟩, h1, h2, ⟨⟨f0.1, q0⟩, ⟨f1.1, q1⟩, ⟨f2.1, q2⟩, f3⟩, f4, f5⟩
theorem cpy_rsh (ds : Ds) (h : rshX [RGw, RB64, .one K64, RP64] ds) (hp : Px 1083 ds) : rshX shCpy ds := by
 have h0 := rshX_flat h
 match ds, h0, h, hp with
 | [a, b, c, d, e, f, l, a', b', c', d', e', f', k, x, y, z], h0, h, hp =>
  obtain ⟨⟨p0, p1, p2⟩, p3, p4, p5⟩ := hp.2.1
  obtain ⟨q0, q1, q2⟩ := hp.2.2
  obtain ⟨r1, r2, r3⟩ := val_rsh (rest := [RB64, .one K64, RP64]) _ h hp.1
  obtain ⟨⟨e0, e1, e2, e3, e4, e5, e6⟩, h1, h2, ⟨f0, f1, f2, f3⟩, f4, f5⟩ := r3
  exact ⟨r1, r2, ⟨⟨e0.1, p0⟩, ⟨e1.1, p1⟩, ⟨e2.1, p2⟩, ⟨e3.1, p3⟩, ⟨e4.1, p4⟩, ⟨e5.1, p5⟩, e6⟩, h1, h2, ⟨⟨f0.1, q0⟩, ⟨f1.1, q1⟩, ⟨f2.1, q2⟩, f3⟩, f4, f5⟩
def RG10 : RSh := .agg [K10, K10, K10, K10, K10, K10, .row SMat 2097152]
theorem g10_rsh {rest : List RSh} (ds : Ds) (h : rshX (RGw :: rest) ds) (hp : Px 710 ds) (hn : ∃ a b c d e f r, ds = a :: b :: c :: d :: e :: f :: r ∧ nB 10000 (bxX a b c d e f)) : rshX (RG10 :: rest) ds := by
 obtain ⟨h1, h2, h3⟩ := val_rsh ds h hp
 obtain ⟨a, b, c, d, e, f, r, rfl, ⟨p0, p1, p2⟩, p3, p4, p5⟩ := hn
 match r, h1, h2, h3 with
 | l :: r, h1, h2, h3 =>
  obtain ⟨e0, e1, e2, e3, e4, e5, e6⟩ := h1
  exact ⟨⟨⟨e0.1, p0⟩, ⟨e1.1, p1⟩, ⟨e2.1, p2⟩, ⟨e3.1, p3⟩, ⟨e4.1, p4⟩, ⟨e5.1, p5⟩, e6⟩, h2, h3⟩
 | [], h1, h2, h3 => simp at h2
def shStm2 : List RSh := [RGv, RG10, .one K64, RP10]
theorem stm_rsh (ds : Ds) (h : rshX [RGw, RGw, .one K64, RP64] ds) (hp : Px 1084 ds) : rshX shStm2 ds := by
 have h0 := rshX_flat h
 match ds, h0, h, hp with
 | [a, b, c, d, e, f, l, a', b', c', d', e', f', l', k, x, y, z], h0, h, hp =>
  obtain ⟨q0, q1, q2⟩ := hp.2.2.2
  obtain ⟨r1, r2, r3⟩ := val_rsh (rest := [RGw, .one K64, RP64]) _ h hp.1
  obtain ⟨h1, h2, h3, ⟨f0, f1, f2, f3⟩, f4, f5⟩ := g10_rsh (rest := [.one K64, RP64]) _ r3 hp.2.1 ⟨a', b', c', d', e', f', _, rfl, hp.2.2.1⟩
  exact ⟨r1, r2, h1, h2, h3, ⟨⟨f0.1, q0⟩, ⟨f1.1, q1⟩, ⟨f2.1, q2⟩, f3⟩, f4, f5⟩
def shRep : List RSh := [RGv, RG10, RB10]
theorem rep_rsh (ds : Ds) (h : rshX [RGw, RGw, RB64] ds) (hp : Px 1085 ds) : rshX shRep ds := by
 have h0 := rshX_flat h
 match ds, h0, h, hp with
 | [a, b, c, d, e, f, l, a', b', c', d', e', f', l', a2, b2, c2, d2, e2, f2], h0, h, hp =>
  obtain ⟨⟨p0, p1, p2⟩, p3, p4, p5⟩ := hp.2.2.2
  obtain ⟨r1, r2, r3⟩ := val_rsh (rest := [RGw, RB64]) _ h hp.1
  obtain ⟨h1, h2, ⟨e0, e1, e2, e3, e4, e5, e6⟩, h3, h4⟩ := g10_rsh (rest := [RB64]) _ r3 hp.2.1 ⟨a', b', c', d', e', f', _, rfl, hp.2.2.1⟩
  exact ⟨r1, r2, h1, h2, ⟨⟨e0.1, p0⟩, ⟨e1.1, p1⟩, ⟨e2.1, p2⟩, ⟨e3.1, p3⟩, ⟨e4.1, p4⟩, ⟨e5.1, p5⟩, e6⟩, h3, h4⟩
end Vc
end Go.Proofs.YtaacclebncplbaaGreatDoor
