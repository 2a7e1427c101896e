/- Each call computes its plain function. -/
import Derived.Test.YtokchpjijlebiaaProg
import Derived.Test.YtokchpjijlebiaaSpP0
import Derived.Test.YtokchpjijlebiaaSpWA
import Derived.Test.YtokchpjijlebiaaSpWB
import Derived.Test.YtokchpjijlebiaaSpWB1
import Derived.Test.YtokchpjijlebiaaSpWC
import Derived.Test.YtokchpjijlebiaaSpWC1
import Derived.Test.YtokchpjijlebiaaSpWD
set_option linter.all false
namespace Go.Proofs.Ytokchpjijlebiaa
open Go Go.RowKit
open Rep (rep)
open KRep (kv)
open VRep (rv)
abbrev K5c1 (more : Spare) : List SC := [.int .i64 more.stop, .int .i64 more.tm]
abbrev K5c2 : List SC := [.slice none 0 0, .slice none 0 0, .slice none 0 0]
abbrev K5e3 (d f g ad ae : Nat) : Env := [(d, 0), (f, 0), (g, 0), (ad, 0), (ae, 0)]
abbrev K5c4 (x112 : Bus) : List SC := [.int .i64 x112.stop, .int .i64 x112.tm.lo, .int .i64 x112.tm.hi]
abbrev K5c5 (l : Option Addr) (a : Acts) (m : Nat) (z : Option Addr) (aa : Nat) (aj : Option Addr) (x60 : List Bool) (ak : Nat) : List SC := [.slice l a.holds.length m, .slice z a.turns.length aa, .slice aj x60.length ak]
abbrev K5c6 (l : Option Addr) (a : Acts) (m : Nat) (z : Option Addr) (aa : Nat) (x : Option Addr) (y : Nat) : List SC := [.slice l a.holds.length m, .slice z a.turns.length aa, .slice x a.spares.length y]
abbrev K5c7 (l : Option Addr) (a : Acts) (m : Nat) (bb : Option Addr) (a8 : ((List Int) × Bool)) (bf : Nat) (x : Option Addr) (y : Nat) : List SC := [.slice l a.holds.length m, .slice bb a8.1.length bf, .slice x a.spares.length y]
abbrev K5c8 (l : Option Addr) (a : Acts) (m : Nat) (bd : Option Addr) (a9 : ((List Int) × Bool)) (bh : Nat) (x : Option Addr) (y : Nat) : List SC := [.slice l a.holds.length m, .slice bd a9.1.length bh, .slice x a.spares.length y]
abbrev K5c9 : List SC := [.slice none 0 0, .int .i64 0, .int .i64 0, .slice none 0 0, .slice none 0 0, .int .i64 0, .int .i64 0, .int .i64 0, .int .i64 0]
abbrev K5e10 (d f g ad ae ax a0 : Nat) (at_ : IK .u8) (r_ : Route) (a2 : Nat) : Env := [(d, 0), (f, 0), (g, 0), (ad, 0), (ae, 0), (ax, a0 + (Int.tmod (IntKind.i64.wrap at_.n) ((r_.buses.length : Nat) : Int) : Int).toNat * 3), (a2, 0)]
abbrev K5e11 (d f g ad ae ay a1 : Nat) (at_ : IK .u8) (r_ : Route) (a3 : Nat) : Env := [(d, 0), (f, 0), (g, 0), (ad, 0), (ae, 0), (ay, a1 + (Int.tmod (IntKind.i64.wrap at_.n) ((r_.buses.length : Nat) : Int) : Int).toNat * 3), (a3, 0)]
abbrev K5c12 (s : Option Addr) (r_ : Route) (u : Nat) (p : Option Addr) (q : Nat) (ah : Option Addr) (x54 : List Spare) (ai : Nat) : List SC := [.slice s r_.legs.length u, .int .i64 r_.turn.lo, .int .i64 r_.turn.hi, .slice p r_.buses.length q, .slice ah x54.length ai, .int .i64 r_.unit, .int .i64 r_.gap, .int .i64 r_.fr, .int .i64 r_.to_]
abbrev K5c13 (s : Option Addr) (r_ : Route) (u : Nat) (p : Option Addr) (q : Nat) (ab : Option Addr) (ac : Nat) : List SC := [.slice s r_.legs.length u, .int .i64 r_.turn.lo, .int .i64 r_.turn.hi, .slice p r_.buses.length q, .slice ab r_.spares.length ac, .int .i64 r_.unit, .int .i64 r_.gap, .int .i64 r_.fr, .int .i64 r_.to_]
abbrev K5c14 (eb : Option Addr) (x31 : Route) (e5 : Nat) (ec : Option Addr) (e6 : Nat) (ed : Option Addr) (e7 : Nat) : List SC := [.slice eb x31.legs.length e5, .int .i64 x31.turn.lo, .int .i64 x31.turn.hi, .slice ec x31.buses.length e6, .slice ed x31.spares.length e7, .int .i64 x31.unit, .int .i64 x31.gap, .int .i64 x31.fr, .int .i64 x31.to_]
abbrev K5c15 (d5 : Option Addr) (x68 : Route) (ez : Nat) (d6 : Option Addr) (e0 : Nat) (d7 : Option Addr) (e1 : Nat) : List SC := [.slice d5 x68.legs.length ez, .int .i64 x68.turn.lo, .int .i64 x68.turn.hi, .slice d6 x68.buses.length e0, .slice d7 x68.spares.length e1, .int .i64 x68.unit, .int .i64 x68.gap, .int .i64 x68.fr, .int .i64 x68.to_]
abbrev K5c16 (d8 : Option Addr) (x144 : Route) (e2 : Nat) (d9 : Option Addr) (e3 : Nat) (ea : Option Addr) (e4 : Nat) : List SC := [.slice d8 x144.legs.length e2, .int .i64 x144.turn.lo, .int .i64 x144.turn.hi, .slice d9 x144.buses.length e3, .slice ea x144.spares.length e4, .int .i64 x144.unit, .int .i64 x144.gap, .int .i64 x144.fr, .int .i64 x144.to_]
abbrev K5c17 (ee : Option Addr) (x144 : Route) (e8 : Nat) (ef : Option Addr) (e9 : Nat) (eg : Option Addr) (fa : Nat) : List SC := [.slice ee x144.legs.length e8, .int .i64 x144.turn.lo, .int .i64 x144.turn.hi, .slice ef x144.buses.length e9, .slice eg x144.spares.length fa, .int .i64 x144.unit, .int .i64 x144.gap, .int .i64 x144.fr, .int .i64 x144.to_]
abbrev K5e18 (d f g ad ae ax a0 : Nat) (at_ : IK .u8) (r_ : Route) (a2 a5 : Nat) : Env := [(d, 0), (f, 0), (g, 0), (ad, 0), (ae, 0), (ax, a0 + (Int.tmod (IntKind.i64.wrap at_.n) ((r_.buses.length : Nat) : Int) : Int).toNat * 3), (a2, 0), (a5, 0 + (Int.tmod (IntKind.i64.wrap at_.n) ((r_.buses.length : Nat) : Int) : Int).toNat * 1)]
abbrev K5e19 (d f g ad ae ay a1 : Nat) (at_ : IK .u8) (r_ : Route) (a3 a6 : Nat) : Env := [(d, 0), (f, 0), (g, 0), (ad, 0), (ae, 0), (ay, a1 + (Int.tmod (IntKind.i64.wrap at_.n) ((r_.buses.length : Nat) : Int) : Int).toNat * 3), (a3, 0), (a6, 0 + (Int.tmod (IntKind.i64.wrap at_.n) ((r_.buses.length : Nat) : Int) : Int).toNat * 1)]
abbrev K5e20 (d f g ad ae ax a0 : Nat) (at_ : IK .u8) (r_ : Route) (a2 a5 dk dz : Nat) : Env := [(d, 0), (f, 0), (g, 0), (ad, 0), (ae, 0), (ax, a0 + (Int.tmod (IntKind.i64.wrap at_.n) ((r_.buses.length : Nat) : Int) : Int).toNat * 3), (a2, 0), (a5, 0 + (Int.tmod (IntKind.i64.wrap at_.n) ((r_.buses.length : Nat) : Int) : Int).toNat * 1), (dk, dz + (Int.tmod (IntKind.i64.wrap at_.n) ((r_.buses.length : Nat) : Int) : Int).toNat * 1)]
abbrev K5e21 (d f g ad ae ay a1 : Nat) (at_ : IK .u8) (r_ : Route) (a3 a6 dl d0 : Nat) : Env := [(d, 0), (f, 0), (g, 0), (ad, 0), (ae, 0), (ay, a1 + (Int.tmod (IntKind.i64.wrap at_.n) ((r_.buses.length : Nat) : Int) : Int).toNat * 3), (a3, 0), (a6, 0 + (Int.tmod (IntKind.i64.wrap at_.n) ((r_.buses.length : Nat) : Int) : Int).toNat * 1), (dl, d0 + (Int.tmod (IntKind.i64.wrap at_.n) ((r_.buses.length : Nat) : Int) : Int).toNat * 1)]
abbrev K5f22 : List Fl := [⟨7, 55, 4, 1, 0, []⟩, ⟨11, 59, 4, 1, 1, [.bool true]⟩]
abbrev K5f23 (more : Spare) : List Fl := [⟨5, 53, 61, 2, 1, (K5c1 more)⟩, ⟨7, 55, 4, 1, 0, []⟩, ⟨11, 59, 4, 1, 1, [.bool true]⟩]
abbrev K5f24 (more : Spare) : List Fl := [⟨0, 48, 61, 2, 0, []⟩, ⟨5, 53, 61, 2, 1, (K5c1 more)⟩, ⟨7, 55, 4, 1, 0, []⟩, ⟨11, 59, 4, 1, 1, [.bool true]⟩]
abbrev K5p25 (s : Option Addr) (r_ : Route) (u : Nat) (p : Option Addr) (q : Nat) (ab : Option Addr) (ac : Nat) (l : Option Addr) (a : Acts) (m : Nat) (z : Option Addr) (aa : Nat) (x : Option Addr) (y : Nat) (more : Spare) : List Plc := [⟨(K5c13 s r_ u p q ab ac), some 28⟩, ⟨(K5c6 l a m z aa x y), some 50⟩, ⟨(K5c1 more), some 61⟩, ⟨[], none⟩, ⟨K5c2, some 50⟩]
abbrev K5p26 (s : Option Addr) (r_ : Route) (u : Nat) (p : Option Addr) (q : Nat) (ab : Option Addr) (ac : Nat) (l : Option Addr) (a : Acts) (m : Nat) (z : Option Addr) (aa : Nat) (x : Option Addr) (y : Nat) (more : Spare) : List Plc := [⟨(K5c13 s r_ u p q ab ac), some 28⟩, ⟨(K5c6 l a m z aa x y), some 50⟩, ⟨(K5c1 more), some 61⟩, ⟨[], some 28⟩, ⟨K5c2, some 50⟩]
abbrev K5p27 (s : Option Addr) (r_ : Route) (u : Nat) (p : Option Addr) (q : Nat) (ab : Option Addr) (ac : Nat) (l : Option Addr) (a : Acts) (m : Nat) (z : Option Addr) (aa : Nat) (x : Option Addr) (y : Nat) (more : Spare) : List Plc := [⟨(K5c13 s r_ u p q ab ac), some 28⟩, ⟨(K5c6 l a m z aa x y), some 50⟩, ⟨(K5c1 more), some 61⟩, ⟨K5c9, some 28⟩, ⟨K5c2, some 50⟩]
abbrev K5p28 (s : Option Addr) (r_ : Route) (u : Nat) (p : Option Addr) (q : Nat) (ab : Option Addr) (ac : Nat) (l : Option Addr) (a : Acts) (m : Nat) (z : Option Addr) (aa : Nat) (x : Option Addr) (y : Nat) (more : Spare) : List Plc := [⟨(K5c13 s r_ u p q ab ac), some 28⟩, ⟨(K5c6 l a m z aa x y), some 50⟩, ⟨(K5c1 more), some 61⟩, ⟨[], some 28⟩, ⟨(K5c6 l a m z aa x y), some 50⟩]
abbrev K5p29 (s : Option Addr) (r_ : Route) (u : Nat) (p : Option Addr) (q : Nat) (ab : Option Addr) (ac : Nat) (l : Option Addr) (a : Acts) (m : Nat) (z : Option Addr) (aa : Nat) (x : Option Addr) (y : Nat) (more : Spare) : List Plc := [⟨(K5c13 s r_ u p q ab ac), some 28⟩, ⟨(K5c6 l a m z aa x y), some 50⟩, ⟨(K5c1 more), some 61⟩, ⟨(K5c13 s r_ u p q ab ac), some 28⟩, ⟨(K5c6 l a m z aa x y), some 50⟩]
abbrev K5p30 (s : Option Addr) (r_ : Route) (u : Nat) (p : Option Addr) (q : Nat) (ab : Option Addr) (ac : Nat) (l : Option Addr) (a : Acts) (m : Nat) (z : Option Addr) (aa : Nat) (x : Option Addr) (y : Nat) (more : Spare) (ah : Option Addr) (x54 : List Spare) (ai : Nat) (aj : Option Addr) (x60 : List Bool) (ak : Nat) : List Plc := [⟨(K5c13 s r_ u p q ab ac), some 28⟩, ⟨(K5c6 l a m z aa x y), some 50⟩, ⟨(K5c1 more), some 61⟩, ⟨(K5c12 s r_ u p q ah x54 ai), some 28⟩, ⟨(K5c5 l a m z aa aj x60 ak), some 50⟩]
abbrev K5r31 (ah : Option Addr) (x54 : List Spare) (ai : Nat) (al : List Value) (ap : Option Addr) (aq : Nat) (ao : List Value) (aj : Option Addr) (x60 : List Bool) (ak : Nat) (am : List Value) (an : Option Addr) : List Row := [⟨ah, x54.length, ai, 61, 2, al, (al : List Value).length⟩, ⟨ap, 1, aq, 61, 2, ao, 0⟩, ⟨aj, x60.length, ak, 4, 1, (am ++ ([.bool true] : List Value)), ((am ++ ([.bool true] : List Value)) : List Value).length⟩, ⟨an, 1, 1, 4, 1, ([.bool true] : List Value), 0⟩]
abbrev K5p32 (s : Option Addr) (r_ : Route) (u : Nat) (p : Option Addr) (q : Nat) (ab : Option Addr) (ac : Nat) (l : Option Addr) (a : Acts) (m : Nat) (z : Option Addr) (aa : Nat) (x : Option Addr) (y : Nat) (more : Spare) (ah : Option Addr) (x54 : List Spare) (ai : Nat) (aj : Option Addr) (x60 : List Bool) (ak : Nat) (x112 : Bus) : List Plc := [⟨(K5c13 s r_ u p q ab ac), some 28⟩, ⟨(K5c6 l a m z aa x y), some 50⟩, ⟨(K5c1 more), some 61⟩, ⟨(K5c12 s r_ u p q ah x54 ai), some 28⟩, ⟨(K5c5 l a m z aa aj x60 ak), some 50⟩, ⟨(K5c4 x112), none⟩, ⟨(K5c6 l a m z aa x y), some 50⟩]
abbrev K5p33 (s : Option Addr) (r_ : Route) (u : Nat) (p : Option Addr) (q : Nat) (ab : Option Addr) (ac : Nat) (l : Option Addr) (a : Acts) (m : Nat) (z : Option Addr) (aa : Nat) (x : Option Addr) (y : Nat) (more : Spare) (ah : Option Addr) (x54 : List Spare) (ai : Nat) (aj : Option Addr) (x60 : List Bool) (ak : Nat) (x112 : Bus) (bb : Option Addr) (a8 : ((List Int) × Bool)) (bf : Nat) : List Plc := [⟨(K5c13 s r_ u p q ab ac), some 28⟩, ⟨(K5c6 l a m z aa x y), some 50⟩, ⟨(K5c1 more), some 61⟩, ⟨(K5c12 s r_ u p q ah x54 ai), some 28⟩, ⟨(K5c5 l a m z aa aj x60 ak), some 50⟩, ⟨(K5c4 x112), none⟩, ⟨(K5c7 l a m bb a8 bf x y), some 50⟩, ⟨[], none⟩]
abbrev K5p34 (s : Option Addr) (r_ : Route) (u : Nat) (p : Option Addr) (q : Nat) (ab : Option Addr) (ac : Nat) (l : Option Addr) (a : Acts) (m : Nat) (z : Option Addr) (aa : Nat) (x : Option Addr) (y : Nat) (more : Spare) (ah : Option Addr) (x54 : List Spare) (ai : Nat) (aj : Option Addr) (x60 : List Bool) (ak : Nat) (x112 : Bus) (bd : Option Addr) (a9 : ((List Int) × Bool)) (bh : Nat) : List Plc := [⟨(K5c13 s r_ u p q ab ac), some 28⟩, ⟨(K5c6 l a m z aa x y), some 50⟩, ⟨(K5c1 more), some 61⟩, ⟨(K5c12 s r_ u p q ah x54 ai), some 28⟩, ⟨(K5c5 l a m z aa aj x60 ak), some 50⟩, ⟨(K5c4 x112), none⟩, ⟨(K5c8 l a m bd a9 bh x y), some 50⟩, ⟨[], none⟩]
abbrev K5r35 (ah : Option Addr) (x54 : List Spare) (ai : Nat) (al : List Value) (ap : Option Addr) (aq : Nat) (ao : List Value) (aj : Option Addr) (x60 : List Bool) (ak : Nat) (am : List Value) (an ba : Option Addr) (x122 : List Int) (be : Nat) (bo : List Value) : List Row := [⟨ah, x54.length, ai, 61, 2, al, (al : List Value).length⟩, ⟨ap, 1, aq, 61, 2, ao, 0⟩, ⟨aj, x60.length, ak, 4, 1, (am ++ ([.bool true] : List Value)), ((am ++ ([.bool true] : List Value)) : List Value).length⟩, ⟨an, 1, 1, 4, 1, ([.bool true] : List Value), 0⟩, ⟨ba, x122.length, be, 3, 1, bo, 0⟩]
abbrev K5r36 (ah : Option Addr) (x54 : List Spare) (ai : Nat) (al : List Value) (ap : Option Addr) (aq : Nat) (ao : List Value) (aj : Option Addr) (x60 : List Bool) (ak : Nat) (am : List Value) (an bc : Option Addr) (x122 : List Int) (bg : Nat) (bp : List Value) : List Row := [⟨ah, x54.length, ai, 61, 2, al, (al : List Value).length⟩, ⟨ap, 1, aq, 61, 2, ao, 0⟩, ⟨aj, x60.length, ak, 4, 1, (am ++ ([.bool true] : List Value)), ((am ++ ([.bool true] : List Value)) : List Value).length⟩, ⟨an, 1, 1, 4, 1, ([.bool true] : List Value), 0⟩, ⟨bc, x122.length, bg, 3, 1, bp, 0⟩]
abbrev K5r37 (ah : Option Addr) (x54 : List Spare) (ai : Nat) (al : List Value) (ap : Option Addr) (aq : Nat) (ao : List Value) (aj : Option Addr) (x60 : List Bool) (ak : Nat) (am : List Value) (an bb : Option Addr) (a8 : ((List Int) × Bool)) (bf : Nat) (c1 : List Value) : List Row := [⟨ah, x54.length, ai, 61, 2, al, (al : List Value).length⟩, ⟨ap, 1, aq, 61, 2, ao, 0⟩, ⟨aj, x60.length, ak, 4, 1, (am ++ ([.bool true] : List Value)), ((am ++ ([.bool true] : List Value)) : List Value).length⟩, ⟨an, 1, 1, 4, 1, ([.bool true] : List Value), 0⟩, ⟨bb, a8.1.length, bf, 3, 1, c1, (c1 : List Value).length⟩]
abbrev K5r38 (ah : Option Addr) (x54 : List Spare) (ai : Nat) (al : List Value) (ap : Option Addr) (aq : Nat) (ao : List Value) (aj : Option Addr) (x60 : List Bool) (ak : Nat) (am : List Value) (an bd : Option Addr) (a9 : ((List Int) × Bool)) (bh : Nat) (c2 : List Value) : List Row := [⟨ah, x54.length, ai, 61, 2, al, (al : List Value).length⟩, ⟨ap, 1, aq, 61, 2, ao, 0⟩, ⟨aj, x60.length, ak, 4, 1, (am ++ ([.bool true] : List Value)), ((am ++ ([.bool true] : List Value)) : List Value).length⟩, ⟨an, 1, 1, 4, 1, ([.bool true] : List Value), 0⟩, ⟨bd, a9.1.length, bh, 3, 1, c2, (c2 : List Value).length⟩]
abbrev K5m39 (at_ where_ : IK .u8) : TM := [(tP 6 1 0), (tP 5 0 0), (3, .one (.c (.int .u8 at_.n))), (4, .one (.c (.int .u8 where_.n)))]
abbrev K5m40 (x112 : Bus) (where_ : IK .u8) (af : Option Addr) (x34 : (List Int) × Int) (ag : Nat) : TM := [(tI 19 (IntKind.i64.wrap (x112.stop + (Int.tmod (IntKind.i64.wrap where_.n) 4)))), (tS 11 af x34.1.length ag), (tP 5 0 0)]
abbrev K5m41 (x112 : Bus) (where_ at_ : IK .u8) (r_ : Route) (af : Option Addr) (x34 : (List Int) × Int) (ag : Nat) : TM := [(tI 19 (IntKind.i64.wrap (x112.stop + (Int.tmod (IntKind.i64.wrap where_.n) 4)))), (tI 18 (Int.tmod (IntKind.i64.wrap at_.n) ((r_.buses.length : Nat) : Int))), (tS 11 af x34.1.length ag), (tP 6 1 0), (tP 5 0 0)]
abbrev K5m42 (s : Option Addr) (r_ : Route) (u : Nat) (p : Option Addr) (q : Nat) (ab : Option Addr) (ac : Nat) (af : Option Addr) (x34 : (List Int) × Int) (ag : Nat) (at_ where_ : IK .u8) : TM := (tA 46 (K5c13 s r_ u p q ab ac)) :: (tS 11 af x34.1.length ag) :: (tP 7 2 0) :: (K5m39 at_ where_)
abbrev K5m43 (af : Option Addr) (x34 : (List Int) × Int) (ag : Nat) (at_ where_ : IK .u8) : TM := (tS 11 af x34.1.length ag) :: (K5m39 at_ where_)
abbrev K5m44 (at_ : IK .u8) (r_ : Route) (p : Option Addr) (q : Nat) (af : Option Addr) (x34 : (List Int) × Int) (ag : Nat) (where_ : IK .u8) : TM := [(tI 111 (Int.tmod (IntKind.i64.wrap at_.n) ((r_.buses.length : Nat) : Int))), (tS 110 p r_.buses.length q), (tI 18 (Int.tmod (IntKind.i64.wrap at_.n) ((r_.buses.length : Nat) : Int))), (tS 11 af x34.1.length ag), (tP 6 1 0), (tP 5 0 0), (4, .one (.c (.int .u8 where_.n)))]
abbrev K5m45 (c3 : Option Addr) (x51 : List Spare) (c4 : Nat) (x : Option Addr) (a : Acts) (y : Nat) (more : Spare) (af : Option Addr) (x34 : (List Int) × Int) (ag : Nat) (at_ where_ : IK .u8) (cf : Option Addr) : TM := [(tS 51 c3 x51.length c4), (tS 57 x a.spares.length y), (tA 52 (K5c1 more)), (tP 14 4 0), (tP 13 3 0), (tS 11 af x34.1.length ag), (tP 6 1 0), (tP 5 0 0), (3, .one (.c (.int .u8 at_.n))), (4, .one (.c (.int .u8 where_.n))), (tS 53 cf 1 1)]
abbrev K5m46 (bz : Option Addr) (x51 : List Spare) (b1 : Nat) (more : Spare) (af : Option Addr) (x34 : (List Int) × Int) (ag : Nat) (at_ where_ : IK .u8) (cg : Option Addr) : TM := [(tS 51 bz x51.length b1), (tP 56 1 2), (tA 52 (K5c1 more)), (tP 14 4 0), (tP 13 3 0), (tS 11 af x34.1.length ag), (tP 6 1 0), (tP 5 0 0), (3, .one (.c (.int .u8 at_.n))), (4, .one (.c (.int .u8 where_.n))), (tS 53 cg 1 1)]
abbrev K5m47 (r_ : Route) (at_ : IK .u8) (af : Option Addr) (x34 : (List Int) × Int) (ag : Nat) (where_ : IK .u8) : TM := [(tI 107 ((r_.buses.length : Nat) : Int)), (tI 104 (IntKind.i64.wrap at_.n)), (tS 11 af x34.1.length ag), (tP 6 1 0), (tP 5 0 0), (4, .one (.c (.int .u8 where_.n)))]
set_option maxRecDepth 100000 in
set_option maxHeartbeats 4000000 in
theorem law_ControlSpare_ok (n : Nat) {h : Heap} {w : World} (hh : Has h w) (r_ : Route) {cs_r_ : List Value} (hx_r_ : rep h r_ cs_r_) (a : Acts) {cs_a : List Value} (hx_a : rep h a cs_a) (more : Spare) {cs_more : List Value} (hx_more : rep h more cs_more) (at_ : IK .u8) (where_ : IK .u8) {r : Bool} (H : law_ControlSpare n r_ a more at_ where_ = some r) :
  Calls Try.prog 5 #[.agg cs_r_.toArray, .agg cs_a.toArray, .agg cs_more.toArray, .int .u8 at_.n, .int .u8 where_.n] w (Ret (fun h v => v = .bool r) h w) := by
 obtain ⟨_, _, rfl, ⟨s, u, rfl, aw⟩, ⟨_, _, rfl, ⟨_, _, rfl, rfl, rfl⟩, ⟨_, _, rfl, ⟨p, q, rfl, ar⟩, ⟨_, _, rfl, ⟨ab, ac, rfl, au⟩, ⟨_, _, rfl, rfl, ⟨_, _, rfl, rfl, ⟨_, _, rfl, rfl, rfl⟩⟩⟩⟩⟩⟩⟩ := hx_r_
 obtain ⟨_, _, rfl, ⟨l, m, rfl, av⟩, ⟨_, _, rfl, ⟨z, aa, rfl, a4⟩, ⟨x, y, rfl, az⟩⟩⟩ := hx_a
 obtain ⟨_, _, rfl, rfl, rfl⟩ := hx_more
 refine enter 181 [.agg (K5c13 s r_ u p q ab ac), .agg (K5c6 l a m z aa x y), .agg (K5c1 more), .c (.int .u8 at_.n), .c (.int .u8 where_.n)] Try.func5 rfl rfl rfl rfl fun t hk => ?_
 have hm := Mem.begin h w hh
 unfold law_ControlSpare at H
 refine wp_seq (wp_region_from (wl fun K hK => ?_))
 refine wb (.agg (K5c13 s r_ u p q ab ac)) hk hm fun d aeb af7 (v5 : Kn 181 [(d, 0)] [(tP 5 0 0), (tA 0 (K5c13 s r_ u p q ab ac)), (tA 1 (K5c6 l a m z aa x y)), (tA 2 (K5c1 more)), (3, .one (.c (.int .u8 at_.n))), (4, .one (.c (.int .u8 where_.n)))] aeb) (aa0 : Mem ⟨w, h, noX⟩ h [(d, 0)] [⟨(K5c13 s r_ u p q ab ac), some 28⟩] [] af7) => hK _ _ ?_
 refine wl fun K hK => ?_
 refine wb (.agg (K5c6 l a m z aa x y)) v5 aa0 fun f aee agb (wj : Kn 181 [(d, 0), (f, 0)] [(tP 6 1 0), (tP 5 0 0), (tA 0 (K5c13 s r_ u p q ab ac)), (tA 1 (K5c6 l a m z aa x y)), (tA 2 (K5c1 more)), (3, .one (.c (.int .u8 at_.n))), (4, .one (.c (.int .u8 where_.n)))] aee) (aa1 : Mem ⟨w, h, noX⟩ h [(d, 0), (f, 0)] [⟨(K5c13 s r_ u p q ab ac), some 28⟩, ⟨(K5c6 l a m z aa x y), some 50⟩] [] agb) => hK _ _ ?_
 refine wl fun K hK => ?_
 refine wb (.agg (K5c1 more)) wj aa1 fun g aeh agc (ws : Kn 181 [(d, 0), (f, 0), (g, 0)] [(tP 7 2 0), (tP 6 1 0), (tP 5 0 0), (tA 0 (K5c13 s r_ u p q ab ac)), (tA 1 (K5c6 l a m z aa x y)), (tA 2 (K5c1 more)), (3, .one (.c (.int .u8 at_.n))), (4, .one (.c (.int .u8 where_.n)))] aeh) (kl : Mem ⟨w, h, noX⟩ h [(d, 0), (f, 0), (g, 0)] [⟨(K5c13 s r_ u p q ab ac), some 28⟩, ⟨(K5c6 l a m z aa x y), some 50⟩, ⟨(K5c1 more), some 61⟩] [] agc) => hK _ _ ?_
 refine Rk 3 1 ((tP 7 2 0) :: (K5m39 at_ where_)) ws kl fun ai6 wx => ?_
 refine wf (wp_seq (wp_seq (wp_region_from (Rk 0 2 ((tA 25 (K5c6 l a m z aa x y)) :: (tA 24 (K5c13 s r_ u p q ab ac)) :: (tP 7 2 0) :: (K5m39 at_ where_)) wx kl fun ai9 w1 => ?_))))
 obtain ⟨x26, ex26, H⟩ := bnd H
 refine wl fun K hK => ?_
 refine wc [.agg (K5c13 s r_ u p q ab ac), .agg (K5c6 l a m z aa x y)] w1 kl (law_ready_ok n kl.has r_ ((rep_pair (rep_slice aw) (rep_pair (rep_pair rep_int rep_int) (rep_pair (rep_slice ar) (rep_pair (rep_slice au) (rep_pair rep_int (rep_pair rep_int (rep_pair rep_int rep_int))))))) : rep h r_ _) a ((rep_pair (rep_slice av) (rep_pair (rep_slice a4) (rep_slice az))) : rep h a _) ex26) fun ak5 tn al3 si f7 dy => ?_
 replace aw := aw.mono f7
 replace ar := ar.mono f7
 replace au := au.mono f7
 replace av := av.mono f7
 replace a4 := a4.mono f7
 replace az := az.mono f7
 obtain rfl := si
 refine ⟨.one (.c (.bool x26)), rfl, fun aeo (xk : Kn 181 [(d, 0), (f, 0), (g, 0)] ((tB 26 x26) :: (tA 25 (K5c6 l a m z aa x y)) :: (tA 24 (K5c13 s r_ u p q ab ac)) :: (tP 7 2 0) :: (K5m39 at_ where_)) aeo) => hK _ _ ?_⟩
 refine Rk 3 1 ((tB 27 (!x26)) :: (tP 7 2 0) :: (K5m39 at_ where_)) xk dy fun ajn l0 => ?_
 refine wf (wC ((!x26)) l0 (fun lg => ?_) (fun lg => ?_))
 ·
  rw [lg, cond_true] at H
  refine wp_seq (wp_region_from ?_)
  obtain ⟨x28, ex28, H⟩ := bnd H
  refine wl fun K hK => ?_
  refine wc [] l0 dy (law_awake_ok n dy.has  ex28) fun ak8 ahj al4 sk ahw p3 => ?_
  obtain rfl := sk
  refine ⟨.one (.c (.bool x28)), rfl, fun aeu (x3 : Kn 181 [(d, 0), (f, 0), (g, 0)] ((tB 28 x28) :: (tB 27 (!x26)) :: (tP 7 2 0) :: (K5m39 at_ where_)) aeu) => hK _ _ ?_⟩
  refine Rk 1 1 [(tB 10 x28)] x3 p3 fun aju x5 => ?_
  refine wf (wp_ret ?_)
  obtain rfl := Option.some.inj H
  exact rt (.one (.c (.bool x28))) x5 p3 rfl
 ·
  rw [lg, cond_false] at H
  refine wp_skip (wp_seq (wp_region_G (by kernel_rfl) ?_))
  replace dy := dy.drew
  refine wpG_of_D [] [(d, 0), (f, 0), (g, 0)] [⟨(K5c13 s r_ u p q ab ac), some 28⟩, ⟨(K5c6 l a m z aa x y), some 50⟩, ⟨(K5c1 more), some 61⟩] ?_
  refine Dr [0, 2] [2, 0] ((tA 32 (K5c6 l a m z aa x y)) :: (tA 30 (K5c13 s r_ u p q ab ac)) :: (tP 7 2 0) :: (K5m39 at_ where_)) l0 dy fun ajv x9 => ?_
  obtain ⟨x31, ex31, H⟩ := bnd H
  refine Dl 1 fun K hK => ?_
  refine wc [.agg (K5c13 s r_ u p q ab ac)] x9 dy (law_Route_ok n dy.has r_ ((rep_pair (rep_slice aw) (rep_pair (rep_pair rep_int rep_int) (rep_pair (rep_slice ar) (rep_pair (rep_slice au) (rep_pair rep_int (rep_pair rep_int (rep_pair rep_int rep_int))))))) : rep tn r_ _) ex31) fun ale tq amc ss f8 mr => ?_
  replace av := av.mono f8
  replace a4 := a4.mono f8
  replace az := az.mono f8
  obtain ⟨_, rfl, ⟨_, _, rfl, ⟨eb, e5, rfl, m6⟩, ⟨_, _, rfl, ⟨_, _, rfl, rfl, rfl⟩, ⟨_, _, rfl, ⟨ec, e6, rfl, m7⟩, ⟨_, _, rfl, ⟨ed, e7, rfl, m8⟩, ⟨_, _, rfl, rfl, ⟨_, _, rfl, rfl, ⟨_, _, rfl, rfl, rfl⟩⟩⟩⟩⟩⟩⟩⟩ := ss
  refine ⟨.one (.agg (K5c14 eb x31 e5 ec e6 ed e7)), rfl, fun ae7 (za : Kn 181 [(d, 0), (f, 0), (g, 0)] ((tA 31 (K5c14 eb x31 e5 ec e6 ed e7)) :: (tA 32 (K5c6 l a m z aa x y)) :: (tA 30 (K5c13 s r_ u p q ab ac)) :: (tP 7 2 0) :: (K5m39 at_ where_)) ae7) => hK _ _ mr.plOk ?_⟩
  obtain ⟨x33, ex33, H⟩ := bnd H
  refine Dl 3 fun K hK => ?_
  refine wc [.agg (K5c6 l a m z aa x y)] za mr (law_Acts_ok n mr.has a ((rep_pair (rep_slice av) (rep_pair (rep_slice a4) (rep_slice az))) : rep tq a _) ex33) fun alj oy amg sw dg mv => ?_
  replace m6 := m6.mono dg
  replace m7 := m7.mono dg
  replace m8 := m8.mono dg
  obtain ⟨_, rfl, ⟨_, _, rfl, ⟨ia, jc, rfl, ab3⟩, ⟨_, _, rfl, ⟨ib, jd, rfl, ab7⟩, ⟨ih, jh, rfl, ab8⟩⟩⟩⟩ := sw
  refine ⟨.one (.agg [.slice ia x33.holds.length jc, .slice ib x33.turns.length jd, .slice ih x33.spares.length jh]), rfl, fun afe (z0 : Kn 181 [(d, 0), (f, 0), (g, 0)] ((tA 33 [.slice ia x33.holds.length jc, .slice ib x33.turns.length jd, .slice ih x33.spares.length jh]) :: (tA 31 (K5c14 eb x31 e5 ec e6 ed e7)) :: (tA 32 (K5c6 l a m z aa x y)) :: (tA 30 (K5c13 s r_ u p q ab ac)) :: (tP 7 2 0) :: (K5m39 at_ where_)) afe) => hK _ _ mv.plOk ?_⟩
  obtain ⟨x34, ex34, H⟩ := bnd H
  refine Dl 4 fun K hK => ?_
  refine wc [.agg (K5c14 eb x31 e5 ec e6 ed e7), .agg [.slice ia x33.holds.length jc, .slice ib x33.turns.length jd, .slice ih x33.spares.length jh]] z0 mv (control_Worst_ok n mv.has x31 ((rep_pair (rep_slice m6) (rep_pair (rep_pair rep_int rep_int) (rep_pair (rep_slice m7) (rep_pair (rep_slice m8) (rep_pair rep_int (rep_pair rep_int (rep_pair rep_int rep_int))))))) : rep oy x31 _) x33 ((rep_pair (rep_slice ab3) (rep_pair (rep_slice ab7) (rep_slice ab8))) : rep oy x33 _) ex34) fun alq o1 amo s4 f9 dx => ?_
  replace aw := aw.mono (Heap.le_trans (Heap.le_trans f8 dg) f9)
  replace ar := ar.mono (Heap.le_trans (Heap.le_trans f8 dg) f9)
  replace au := au.mono (Heap.le_trans (Heap.le_trans f8 dg) f9)
  replace av := av.mono (Heap.le_trans dg f9)
  replace a4 := a4.mono (Heap.le_trans dg f9)
  replace az := az.mono (Heap.le_trans dg f9)
  obtain ⟨_, _, rfl, ⟨af, ag, rfl, a7⟩, rfl⟩ := s4
  refine ⟨.tup [.c (.slice af x34.1.length ag), .c (.int .i64 x34.2)], rfl, fun adg (u2 : Kn 181 [(d, 0), (f, 0), (g, 0)] ((34, .tup [.c (.slice af x34.1.length ag), .c (.int .i64 x34.2)]) :: (tA 33 [.slice ia x33.holds.length jc, .slice ib x33.turns.length jd, .slice ih x33.spares.length jh]) :: (tA 31 (K5c14 eb x31 e5 ec e6 ed e7)) :: (tA 32 (K5c6 l a m z aa x y)) :: (tA 30 (K5c13 s r_ u p q ab ac)) :: (tP 7 2 0) :: (K5m39 at_ where_)) adg) => hK _ _ dx.plOk ?_⟩
  refine Dr [5, 6, 7, 8, 9] [9, 8, 7, 6, 5, 4, 3, 1, 2, 0] ((tI 12 x34.2) :: (tS 11 af x34.1.length ag) :: (tP 7 2 0) :: (K5m39 at_ where_)) u2 dx fun ait u4 => ?_
  refine wpD_end (by kernel_rfl) (wp_seq (wp_seq ?_))
  obtain ⟨qw, f5, H⟩ := bnd H
  refine wp_mid' (fun a' w' => ∃ (nl : Array Value) (b4 : Heap), a' = ⟨nl, []⟩ ∧ Kn 181 [(d, 0), (f, 0), (g, 0)] [(tS 11 af x34.1.length ag), (tP 7 2 0), (tP 6 1 0), (tP 5 0 0), (3, .one (.c (.int .u8 at_.n))), (4, .one (.c (.int .u8 where_.n))), (tB 45 qw)] nl ∧ Mem ⟨w, h, noX⟩ b4 [(d, 0), (f, 0), (g, 0)] [⟨(K5c13 s r_ u p q ab ac), some 28⟩, ⟨(K5c6 l a m z aa x y), some 50⟩, ⟨(K5c1 more), some 61⟩] [] w' ∧ Heap.le o1 b4) ?_ ?_
  ·
   refine wp_region_from (Rk 0 3 ((tB 39 (x34.2 != 0)) :: (tS 11 af x34.1.length ag) :: (tP 7 2 0) :: (K5m39 at_ where_)) u4 dx fun q9 o4 => ?_)
   rcases Bool.eq_false_or_eq_true ((x34.2 != 0)) with gz | gz
   ·
    rw [gz, cond_true] at f5
    have va : Kn 181 [(d, 0), (f, 0), (g, 0)] ((tB 39 true) :: (tS 11 af x34.1.length ag) :: (tP 7 2 0) :: (K5m39 at_ where_)) q9 := (o4.setB 39 true (by rfl) gz).kp
    refine Rk 3 6 ((tB 45 true) :: (tS 11 af x34.1.length ag) :: (tP 7 2 0) :: (K5m39 at_ where_)) va dx fun aiu vc => ?_
    refine wf ?_
    obtain rfl := Option.some.inj f5
    exact Exists.intro _ ⟨_, rfl, vc.kp, dx, (Heap.le_refl _)⟩
   ·
    rw [gz, cond_false] at f5
    have vd : Kn 181 [(d, 0), (f, 0), (g, 0)] ((tB 39 false) :: (tS 11 af x34.1.length ag) :: (tP 7 2 0) :: (K5m39 at_ where_)) q9 := (o4.setB 39 false (by rfl) gz).kp
    refine Rk 3 3 ((tA 42 (K5c13 s r_ u p q ab ac)) :: (tI 41 ((x34.1.length : Nat) : Int)) :: (tB 39 false) :: (tS 11 af x34.1.length ag) :: (tP 7 2 0) :: (K5m39 at_ where_)) vd dx fun aiv o5 => ?_
    obtain ⟨x43, ex43, f5⟩ := bnd f5
    refine wpFrom_loud _ rfl (wantedS_sound o5 (by kernel_rfl)) fun K hK => ?_
    refine wc [.agg (K5c13 s r_ u p q ab ac)] o5 dx (ref_Stops_ok n dx.has r_ ((rep_pair (rep_slice aw) (rep_pair (rep_pair rep_int rep_int) (rep_pair (rep_slice ar) (rep_pair (rep_slice au) (rep_pair rep_int (rep_pair rep_int (rep_pair rep_int rep_int))))))) : rep o1 r_ _) ex43) fun ak0 ahh als sc aal pq => ?_
    obtain rfl := sc
    refine ⟨.one (.c (.int .i64 x43)), rfl, fun adx (vi : Kn 181 [(d, 0), (f, 0), (g, 0)] ((tI 43 x43) :: (tA 42 (K5c13 s r_ u p q ab ac)) :: (tI 41 ((x34.1.length : Nat) : Int)) :: (tB 39 false) :: (tS 11 af x34.1.length ag) :: (tP 7 2 0) :: (K5m39 at_ where_)) adx) => hK _ _ ?_⟩
    refine Rk 7 2 ((tB 45 (((x34.1.length : Nat) : Int) != x43)) :: (tS 11 af x34.1.length ag) :: (tP 7 2 0) :: (K5m39 at_ where_)) vi pq fun aiw vm => ?_
    refine wf ?_
    obtain rfl := Option.some.inj f5
    exact Exists.intro _ ⟨_, rfl, vm.kp, pq, aal⟩
  ·
   rintro _ rk ⟨nl, b4, rfl, ls, ga, fg⟩
   replace aw := aw.mono fg
   replace ar := ar.mono fg
   replace au := au.mono fg
   replace av := av.mono fg
   replace a4 := a4.mono fg
   replace az := az.mono fg
   replace a7 := a7.mono fg
   refine wC (qw) ls (fun k9 => ?_) (fun k9 => ?_)
   ·
    rw [k9, cond_true] at H
    refine wp_seq (wp_region_from (Rk 0 1 [(tB 10 false)] ls ga fun aix vy => ?_))
    refine wf (wp_ret ?_)
    obtain rfl := Option.some.inj H
    exact rt (.one (.c (.bool false))) vy ga rfl
   ·
    rw [k9, cond_false] at H
    refine wp_skip (wp_seq (wp_region_G (by kernel_rfl) ?_))
    replace ga := ga.drew
    refine wpG_of_D [1] [(d, 0), (f, 0), (g, 0)] [⟨(K5c13 s r_ u p q ab ac), some 28⟩, ⟨(K5c6 l a m z aa x y), some 50⟩, ⟨(K5c1 more), some 61⟩] ?_
    refine Dr [0] [0] (K5m42 s r_ u p q ab ac af x34 ag at_ where_) ls ga fun ra vz => ?_
    have v0 : Kn 181 [(d, 0), (f, 0), (g, 0), (0, 0)] (K5m42 s r_ u p q ab ac af x34 ag at_ where_) ra := vz.push (0, 0) (by kernel_rfl)
    have aau : Mem ⟨w, h, noX⟩ b4 [(d, 0), (f, 0), (g, 0), (0, 0)] [⟨(K5c13 s r_ u p q ab ac), some 28⟩, ⟨(K5c6 l a m z aa x y), some 50⟩, ⟨(K5c1 more), some 61⟩, ⟨[], none⟩] [] (World.drew rk) := ga.addPlc (b := 0) (o := 0) (cs := []) (fun j c hj => by simp at hj) rfl (by kernel_rfl) (by kernel_rfl)
    refine D_ext (e' := [(d, 0), (f, 0), (g, 0), (0, 0)]) (pl' := [⟨(K5c13 s r_ u p q ab ac), some 28⟩, ⟨(K5c6 l a m z aa x y), some 50⟩, ⟨(K5c1 more), some 61⟩, ⟨[], none⟩]) (fun _ hp => hp.pop (Nat.le_of_eq rfl) (by kernel_rfl)) ?_
    have lu : Kn 181 [(d, 0), (f, 0), (g, 0), (0, 0), (0, 0)] (K5m42 s r_ u p q ab ac af x34 ag at_ where_) ra := v0.push (0, 0) (by kernel_rfl)
    have gb : Mem ⟨w, h, noX⟩ b4 [(d, 0), (f, 0), (g, 0), (0, 0), (0, 0)] [⟨(K5c13 s r_ u p q ab ac), some 28⟩, ⟨(K5c6 l a m z aa x y), some 50⟩, ⟨(K5c1 more), some 61⟩, ⟨[], none⟩, ⟨[], none⟩] [] (World.drew rk) := aau.addPlc (b := 0) (o := 0) (cs := []) (fun j c hj => by simp at hj) rfl (by kernel_rfl) (by kernel_rfl)
    refine D_ext (e' := [(d, 0), (f, 0), (g, 0), (0, 0), (0, 0)]) (pl' := [⟨(K5c13 s r_ u p q ab ac), some 28⟩, ⟨(K5c6 l a m z aa x y), some 50⟩, ⟨(K5c1 more), some 61⟩, ⟨[], none⟩, ⟨[], none⟩]) (fun _ hp => hp.pop (Nat.le_of_eq rfl) (by kernel_rfl)) ?_
    refine D_share (fun W => ∀ (ad : Nat), ∀ (ae : Nat), ∀ a' w', (∃ (k0 : Array Value) (ca : Heap), a' = ⟨k0, []⟩ ∧ Kn 181 (K5e3 d f g ad ae) ((tP 14 4 0) :: (tP 13 3 0) :: (tA 47 (K5c6 l a m z aa x y)) :: (tS 11 af x34.1.length ag) :: (tP 7 2 0) :: (K5m39 at_ where_)) k0 ∧ Mem ⟨w, h, noX⟩ ca (K5e3 d f g ad ae) [⟨(K5c13 s r_ u p q ab ac), some 28⟩, ⟨(K5c6 l a m z aa x y), some 50⟩, ⟨(K5c1 more), some 61⟩, ⟨(K5c13 s r_ u p q ab ac), some 28⟩, ⟨K5c2, some 50⟩] [] w' ∧ Heap.le b4 ca) → W (K5e3 d f g ad ae) (K5p26 s r_ u p q ab ac l a m z aa x y more) [1, 4, 2, 3, 0] a' w') ?_ (fun qv => ?_)
    ·
     intro ad ae
     rintro _ alx ⟨k0, ca, rfl, v1, aav, fh⟩
     replace aw := aw.mono fh
     replace ar := ar.mono fh
     replace au := au.mono fh
     replace av := av.mono fh
     replace a4 := a4.mono fh
     replace az := az.mono fh
     replace a7 := a7.mono fh
     refine D_sync 5 rfl (by kernel_rfl) (by decide) (rfl) (by kernel_rfl) fun K hK => ?_
     refine wst 4 0 (.agg (K5c6 l a m z aa x y)) (K5c6 l a m z aa x y) v1 aav fun h0 v2 (kg : Mem ⟨w, h, noX⟩ ca (K5e3 d f g ad ae) (K5p29 s r_ u p q ab ac l a m z aa x y more) [] h0) => hK _ _ ?_
     refine wpG_of_D [1] (K5e3 d f g ad ae) (K5p28 s r_ u p q ab ac l a m z aa x y more) ?_
     have v3 : Kn 181 (K5e3 d f g ad ae) ((tP 14 4 0) :: (tP 13 3 0) :: (tS 11 af x34.1.length ag) :: (tP 7 2 0) :: (K5m39 at_ where_)) k0 := v2.kp
     refine wpD_end (by kernel_rfl) (wp_seq (wp_region_G (by kernel_rfl) ?_))
     replace kg := kg.drew
     refine wpG_of_D [9] (K5e3 d f g ad ae) (K5p28 s r_ u p q ab ac l a m z aa x y more) ?_
     refine D_run [1, 2, 4, 8] [8, 4, 2, 1] [56, 52, 50, 14, 13, 11, 6, 5, 3, 4] ((tP 56 1 2) :: (tA 52 (K5c1 more)) :: (tS 50 ab r_.spares.length ac) :: (tP 14 4 0) :: (tP 13 3 0) :: (K5m43 af x34 ag at_ where_)) (fun _ _ _ _ _ h => h) v3 (PlOk.forget [3] kg.plOk) (by kernel_rfl) (by rfl) (by kernel_rfl) fun aiy v4 => ?_
     obtain ⟨x51, ex51, H⟩ := bnd H
     obtain ⟨x54, ex54, H⟩ := bnd H
     obtain ⟨x58, ex58, H⟩ := bnd H
     obtain ⟨x60, ex60, H⟩ := bnd H
     have aaw : Mem ⟨w, h, noX⟩ ca (K5e3 d f g ad ae) (K5p29 s r_ u p q ab ac l a m z aa x y more) [⟨none, 0, 0, 61, 2, [], 0⟩] (World.drew h0) := kg.nilRow 61 2
     have aax : Mem ⟨w, h, noX⟩ ca (K5e3 d f g ad ae) (K5p29 s r_ u p q ab ac l a m z aa x y more) [⟨none, 0, 0, 61, 2, [], 0⟩, ⟨none, 0, 0, 61, 2, [], 0⟩] (World.drew h0) := aaw.nilRow 61 2
     have aay : Mem ⟨w, h, noX⟩ ca (K5e3 d f g ad ae) (K5p29 s r_ u p q ab ac l a m z aa x y more) [⟨none, 0, 0, 61, 2, [], 0⟩, ⟨none, 0, 0, 61, 2, [], 0⟩, ⟨none, 0, 0, 4, 1, [], 0⟩] (World.drew h0) := aax.nilRow 4 1
     have aaz : Mem ⟨w, h, noX⟩ ca (K5e3 d f g ad ae) (K5p29 s r_ u p q ab ac l a m z aa x y more) [⟨none, 0, 0, 61, 2, [], 0⟩, ⟨none, 0, 0, 61, 2, [], 0⟩, ⟨none, 0, 0, 4, 1, [], 0⟩, ⟨none, 0, 0, 4, 1, [], 0⟩] (World.drew h0) := aay.nilRow 4 1
     refine D_share (FlT 181 ⟨w, h, noX⟩ (K5e3 d f g ad ae) (K5p29 s r_ u p q ab ac l a m z aa x y more) (K5p28 s r_ u p q ab ac l a m z aa x y more) [] [⟨11, 59, 4, 1, 1, [.bool true]⟩] [10, 7, 9, 13, 6, 5, 3, 0, 8, 4, 2, 1] (fun mm js rw => ∃ (ah : Option Addr) (ai : Nat) (al : List Value) (ap : Option Addr) (aq : Nat) (ao : List Value) (d4 : Option Addr) (ey : Nat) (am : List Value), mm = ((tS 58 d4 x58.length ey) :: (tP 61 3 4) :: (tS 54 ah x54.length ai) :: (tP 14 4 0) :: (tP 13 3 0) :: (K5m43 af x34 ag at_ where_)) ∧ rw = [⟨ah, x54.length, ai, 61, 2, al, 0⟩, ⟨ap, 1, aq, 61, 2, ao, 0⟩, ⟨d4, x58.length, ey, 4, 1, am, 0⟩] ∧ Heap.le ca js ∧ Cells js x54 al ∧ Cells js ([more] : List Spare) ao ∧ Cells js x58 am)) ?_ (fun ada => ?_)
     ·
      refine key_float (D_float [(12, [true])] ?_ (fun _ _ _ hm => PlOk.forget [3] hm.plOk) (by kernel_rfl) (by kernel_rfl) ⟨?_, trivial⟩)
      ·
       rintro _ _ _ ⟨ah, ai, al, ap, aq, ao, d4, ey, am, rfl, rfl, _, _, _, _⟩
       exact ⟨⟨⟨_, _, _, rfl, rfl, rfl, rfl, rfl, by rfl, by rfl, by rfl, rfl, by kernel_rfl⟩, trivial⟩, by kernel_rfl⟩
      ·
       intro ag7 ahg aec fb aig aip af6 te r2 ql sb hd kh
       obtain ⟨od, rfl⟩ := len1 te
       obtain ⟨an, rfl⟩ := len1 r2
       obtain rfl : od = true := by cases od <;> first | rfl | exact (Bool.false_ne_true ql).elim
       obtain ⟨ah, ai, al, ap, aq, ao, d4, ey, am, rfl, rfl, fi, bk, bn, uf⟩ := sb
       replace hd := hd.req [true] (by kernel_rfl) ql rfl
       have bl : Cells fb ([true] : List Bool) ([.bool true] : List Value) := ⟨_, _, rfl, (rep_bool : rep fb (true : Bool) _), rfl⟩
       replace hd : Kn 181 (K5e3 d f g ad ae) ([(tS 58 d4 x58.length ey), (tP 61 3 4), (tS 54 ah x54.length ai), (tP 14 4 0), (tP 13 3 0), (tS 11 af x34.1.length ag), (tP 6 1 0), (tP 5 0 0), (3, .one (.c (.int .u8 at_.n))), (4, .one (.c (.int .u8 where_.n))), (tS 59 an 1 1)] ++ flM [⟨11, 59, 4, 1, 1, [.bool true]⟩] [true] [an]) aec := hd
       replace kh : Mem ⟨w, h, noX⟩ fb (K5e3 d f g ad ae) (K5p29 s r_ u p q ab ac l a m z aa x y more) [⟨ah, x54.length, ai, 61, 2, al, 0⟩, ⟨ap, 1, aq, 61, 2, ao, 0⟩, ⟨d4, x58.length, ey, 4, 1, am, 0⟩, ⟨an, 1, 1, 4, 1, ([.bool true] : List Value), 0⟩] af6 := kh
       refine ⟨_, rfl, rfl, fun K hK => ?_⟩
       obtain ⟨ni, aag⟩ := app_some ex60
       refine wp_append 2 1 1 _ (x60.length) _ ([.bool true] : List Value) hd kh rfl rfl (by decide) rfl (by rfl) (by kernel_rfl) (by rfl) (by rfl) (Cells.len bl) (kh.rowCell (i := 3) rfl) bl.one (by rw [ni]; simp) (by rw [ni]; exact aag) (by decide) fun aj ak oo rb af8 uz (v6 : Kn 181 (K5e3 d f g ad ae) ([(tS 60 aj x60.length ak), (tS 58 d4 x58.length ey), (tP 61 3 4), (tS 54 ah x54.length ai), (tP 14 4 0), (tP 13 3 0), (tS 11 af x34.1.length ag), (tP 6 1 0), (tP 5 0 0), (3, .one (.c (.int .u8 at_.n))), (4, .one (.c (.int .u8 where_.n))), (tS 59 an 1 1)] ++ flM [⟨11, 59, 4, 1, 1, [.bool true]⟩] [true] [an]) rb) (px : Mem ⟨w, h, noX⟩ fb (K5e3 d f g ad ae) (K5p29 s r_ u p q ab ac l a m z aa x y more) [⟨ah, x54.length, ai, 61, 2, al, 0⟩, ⟨ap, 1, aq, 61, 2, ao, 0⟩, ⟨aj, x60.length, ak, 4, 1, (am ++ ([.bool true] : List Value)), oo⟩, ⟨an, 1, 1, 4, 1, ([.bool true] : List Value), 0⟩] af8) => ?_
       have bm : Cells fb x60 (am ++ ([.bool true] : List Value)) := by rw [ni]; exact Cells.append uf bl
       obtain rfl : oo = 0 := Nat.le_zero.1 uz
       refine hK _ _ (PlOk.forget [3] px.plOk) ?_
       have v7 : Kn 181 (K5e3 d f g ad ae) ((tS 60 aj x60.length ak) :: (tP 61 3 4) :: (tS 54 ah x54.length ai) :: (tP 14 4 0) :: (tP 13 3 0) :: (K5m43 af x34 ag at_ where_)) rb := v6.kp
       refine D_sync 14 rfl (by kernel_rfl) (by decide) (rfl) (by kernel_rfl) fun K hK => ?_
       refine wst 3 4 (.c (.slice ah x54.length ai)) (K5c12 s r_ u p q ah x54 ai) v7 px fun af9 v8 (py : Mem ⟨w, h, noX⟩ fb (K5e3 d f g ad ae) [⟨(K5c13 s r_ u p q ab ac), some 28⟩, ⟨(K5c6 l a m z aa x y), some 50⟩, ⟨(K5c1 more), some 61⟩, ⟨(K5c12 s r_ u p q ah x54 ai), some 28⟩, ⟨(K5c6 l a m z aa x y), some 50⟩] [⟨ah, x54.length, ai, 61, 2, al, 0⟩, ⟨ap, 1, aq, 61, 2, ao, 0⟩, ⟨aj, x60.length, ak, 4, 1, (am ++ ([.bool true] : List Value)), 0⟩, ⟨an, 1, 1, 4, 1, ([.bool true] : List Value), 0⟩] af9) => hK _ _ ?_
       refine wpG_of_D [9] (K5e3 d f g ad ae) (K5p28 s r_ u p q ab ac l a m z aa x y more) ?_
       refine D_run [15] [15, 14, 12, 11, 10, 7, 9, 13, 6, 5, 3, 0, 8, 4, 2, 1] [62, 60, 14, 13, 11, 6, 5, 3, 4] ((tP 62 4 2) :: (tS 60 aj x60.length ak) :: (tP 14 4 0) :: (tP 13 3 0) :: (K5m43 af x34 ag at_ where_)) (fun _ _ _ _ _ h => h) v8 (PlOk.forget [3] py.plOk) (by kernel_rfl) (by rfl) (by kernel_rfl) fun aed v9 => ?_
       refine D_sync 16 rfl (by kernel_rfl) (by decide) (rfl) (by kernel_rfl) fun K hK => ?_
       refine wst 4 2 (.c (.slice aj x60.length ak)) (K5c5 l a m z aa aj x60 ak) v9 py fun n4 wd (me : Mem ⟨w, h, noX⟩ fb (K5e3 d f g ad ae) (K5p30 s r_ u p q ab ac l a m z aa x y more ah x54 ai aj x60 ak) [⟨ah, x54.length, ai, 61, 2, al, 0⟩, ⟨ap, 1, aq, 61, 2, ao, 0⟩, ⟨aj, x60.length, ak, 4, 1, (am ++ ([.bool true] : List Value)), 0⟩, ⟨an, 1, 1, 4, 1, ([.bool true] : List Value), 0⟩] n4) => hK _ _ ?_
       refine wpG_of_D [9] (K5e3 d f g ad ae) [⟨(K5c13 s r_ u p q ab ac), some 28⟩, ⟨(K5c6 l a m z aa x y), some 50⟩, ⟨(K5c1 more), some 61⟩, ⟨[], some 28⟩, ⟨(K5c5 l a m z aa aj x60 ak), some 50⟩] ?_
       have we : Kn 181 (K5e3 d f g ad ae) ((tP 14 4 0) :: (tP 13 3 0) :: (K5m43 af x34 ag at_ where_)) aed := wd.kp
       refine wpD_end (by kernel_rfl) (wp_seq (wp_seq (wp_region_from (Rk 0 2 ((tA 64 (K5c5 l a m z aa aj x60 ak)) :: (tA 63 (K5c12 s r_ u p q ah x54 ai)) :: (tP 14 4 0) :: (tP 13 3 0) :: (K5m43 af x34 ag at_ where_)) we me fun aiz wg => ?_))))
       obtain ⟨ou, c5, ab9, ki⟩ := me.settle (i := 0) rfl
       replace bk := bk.mono c5
       replace ki : Mem ⟨w, h, noX⟩ ou (K5e3 d f g ad ae) (K5p30 s r_ u p q ab ac l a m z aa x y more ah x54 ai aj x60 ak) [⟨ah, x54.length, ai, 61, 2, al, (al : List Value).length⟩, ⟨ap, 1, aq, 61, 2, ao, 0⟩, ⟨aj, x60.length, ak, 4, 1, (am ++ ([.bool true] : List Value)), 0⟩, ⟨an, 1, 1, 4, 1, ([.bool true] : List Value), 0⟩] n4 := ki
       have bi : RepS ou ah ai x54 := ⟨_, bk, ab9, me.rowCap (i := 0) rfl⟩
       obtain ⟨jt, cz, aca, kj⟩ := ki.settle (i := 2) rfl
       replace aw := aw.mono (Heap.le_trans (Heap.le_trans fi c5) cz)
       replace ar := ar.mono (Heap.le_trans (Heap.le_trans fi c5) cz)
       replace av := av.mono (Heap.le_trans (Heap.le_trans fi c5) cz)
       replace a4 := a4.mono (Heap.le_trans (Heap.le_trans fi c5) cz)
       replace bi := bi.mono cz
       replace bm := bm.mono (Heap.le_trans c5 cz)
       replace kj : Mem ⟨w, h, noX⟩ jt (K5e3 d f g ad ae) (K5p30 s r_ u p q ab ac l a m z aa x y more ah x54 ai aj x60 ak) (K5r31 ah x54 ai al ap aq ao aj x60 ak am an) n4 := kj
       have bj : RepS jt aj ak x60 := ⟨_, bm, aca, ki.rowCap (i := 2) rfl⟩
       obtain ⟨x65, ex65, H⟩ := bnd H
       refine wl fun K hK => ?_
       refine wc [.agg (K5c12 s r_ u p q ah x54 ai), .agg (K5c5 l a m z aa aj x60 ak)] wg kj (law_ready_ok n kj.has (Route.mk r_.legs r_.turn r_.buses x54 r_.unit r_.gap r_.fr r_.to_) ((rep_pair (rep_slice aw) (rep_pair (rep_pair rep_int rep_int) (rep_pair (rep_slice ar) (rep_pair (rep_slice bi) (rep_pair rep_int (rep_pair rep_int (rep_pair rep_int rep_int))))))) : rep jt (Route.mk r_.legs r_.turn r_.buses x54 r_.unit r_.gap r_.fr r_.to_) _) (Acts.mk a.holds a.turns x60) ((rep_pair (rep_slice av) (rep_pair (rep_slice a4) (rep_slice bj))) : rep jt (Acts.mk a.holds a.turns x60) _) ex65) fun ak1 ju aga sd cl c0 => ?_
       replace aw := aw.mono cl
       replace ar := ar.mono cl
       replace au := au.mono (Heap.le_trans (Heap.le_trans (Heap.le_trans fi c5) cz) cl)
       replace av := av.mono cl
       replace a4 := a4.mono cl
       replace az := az.mono (Heap.le_trans (Heap.le_trans (Heap.le_trans fi c5) cz) cl)
       replace a7 := a7.mono (Heap.le_trans (Heap.le_trans (Heap.le_trans fi c5) cz) cl)
       replace bi := bi.mono cl
       replace bj := bj.mono cl
       replace bk := bk.mono (Heap.le_trans cz cl)
       replace bn := bn.mono (Heap.le_trans (Heap.le_trans c5 cz) cl)
       replace bm := bm.mono cl
       replace bl := bl.mono (Heap.le_trans (Heap.le_trans c5 cz) cl)
       obtain rfl := sd
       refine ⟨.one (.c (.bool x65)), rfl, fun rc (wh : Kn 181 (K5e3 d f g ad ae) ((tB 65 x65) :: (tA 64 (K5c5 l a m z aa aj x60 ak)) :: (tA 63 (K5c12 s r_ u p q ah x54 ai)) :: (tP 14 4 0) :: (tP 13 3 0) :: (K5m43 af x34 ag at_ where_)) rc) => hK _ _ ?_⟩
       have lv : Kn 181 (K5e3 d f g ad ae) ((tB 65 x65) :: (tP 14 4 0) :: (tP 13 3 0) :: (K5m43 af x34 ag at_ where_)) rc := wh.kp
       refine wf (wC (x65) lv (fun la => ?_) (fun la => ?_))
       ·
        rw [la, cond_true] at H
        refine wp_seq (wp_region_G (by kernel_rfl) ?_)
        replace c0 := c0.drew
        refine wpG_of_D [] (K5e3 d f g ad ae) (K5p30 s r_ u p q ab ac l a m z aa x y more ah x54 ai aj x60 ak) ?_
        refine Dr [0, 2] [2, 0] ((tA 69 (K5c5 l a m z aa aj x60 ak)) :: (tA 67 (K5c12 s r_ u p q ah x54 ai)) :: (K5m43 af x34 ag at_ where_)) lv c0 fun ai0 wi => ?_
        obtain ⟨x68, ex68, H⟩ := bnd H
        refine Dl 1 fun K hK => ?_
        refine wc [.agg (K5c12 s r_ u p q ah x54 ai)] wi c0 (law_Route_ok n c0.has (Route.mk r_.legs r_.turn r_.buses x54 r_.unit r_.gap r_.fr r_.to_) ((rep_pair (rep_slice aw) (rep_pair (rep_pair rep_int rep_int) (rep_pair (rep_slice ar) (rep_pair (rep_slice bi) (rep_pair rep_int (rep_pair rep_int (rep_pair rep_int rep_int))))))) : rep ju (Route.mk r_.legs r_.turn r_.buses x54 r_.unit r_.gap r_.fr r_.to_) _) ex68) fun ak2 tk aly se cm mf => ?_
        replace av := av.mono cm
        replace a4 := a4.mono cm
        replace bj := bj.mono cm
        obtain ⟨_, rfl, ⟨_, _, rfl, ⟨d5, ez, rfl, m0⟩, ⟨_, _, rfl, ⟨_, _, rfl, rfl, rfl⟩, ⟨_, _, rfl, ⟨d6, e0, rfl, m1⟩, ⟨_, _, rfl, ⟨d7, e1, rfl, m2⟩, ⟨_, _, rfl, rfl, ⟨_, _, rfl, rfl, ⟨_, _, rfl, rfl, rfl⟩⟩⟩⟩⟩⟩⟩⟩ := se
        refine ⟨.one (.agg (K5c15 d5 x68 ez d6 e0 d7 e1)), rfl, fun aef (wk : Kn 181 (K5e3 d f g ad ae) ((tA 68 (K5c15 d5 x68 ez d6 e0 d7 e1)) :: (tA 69 (K5c5 l a m z aa aj x60 ak)) :: (tA 67 (K5c12 s r_ u p q ah x54 ai)) :: (K5m43 af x34 ag at_ where_)) aef) => hK _ _ mf.plOk ?_⟩
        obtain ⟨x70, ex70, H⟩ := bnd H
        refine Dl 3 fun K hK => ?_
        refine wc [.agg (K5c5 l a m z aa aj x60 ak)] wk mf (law_Acts_ok n mf.has (Acts.mk a.holds a.turns x60) ((rep_pair (rep_slice av) (rep_pair (rep_slice a4) (rep_slice bj))) : rep tk (Acts.mk a.holds a.turns x60) _) ex70) fun ak3 ov alz sf b7 mg => ?_
        replace m0 := m0.mono b7
        replace m1 := m1.mono b7
        replace m2 := m2.mono b7
        obtain ⟨_, rfl, ⟨_, _, rfl, ⟨h4, i6, rfl, abv⟩, ⟨_, _, rfl, ⟨h5, i7, rfl, abw⟩, ⟨h6, i8, rfl, abx⟩⟩⟩⟩ := sf
        refine ⟨.one (.agg [.slice h4 x70.holds.length i6, .slice h5 x70.turns.length i7, .slice h6 x70.spares.length i8]), rfl, fun aeg (wm : Kn 181 (K5e3 d f g ad ae) ((tA 70 [.slice h4 x70.holds.length i6, .slice h5 x70.turns.length i7, .slice h6 x70.spares.length i8]) :: (tA 68 (K5c15 d5 x68 ez d6 e0 d7 e1)) :: (tA 69 (K5c5 l a m z aa aj x60 ak)) :: (tA 67 (K5c12 s r_ u p q ah x54 ai)) :: (K5m43 af x34 ag at_ where_)) aeg) => hK _ _ mg.plOk ?_⟩
        obtain ⟨x71, ex71, H⟩ := bnd H
        refine Dl 4 fun K hK => ?_
        refine wc [.agg (K5c15 d5 x68 ez d6 e0 d7 e1), .agg [.slice h4 x70.holds.length i6, .slice h5 x70.turns.length i7, .slice h6 x70.spares.length i8]] wm mg (control_Worst_ok n mg.has x68 ((rep_pair (rep_slice m0) (rep_pair (rep_pair rep_int rep_int) (rep_pair (rep_slice m1) (rep_pair (rep_slice m2) (rep_pair rep_int (rep_pair rep_int (rep_pair rep_int rep_int))))))) : rep ov x68 _) x70 ((rep_pair (rep_slice abv) (rep_pair (rep_slice abw) (rep_slice abx))) : rep ov x70 _) ex71) fun ak4 tl al0 sg cn fn => ?_
        replace aw := aw.mono (Heap.le_trans (Heap.le_trans cm b7) cn)
        replace ar := ar.mono (Heap.le_trans (Heap.le_trans cm b7) cn)
        replace au := au.mono (Heap.le_trans (Heap.le_trans cm b7) cn)
        replace av := av.mono (Heap.le_trans b7 cn)
        replace a4 := a4.mono (Heap.le_trans b7 cn)
        replace az := az.mono (Heap.le_trans (Heap.le_trans cm b7) cn)
        replace a7 := a7.mono (Heap.le_trans (Heap.le_trans cm b7) cn)
        replace bi := bi.mono (Heap.le_trans (Heap.le_trans cm b7) cn)
        replace bj := bj.mono (Heap.le_trans b7 cn)
        replace bk := bk.mono (Heap.le_trans (Heap.le_trans cm b7) cn)
        replace bn := bn.mono (Heap.le_trans (Heap.le_trans cm b7) cn)
        replace bm := bm.mono (Heap.le_trans (Heap.le_trans cm b7) cn)
        replace bl := bl.mono (Heap.le_trans (Heap.le_trans cm b7) cn)
        obtain ⟨_, _, rfl, ⟨bu, bv, rfl, hs⟩, rfl⟩ := sg
        refine ⟨.tup [.c (.slice bu x71.1.length bv), .c (.int .i64 x71.2)], rfl, fun aei (wn : Kn 181 (K5e3 d f g ad ae) ((71, .tup [.c (.slice bu x71.1.length bv), .c (.int .i64 x71.2)]) :: (tA 70 [.slice h4 x70.holds.length i6, .slice h5 x70.turns.length i7, .slice h6 x70.spares.length i8]) :: (tA 68 (K5c15 d5 x68 ez d6 e0 d7 e1)) :: (tA 69 (K5c5 l a m z aa aj x60 ak)) :: (tA 67 (K5c12 s r_ u p q ah x54 ai)) :: (K5m43 af x34 ag at_ where_)) aei) => hK _ _ fn.plOk ?_⟩
        refine Dr [5, 6, 7, 8, 9] [9, 8, 7, 6, 5, 4, 3, 1, 2, 0] ((tI 16 x71.2) :: (tS 15 bu x71.1.length bv) :: (K5m43 af x34 ag at_ where_)) wn fn fun ai1 wo => ?_
        refine wpD_end (by kernel_rfl) (wp_seq (wp_seq ?_))
        obtain ⟨qx, ji, H⟩ := bnd H
        refine wp_mid' (fun a' w' => ∃ (nr : Array Value) (gs : Heap), a' = ⟨nr, []⟩ ∧ Kn 181 (K5e3 d f g ad ae) [(tS 15 bu x71.1.length bv), (tS 11 af x34.1.length ag), (tP 6 1 0), (tP 5 0 0), (3, .one (.c (.int .u8 at_.n))), (4, .one (.c (.int .u8 where_.n))), (tB 82 qx)] nr ∧ Mem ⟨w, h, noX⟩ gs (K5e3 d f g ad ae) (K5p30 s r_ u p q ab ac l a m z aa x y more ah x54 ai aj x60 ak) (K5r31 ah x54 ai al ap aq ao aj x60 ak am an) w' ∧ Heap.le tl gs) ?_ ?_
        ·
         refine wp_region_from (Rk 0 3 ((tB 76 (x71.2 != 0)) :: (tS 15 bu x71.1.length bv) :: (K5m43 af x34 ag at_ where_)) wo fn fun rd pa => ?_)
         rcases Bool.eq_false_or_eq_true ((x71.2 != 0)) with g0 | g0
         ·
          rw [g0, cond_true] at ji
          have wp : Kn 181 (K5e3 d f g ad ae) ((tB 76 true) :: (tS 15 bu x71.1.length bv) :: (K5m43 af x34 ag at_ where_)) rd := (pa.setB 76 true (by rfl) g0).kp
          refine Rk 3 6 ((tB 82 true) :: (tS 15 bu x71.1.length bv) :: (K5m43 af x34 ag at_ where_)) wp fn fun ai2 wq => ?_
          refine wf ?_
          obtain rfl := Option.some.inj ji
          exact Exists.intro _ ⟨_, rfl, wq.kp, fn, (Heap.le_refl _)⟩
         ·
          rw [g0, cond_false] at ji
          have wr : Kn 181 (K5e3 d f g ad ae) ((tB 76 false) :: (tS 15 bu x71.1.length bv) :: (K5m43 af x34 ag at_ where_)) rd := (pa.setB 76 false (by rfl) g0).kp
          refine Rk 3 6 ((tB 82 (((x71.1.length : Nat) : Int) != ((x34.1.length : Nat) : Int))) :: (tS 15 bu x71.1.length bv) :: (K5m43 af x34 ag at_ where_)) wr fn fun ai3 wt => ?_
          refine wf ?_
          obtain rfl := Option.some.inj ji
          exact Exists.intro _ ⟨_, rfl, wt.kp, fn, (Heap.le_refl _)⟩
        ·
         rintro _ al1 ⟨nr, gs, rfl, lw, kk, ci⟩
         replace aw := aw.mono ci
         replace ar := ar.mono ci
         replace au := au.mono ci
         replace av := av.mono ci
         replace a4 := a4.mono ci
         replace az := az.mono ci
         replace a7 := a7.mono ci
         replace bi := bi.mono ci
         replace bj := bj.mono ci
         replace hs := hs.mono ci
         replace bk := bk.mono ci
         replace bn := bn.mono ci
         replace bm := bm.mono ci
         replace bl := bl.mono ci
         refine wC (qx) lw (fun lb => ?_) (fun lb => ?_)
         ·
          rw [lb, cond_true] at H
          refine wp_seq (wp_region_from (Rk 0 1 [(tB 10 false)] lw kk fun ai4 wu => ?_))
          refine wf (wp_ret ?_)
          obtain rfl := Option.some.inj H
          exact rt (.one (.c (.bool false))) wu kk rfl
         ·
          rw [lb, cond_false] at H
          refine wp_skip (wp_seq (wp_region_from (Rk 0 1 ((tI 17 0) :: (tS 15 bu x71.1.length bv) :: (K5m43 af x34 ag at_ where_)) lw kk fun ai5 wv => ?_)))
          refine wf ?_
          obtain ⟨qy, oe, H⟩ := bnd H
          refine wp_mid' (fun a' w' => ∃ (q6 : Unit) (ns : Array Value) (f6 : Heap), a' = ⟨ns, []⟩ ∧ Kn 181 (K5e3 d f g ad ae) (K5m43 af x34 ag at_ where_) ns ∧ Mem ⟨w, h, noX⟩ f6 (K5e3 d f g ad ae) (K5p30 s r_ u p q ab ac l a m z aa x y more ah x54 ai aj x60 ak) (K5r31 ah x54 ai al ap aq ao aj x60 ak am an) w' ∧ Heap.le gs f6 ∧ qy = .go q6) ?_ ?_
          ·
           refine wp_block ?_
           refine wp_loop_n (fun adb a' w' => ∃ (x_v10 : Int) (nt : Array Value) (gu : Heap), a' = ⟨nt, []⟩ ∧ Kn 181 (K5e3 d f g ad ae) ((tI 17 x_v10) :: (tS 15 bu x71.1.length bv) :: (K5m43 af x34 ag at_ where_)) nt ∧ Mem ⟨w, h, noX⟩ gu (K5e3 d f g ad ae) (K5p30 s r_ u p q ab ac l a m z aa x y more ah x54 ai aj x60 ak) (K5r31 ah x54 ai al ap aq ao aj x60 ak am an) w' ∧ Heap.le gs gu ∧ law_ControlSpare_l1 adb x34 x71 x_v10 = some qy) n ?_ ?_
           ·
            exact Exists.intro 0 ⟨_, _, rfl, wv.kp, kk, (Heap.le_refl _), oe⟩
           ·
            rintro nk _ rl ⟨x_v10, nt, gu, rfl, ww, fo, j6, ch⟩
            clear oe
            obtain _ | nk := nk
            ·
             rw [law_ControlSpare_l1] at ch; cases ch
            rw [law_ControlSpare_l1] at ch
            replace a7 := a7.mono j6
            replace hs := hs.mono j6
            refine wp_seq (wp_seq (wp_region_from (Rk 0 4 ((tB 86 (decide (x_v10 < ((x71.1.length : Nat) : Int)))) :: (tI 17 x_v10) :: (tS 15 bu x71.1.length bv) :: (K5m43 af x34 ag at_ where_)) ww fo fun ai7 lx => ?_)))
            refine wf (wC (decide (x_v10 < ((x71.1.length : Nat) : Int))) lx (fun lc => ?_) (fun lc => ?_))
            ·
             rw [lc, cond_true] at ch
             refine wp_skip (wp_seq (wp_block (wp_seq (wp_region_G (by kernel_rfl) ?_))))
             replace fo := fo.drew
             refine wpG_of_D [] (K5e3 d f g ad ae) (K5p30 s r_ u p q ab ac l a m z aa x y more ah x54 ai aj x60 ak) ?_
             refine Dr [0, 1] [1, 0] ((tI 90 x_v10) :: (tS 89 bu x71.1.length bv) :: (tI 17 x_v10) :: (tS 15 bu x71.1.length bv) :: (K5m43 af x34 ag at_ where_)) lx fo fun ai8 wy => ?_
             obtain ⟨x91, ex91, ch⟩ := bnd ch
             obtain ⟨aa8, abl, acu⟩ := idx_some ex91
             obtain ⟨i0, kx, agn, ts, aci, ug⟩ := hs.get (by decide) acu
             obtain rfl := aci
             have mh : Mem ⟨w, h, noX⟩ gu [(d, 0), (f, 0), (g, 0), (ad, 0), (ae, 0), (i0, kx + (x_v10 : Int).toNat * 1)] [⟨(K5c13 s r_ u p q ab ac), some 28⟩, ⟨(K5c6 l a m z aa x y), some 50⟩, ⟨(K5c1 more), some 61⟩, ⟨(K5c12 s r_ u p q ah x54 ai), some 28⟩, ⟨(K5c5 l a m z aa aj x60 ak), some 50⟩, ⟨[.int .i64 x91], none⟩] (K5r31 ah x54 ai al ap aq ao aj x60 ak am an) (World.drew rl) := fo.addPlc (cs := [.int .i64 x91]) (fun j c hj => ug j _ (map_get hj)) rfl (by kernel_rfl) (by kernel_rfl)
             refine D_index 2 (x_v10) [.int .i64 x91] (fun _ _ _ _ _ h => h) rfl rfl (rfl) rfl (by decide) (by kernel_rfl) (by kernel_rfl) wy fo.plOk (by rfl) (by rfl) (by rfl) ts (by rfl) aa8 abl (by kernel_rfl) fun aej (wz : Kn 181 [(d, 0), (f, 0), (g, 0), (ad, 0), (ae, 0), (i0, kx + (x_v10 : Int).toNat * 1)] ((tP 91 5 0) :: (tI 90 x_v10) :: (tS 89 bu x71.1.length bv) :: (tI 17 x_v10) :: (tS 15 bu x71.1.length bv) :: (K5m43 af x34 ag at_ where_)) aej) => ?_
             refine Dr [3, 4, 5] (dn 5) ((tI 94 x_v10) :: (tS 93 af x34.1.length ag) :: (tI 92 x91) :: (tI 17 x_v10) :: (tS 15 bu x71.1.length bv) :: (K5m43 af x34 ag at_ where_)) wz mh fun aja w0 => ?_
             obtain ⟨x95, ex95, ch⟩ := bnd ch
             obtain ⟨aa9, abm, acv⟩ := idx_some ex95
             obtain ⟨n5, qz, ago, tt, acj, uh⟩ := a7.get (by decide) acv
             obtain rfl := acj
             have ho : Mem ⟨w, h, noX⟩ gu [(d, 0), (f, 0), (g, 0), (ad, 0), (ae, 0), (i0, kx + (x_v10 : Int).toNat * 1), (n5, qz + (x_v10 : Int).toNat * 1)] [⟨(K5c13 s r_ u p q ab ac), some 28⟩, ⟨(K5c6 l a m z aa x y), some 50⟩, ⟨(K5c1 more), some 61⟩, ⟨(K5c12 s r_ u p q ah x54 ai), some 28⟩, ⟨(K5c5 l a m z aa aj x60 ak), some 50⟩, ⟨[.int .i64 x91], none⟩, ⟨[.int .i64 x95], none⟩] (K5r31 ah x54 ai al ap aq ao aj x60 ak am an) (World.drew rl) := mh.addPlc (cs := [.int .i64 x95]) (fun j c hj => uh j _ (map_get hj)) rfl (by kernel_rfl) (by kernel_rfl)
             refine D_index 6 (x_v10) [.int .i64 x95] (fun _ _ _ _ _ h => h) rfl rfl (rfl) rfl (by decide) (by kernel_rfl) (by kernel_rfl) w0 mh.plOk (by rfl) (by rfl) (by rfl) tt (by rfl) aa9 abm (by kernel_rfl) fun aek (w2 : Kn 181 [(d, 0), (f, 0), (g, 0), (ad, 0), (ae, 0), (i0, kx + (x_v10 : Int).toNat * 1), (n5, qz + (x_v10 : Int).toNat * 1)] ((tP 95 6 0) :: (tI 94 x_v10) :: (tS 93 af x34.1.length ag) :: (tI 92 x91) :: (tI 17 x_v10) :: (tS 15 bu x71.1.length bv) :: (K5m43 af x34 ag at_ where_)) aek) => ?_
             refine Dr [7, 8] (dn 8) ((tB 97 (decide (x91 > x95))) :: (tI 17 x_v10) :: (tS 15 bu x71.1.length bv) :: (K5m43 af x34 ag at_ where_)) w2 ho fun ajb ly => ?_
             refine wpD_end (by kernel_rfl) (wC (decide (x91 > x95)) ly (fun ld => ?_) (fun ld => ?_))
             ·
              rw [ld, cond_true] at ch
              refine wp_seq (wp_region_from (Rk 0 1 [(tB 10 false)] ly ho fun ajc w3 => ?_))
              refine wf (wp_ret ?_)
              obtain rfl := Option.some.inj ch
              obtain rfl := Option.some.inj H
              exact rt (.one (.c (.bool false))) w3 ho rfl
             ·
              rw [ld, cond_false] at ch
              refine wp_skip (wp_region_from (Rk 0 3 ((tI 17 (IntKind.i64.wrap (x_v10 + 1))) :: (tS 15 bu x71.1.length bv) :: (K5m43 af x34 ag at_ where_)) ly ho fun ajd w4 => ?_))
              refine wf ?_
              exact Exists.intro nk ⟨Nat.lt_succ_self _, Exists.intro (IntKind.i64.wrap (x_v10 + 1)) ⟨_, _, rfl, ((w4.keep [17, 15, 11, 6, 5, 3, 4] (by rfl)).cut 5 (by kernel_rfl)), (ho.cutPl 5 (by kernel_rfl)), j6, ch⟩⟩
            ·
             rw [lc, cond_false] at ch
             refine wp_exit ?_
             obtain rfl := Option.some.inj ch
             exact Exists.intro () ⟨_, _, rfl, lx.kp, fo, j6, rfl⟩
          ·
           rintro _ agd ⟨q6, ns, f6, rfl, w5, fp, co, rfl⟩
           rw [Ex.bind_go] at H
           replace aw := aw.mono co
           replace ar := ar.mono co
           replace au := au.mono co
           replace av := av.mono co
           replace a4 := a4.mono co
           replace az := az.mono co
           replace a7 := a7.mono co
           replace bi := bi.mono co
           replace bj := bj.mono co
           replace bk := bk.mono co
           replace bn := bn.mono co
           replace bm := bm.mono co
           replace bl := bl.mono co
           refine wp_seq (wp_seq (wp_region_from (Rk 0 4 ((tB 101 (((r_.buses.length : Nat) : Int) == 0)) :: (K5m43 af x34 ag at_ where_)) w5 fp fun aje lz => ?_)))
           refine wf (wC ((((r_.buses.length : Nat) : Int) == 0)) lz (fun lf => ?_) (fun lf => ?_))
           ·
            rw [lf, cond_true] at H
            refine wp_seq (wp_region_from ?_)
            obtain ⟨x102, ex102, H⟩ := bnd H
            refine wl fun K hK => ?_
            refine wc [] lz fp (law_awake_ok n fp.has  ex102) fun ak6 ahi al2 sh ahv pz => ?_
            obtain rfl := sh
            refine ⟨.one (.c (.bool x102)), rfl, fun ael (w6 : Kn 181 (K5e3 d f g ad ae) ((tB 102 x102) :: (tB 101 (((r_.buses.length : Nat) : Int) == 0)) :: (K5m43 af x34 ag at_ where_)) ael) => hK _ _ ?_⟩
            refine Rk 1 1 [(tB 10 x102)] w6 pz fun ajf w7 => ?_
            refine wf (wp_ret ?_)
            obtain rfl := Option.some.inj H
            exact rt (.one (.c (.bool x102))) w7 pz rfl
           ·
            rw [lf, cond_false] at H
            refine wp_skip (wp_seq (wp_region_from (Rk 0 5 (K5m47 r_ at_ af x34 ag where_) lz fp fun ajg w8 => ?_)))
            obtain ⟨x108, ex108, H⟩ := bnd H
            refine R_rem 5 w8 rfl rfl (rfl) rfl (by decide) (by rfl) (by rfl) (nz_some ex108) fun aem (w9 : Kn 181 (K5e3 d f g ad ae) ((tI 108 (Int.tmod (IntKind.i64.wrap at_.n) ((r_.buses.length : Nat) : Int))) :: (K5m47 r_ at_ af x34 ag where_)) aem) => ?_
            refine Rk 6 1 [(tI 18 (Int.tmod (IntKind.i64.wrap at_.n) ((r_.buses.length : Nat) : Int))), (tS 11 af x34.1.length ag), (tP 6 1 0), (tP 5 0 0), (4, .one (.c (.int .u8 where_.n)))] w9 fp fun ajh xa => ?_
            refine wf (wp_seq (wp_region_from (Rk 0 3 (K5m44 at_ r_ p q af x34 ag where_) xa fp fun aji xb => ?_)))
            obtain ⟨x112, ex112, H⟩ := bnd H
            obtain ⟨aba, abn, acw⟩ := idx_some ex112
            obtain ⟨ax, a0, agp, tu, ack, ui⟩ := ar.get (by decide) acw
            obtain ⟨_, _, rfl, rfl, ⟨_, _, rfl, rfl, rfl⟩⟩ := ack
            have mi : Mem ⟨w, h, noX⟩ f6 [(d, 0), (f, 0), (g, 0), (ad, 0), (ae, 0), (ax, a0 + (Int.tmod (IntKind.i64.wrap at_.n) ((r_.buses.length : Nat) : Int) : Int).toNat * 3)] [⟨(K5c13 s r_ u p q ab ac), some 28⟩, ⟨(K5c6 l a m z aa x y), some 50⟩, ⟨(K5c1 more), some 61⟩, ⟨(K5c12 s r_ u p q ah x54 ai), some 28⟩, ⟨(K5c5 l a m z aa aj x60 ak), some 50⟩, ⟨(K5c4 x112), none⟩] (K5r31 ah x54 ai al ap aq ao aj x60 ak am an) agd := fp.addPlc (cs := (K5c4 x112)) (fun j c hj => ui j _ (map_get hj)) rfl (by kernel_rfl) (by kernel_rfl)
            refine R_index 3 (Int.tmod (IntKind.i64.wrap at_.n) ((r_.buses.length : Nat) : Int)) rfl rfl (rfl) rfl (by decide) xb (by rfl) (by rfl) (by rfl) tu (by rfl) aba abn (by kernel_rfl) fun aen (xc : Kn 181 [(d, 0), (f, 0), (g, 0), (ad, 0), (ae, 0), (ax, a0 + (Int.tmod (IntKind.i64.wrap at_.n) ((r_.buses.length : Nat) : Int) : Int).toNat * 3)] ((tP 112 5 0) :: (K5m44 at_ r_ p q af x34 ag where_)) aen) => ?_
            refine Rk 4 7 (K5m41 x112 where_ at_ r_ af x34 ag) xc mi fun ajj xd => ?_
            refine wf (wp_seq (wp_region_from (Rk 0 1 ((tA 119 (K5c6 l a m z aa x y)) :: (K5m41 x112 where_ at_ r_ af x34 ag)) xd mi fun ajk xe => ?_)))
            refine wl fun K hK => ?_
            refine wa K5c2 xe mi fun a2 re age (xf : Kn 181 (K5e10 d f g ad ae ax a0 at_ r_ a2) ((tP 20 6 0) :: (tA 119 (K5c6 l a m z aa x y)) :: (K5m41 x112 where_ at_ r_ af x34 ag)) re) (aa2 : Mem ⟨w, h, noX⟩ f6 (K5e10 d f g ad ae ax a0 at_ r_ a2) [⟨(K5c13 s r_ u p q ab ac), some 28⟩, ⟨(K5c6 l a m z aa x y), some 50⟩, ⟨(K5c1 more), some 61⟩, ⟨(K5c12 s r_ u p q ah x54 ai), some 28⟩, ⟨(K5c5 l a m z aa aj x60 ak), some 50⟩, ⟨(K5c4 x112), none⟩, ⟨K5c2, some 50⟩] (K5r31 ah x54 ai al ap aq ao aj x60 ak am an) age) => hK _ _ ?_
            refine wl fun K hK => ?_
            refine wst 6 0 (.agg (K5c6 l a m z aa x y)) (K5c6 l a m z aa x y) xf aa2 fun agf xg (mj : Mem ⟨w, h, noX⟩ f6 (K5e10 d f g ad ae ax a0 at_ r_ a2) (K5p32 s r_ u p q ab ac l a m z aa x y more ah x54 ai aj x60 ak x112) (K5r31 ah x54 ai al ap aq ao aj x60 ak am an) agf) => hK _ _ ?_
            have xh : Kn 181 (K5e10 d f g ad ae ax a0 at_ r_ a2) ((tP 20 6 0) :: (K5m41 x112 where_ at_ r_ af x34 ag)) re := xg.kp
            refine wf (wp_seq (wp_region_from (Rk 0 2 ((tS 121 z a.turns.length aa) :: (tP 20 6 0) :: (K5m41 x112 where_ at_ r_ af x34 ag)) xh mj fun ajl xi => ?_)))
            obtain ⟨x122, ex122, H⟩ := bnd H
            refine wl fun K hK => ?_
            refine wp_callO [.c (.slice z a.turns.length aa)] _ xi mj rfl rfl (by decide) (by rfl) rfl (fun _ _ => by kernel_rfl) (law_list_own n mj.has a.turns a4 ex122) fun ak7 de agh aiq sj cp km => ?_
            replace aw := aw.mono cp
            replace ar := ar.mono cp
            replace au := au.mono cp
            replace av := av.mono cp
            replace a4 := a4.mono cp
            replace az := az.mono cp
            replace a7 := a7.mono cp
            replace bi := bi.mono cp
            replace bj := bj.mono cp
            replace bk := bk.mono cp
            replace bn := bn.mono cp
            replace bm := bm.mono cp
            replace bl := bl.mono cp
            obtain ⟨ba, be, bo, rfl, rfl, j1⟩ := sj
            replace km : Mem ⟨w, h, noX⟩ de (K5e10 d f g ad ae ax a0 at_ r_ a2) (K5p32 s r_ u p q ab ac l a m z aa x y more ah x54 ai aj x60 ak x112) (K5r35 ah x54 ai al ap aq ao aj x60 ak am an ba x122 be bo) agh := km
            refine ⟨.one (.c (.slice ba x122.length be)), rfl, fun aep (xj : Kn 181 (K5e10 d f g ad ae ax a0 at_ r_ a2) ((tS 122 ba x122.length be) :: (tS 121 z a.turns.length aa) :: (tP 20 6 0) :: (K5m41 x112 where_ at_ r_ af x34 ag)) aep) => hK _ _ ?_⟩
            refine Rk 3 1 ((tP 123 6 1) :: (tS 122 ba x122.length be) :: (tP 20 6 0) :: (K5m41 x112 where_ at_ r_ af x34 ag)) xj km fun aeq xl => ?_
            refine wl fun K hK => ?_
            refine wst 6 1 (.c (.slice ba x122.length be)) [.slice l a.holds.length m, .slice ba x122.length be, .slice x a.spares.length y] xl km fun rm xm (ml : Mem ⟨w, h, noX⟩ de (K5e10 d f g ad ae ax a0 at_ r_ a2) [⟨(K5c13 s r_ u p q ab ac), some 28⟩, ⟨(K5c6 l a m z aa x y), some 50⟩, ⟨(K5c1 more), some 61⟩, ⟨(K5c12 s r_ u p q ah x54 ai), some 28⟩, ⟨(K5c5 l a m z aa aj x60 ak), some 50⟩, ⟨(K5c4 x112), none⟩, ⟨[.slice l a.holds.length m, .slice ba x122.length be, .slice x a.spares.length y], some 50⟩] (K5r35 ah x54 ai al ap aq ao aj x60 ak am an ba x122 be bo) rm) => hK _ _ ?_
            have xn : Kn 181 (K5e10 d f g ad ae ax a0 at_ r_ a2) ((tP 20 6 0) :: (K5m41 x112 where_ at_ r_ af x34 ag)) aeq := xm.kp
            refine wf (wp_seq (wp_region_from (Rk 0 4 ((tI 127 (IntKind.i64.wrap (x112.stop + (Int.tmod (IntKind.i64.wrap where_.n) 4)))) :: (tI 126 (Int.tmod (IntKind.i64.wrap at_.n) ((r_.buses.length : Nat) : Int))) :: (tS 125 ba x122.length be) :: (tP 20 6 0) :: (K5m41 x112 where_ at_ r_ af x34 ag)) xn ml fun ajm xo => ?_)))
            obtain ⟨x128, ex128, H⟩ := bnd H
            obtain ⟨qe, qm, acx⟩ := idx_some ex128
            have ma := lt_of_idx qe qm
            obtain ⟨agq, acl, uj⟩ := cells_get (sz := 1) rfl j1 acx
            obtain rfl := acl
            obtain ⟨a5, o2⟩ := row_addr ml (i := 4) rfl (b0 := 0 + (Int.tmod (IntKind.i64.wrap at_.n) ((r_.buses.length : Nat) : Int) : Int).toNat * 1) (Nat.lt_of_lt_of_le (Nat.lt_add_of_pos_right (by decide)) (cells_fit (sz := 1) rfl j1 ma))
            have aa3 : Mem ⟨w, h, noX⟩ de (K5e18 d f g ad ae ax a0 at_ r_ a2 a5) [⟨(K5c13 s r_ u p q ab ac), some 28⟩, ⟨(K5c6 l a m z aa x y), some 50⟩, ⟨(K5c1 more), some 61⟩, ⟨(K5c12 s r_ u p q ah x54 ai), some 28⟩, ⟨(K5c5 l a m z aa aj x60 ak), some 50⟩, ⟨(K5c4 x112), none⟩, ⟨[.slice l a.holds.length m, .slice ba x122.length be, .slice x a.spares.length y], some 50⟩, ⟨[], none⟩] (K5r35 ah x54 ai al ap aq ao aj x60 ak am an ba x122 be bo) rm := ml.addPlc (cs := []) (fun j c hj => by simp at hj) rfl (by kernel_rfl) (by kernel_rfl)
            have aht : ∀ (e : Env) k c, ([.int .i64 x128] : List SC)[k]? = some c → (bo)[0 + (Int.tmod (IntKind.i64.wrap at_.n) ((r_.buses.length : Nat) : Int) : Int).toNat * 1 + k]? = some (c.den e) := fun e k c hk => uj k _ (map_get hk)
            refine R_index 4 (Int.tmod (IntKind.i64.wrap at_.n) ((r_.buses.length : Nat) : Int)) rfl rfl (rfl) rfl (by decide) xo (by rfl) (by rfl) (by rfl) o2 (by rfl) qe qm (by kernel_rfl) fun nu (xp : Kn 181 (K5e18 d f g ad ae ax a0 at_ r_ a2 a5) ((tP 128 7 0) :: (tI 127 (IntKind.i64.wrap (x112.stop + (Int.tmod (IntKind.i64.wrap where_.n) 4)))) :: (tI 126 (Int.tmod (IntKind.i64.wrap at_.n) ((r_.buses.length : Nat) : Int))) :: (tS 125 ba x122.length be) :: (tP 20 6 0) :: (K5m41 x112 where_ at_ r_ af x34 ag)) nu) => ?_
            obtain ⟨cd, rq, H⟩ := bnd H
            obtain ⟨ah4, ah6, qo⟩ := upd_some rq
            refine wl fun K hK => ?_
            refine wp_storeRow 4 7 0 (0 + (Int.tmod (IntKind.i64.wrap at_.n) ((r_.buses.length : Nat) : Int) : Int).toNat * 1) (.c (.int .i64 (IntKind.i64.wrap (x112.stop + (Int.tmod (IntKind.i64.wrap where_.n) 4))))) xp aa3 rfl rfl (by rfl) (by rfl) rfl rfl o2 rfl (by kernel_rfl) (cells_fit (sz := 1) rfl j1 ma) fun k1 xq (aa4 : Mem ⟨w, h, noX⟩ de (K5e18 d f g ad ae ax a0 at_ r_ a2 a5) [⟨(K5c13 s r_ u p q ab ac), some 28⟩, ⟨(K5c6 l a m z aa x y), some 50⟩, ⟨(K5c1 more), some 61⟩, ⟨(K5c12 s r_ u p q ah x54 ai), some 28⟩, ⟨(K5c5 l a m z aa aj x60 ak), some 50⟩, ⟨(K5c4 x112), none⟩, ⟨[.slice l a.holds.length m, .slice ba x122.length be, .slice x a.spares.length y], some 50⟩, ⟨[], none⟩] [⟨ah, x54.length, ai, 61, 2, al, (al : List Value).length⟩, ⟨ap, 1, aq, 61, 2, ao, 0⟩, ⟨aj, x60.length, ak, 4, 1, (am ++ ([.bool true] : List Value)), ((am ++ ([.bool true] : List Value)) : List Value).length⟩, ⟨an, 1, 1, 4, 1, ([.bool true] : List Value), 0⟩, ⟨ba, x122.length, be, 3, 1, (bo.take (0 + (Int.tmod (IntKind.i64.wrap at_.n) ((r_.buses.length : Nat) : Int) : Int).toNat * 1 + 0) ++ ([.int .i64 (IntKind.i64.wrap (x112.stop + (Int.tmod (IntKind.i64.wrap where_.n) 4)))] : List Value) ++ bo.drop (0 + (Int.tmod (IntKind.i64.wrap at_.n) ((r_.buses.length : Nat) : Int) : Int).toNat * 1 + 0 + 1)), 0⟩] k1) => ?_
            have fc : Cells de cd (bo.take (0 + (Int.tmod (IntKind.i64.wrap at_.n) ((r_.buses.length : Nat) : Int) : Int).toNat * 1 + 0) ++ ([.int .i64 (IntKind.i64.wrap (x112.stop + (Int.tmod (IntKind.i64.wrap where_.n) 4)))] : List Value) ++ bo.drop (0 + (Int.tmod (IntKind.i64.wrap at_.n) ((r_.buses.length : Nat) : Int) : Int).toNat * 1 + 0 + 1)) := by rw [qo]; exact cells_set (sz := 1) rfl j1 ma (rep_int : rep de (IntKind.i64.wrap (x112.stop + (Int.tmod (IntKind.i64.wrap where_.n) 4)) : Int) _)
            have qc : x122.length = cd.length := by rw [qo]; simp
            have xr : Kn 181 [(d, 0), (f, 0), (g, 0), (ad, 0), (ae, 0), (ax, a0 + (Int.tmod (IntKind.i64.wrap at_.n) ((r_.buses.length : Nat) : Int) : Int).toNat * 3), (a2, 0), (a5, 0 + (Int.tmod (IntKind.i64.wrap at_.n) ((r_.buses.length : Nat) : Int) : Int).toNat * 1)] [(128, .one (.c (.ptr 7 0))), (127, .one (.c (.int .i64 (IntKind.i64.wrap (x112.stop + (Int.tmod (IntKind.i64.wrap where_.n) 4)))))), (126, .one (.c (.int .i64 (Int.tmod (IntKind.i64.wrap at_.n) ((r_.buses.length : Nat) : Int))))), (125, .one (.c (.slice ba cd.length be))), (20, .one (.c (.ptr 6 0))), (19, .one (.c (.int .i64 (IntKind.i64.wrap (x112.stop + (Int.tmod (IntKind.i64.wrap where_.n) 4)))))), (18, .one (.c (.int .i64 (Int.tmod (IntKind.i64.wrap at_.n) ((r_.buses.length : Nat) : Int))))), (11, .one (.c (.slice af x34.1.length ag))), (6, .one (.c (.ptr 1 0))), (5, .one (.c (.ptr 0 0)))] nu := by rw [← qc]; exact xq
            have p0 : Mem ⟨w, h, noX⟩ de [(d, 0), (f, 0), (g, 0), (ad, 0), (ae, 0), (ax, a0 + (Int.tmod (IntKind.i64.wrap at_.n) ((r_.buses.length : Nat) : Int) : Int).toNat * 3), (a2, 0), (a5, 0 + (Int.tmod (IntKind.i64.wrap at_.n) ((r_.buses.length : Nat) : Int) : Int).toNat * 1)] [⟨[.slice s r_.legs.length u, .int .i64 r_.turn.lo, .int .i64 r_.turn.hi, .slice p r_.buses.length q, .slice ab r_.spares.length ac, .int .i64 r_.unit, .int .i64 r_.gap, .int .i64 r_.fr, .int .i64 r_.to_], some 28⟩, ⟨[.slice l a.holds.length m, .slice z a.turns.length aa, .slice x a.spares.length y], some 50⟩, ⟨[.int .i64 more.stop, .int .i64 more.tm], some 61⟩, ⟨[.slice s r_.legs.length u, .int .i64 r_.turn.lo, .int .i64 r_.turn.hi, .slice p r_.buses.length q, .slice ah x54.length ai, .int .i64 r_.unit, .int .i64 r_.gap, .int .i64 r_.fr, .int .i64 r_.to_], some 28⟩, ⟨[.slice l a.holds.length m, .slice z a.turns.length aa, .slice aj x60.length ak], some 50⟩, ⟨[.int .i64 x112.stop, .int .i64 x112.tm.lo, .int .i64 x112.tm.hi], none⟩, ⟨[.slice l a.holds.length m, .slice ba cd.length be, .slice x a.spares.length y], some 50⟩, ⟨[], none⟩] [⟨ah, x54.length, ai, 61, 2, al, (al : List Value).length⟩, ⟨ap, 1, aq, 61, 2, ao, 0⟩, ⟨aj, x60.length, ak, 4, 1, (am ++ ([.bool true] : List Value)), ((am ++ ([.bool true] : List Value)) : List Value).length⟩, ⟨an, 1, 1, 4, 1, ([.bool true] : List Value), 0⟩, ⟨ba, cd.length, be, 3, 1, (bo.take (0 + (Int.tmod (IntKind.i64.wrap at_.n) ((r_.buses.length : Nat) : Int) : Int).toNat * 1 + 0) ++ ([.int .i64 (IntKind.i64.wrap (x112.stop + (Int.tmod (IntKind.i64.wrap where_.n) 4)))] : List Value) ++ bo.drop (0 + (Int.tmod (IntKind.i64.wrap at_.n) ((r_.buses.length : Nat) : Int) : Int).toNat * 1 + 0 + 1)), 0⟩] k1 := by rw [← qc]; exact aa4
            refine hK _ _ ?_
            have xs : Kn 181 (K5e18 d f g ad ae ax a0 at_ r_ a2 a5) ((tP 20 6 0) :: (K5m41 x112 where_ at_ r_ af x34 ag)) nu := xr.kp
            refine wf (wp_seq (wp_seq ?_))
            obtain ⟨a8, dv, H⟩ := bnd H
            refine wp_mid' (fun a' w' => ∃ (bb : Option Addr) (bf : Nat) (c1 : List Value) (op : Nat) (nv : Array Value) (gv : Heap), a' = ⟨nv, []⟩ ∧ Kn 181 (K5e18 d f g ad ae ax a0 at_ r_ a2 a5) [(tP 20 6 0), (tI 19 (IntKind.i64.wrap (x112.stop + (Int.tmod (IntKind.i64.wrap where_.n) 4)))), (tS 11 af x34.1.length ag), (tP 5 0 0), (tB 140 a8.2)] nv ∧ Mem ⟨w, h, noX⟩ gv (K5e18 d f g ad ae ax a0 at_ r_ a2 a5) (K5p33 s r_ u p q ab ac l a m z aa x y more ah x54 ai aj x60 ak x112 bb a8 bf) [⟨ah, x54.length, ai, 61, 2, al, (al : List Value).length⟩, ⟨ap, 1, aq, 61, 2, ao, 0⟩, ⟨aj, x60.length, ak, 4, 1, (am ++ ([.bool true] : List Value)), ((am ++ ([.bool true] : List Value)) : List Value).length⟩, ⟨an, 1, 1, 4, 1, ([.bool true] : List Value), 0⟩, ⟨bb, a8.1.length, bf, 3, 1, c1, op⟩] w' ∧ Heap.le de gv ∧ Cells gv a8.1 c1) ?_ ?_
            ·
             refine wp_region_from (Rk 0 3 ((tI 131 (Int.tmod (IntKind.i64.wrap at_.n) ((r_.buses.length : Nat) : Int))) :: (tS 130 z a.turns.length aa) :: (tP 20 6 0) :: (K5m40 x112 where_ af x34 ag)) xs p0 fun ajo xt => ?_)
             obtain ⟨x132, ex132, dv⟩ := bnd dv
             obtain ⟨abb, abo, acy⟩ := idx_some ex132
             obtain ⟨dk, dz, agr, tv, acm, uk⟩ := a4.get (by decide) acy
             obtain rfl := acm
             have gc : Mem ⟨w, h, noX⟩ de (K5e20 d f g ad ae ax a0 at_ r_ a2 a5 dk dz) [⟨(K5c13 s r_ u p q ab ac), some 28⟩, ⟨(K5c6 l a m z aa x y), some 50⟩, ⟨(K5c1 more), some 61⟩, ⟨(K5c12 s r_ u p q ah x54 ai), some 28⟩, ⟨(K5c5 l a m z aa aj x60 ak), some 50⟩, ⟨(K5c4 x112), none⟩, ⟨[.slice l a.holds.length m, .slice ba cd.length be, .slice x a.spares.length y], some 50⟩, ⟨[], none⟩, ⟨[.int .i64 x132], none⟩] [⟨ah, x54.length, ai, 61, 2, al, (al : List Value).length⟩, ⟨ap, 1, aq, 61, 2, ao, 0⟩, ⟨aj, x60.length, ak, 4, 1, (am ++ ([.bool true] : List Value)), ((am ++ ([.bool true] : List Value)) : List Value).length⟩, ⟨an, 1, 1, 4, 1, ([.bool true] : List Value), 0⟩, ⟨ba, cd.length, be, 3, 1, (bo.take (0 + (Int.tmod (IntKind.i64.wrap at_.n) ((r_.buses.length : Nat) : Int) : Int).toNat * 1 + 0) ++ ([.int .i64 (IntKind.i64.wrap (x112.stop + (Int.tmod (IntKind.i64.wrap where_.n) 4)))] : List Value) ++ bo.drop (0 + (Int.tmod (IntKind.i64.wrap at_.n) ((r_.buses.length : Nat) : Int) : Int).toNat * 1 + 0 + 1)), 0⟩] k1 := p0.addPlc (cs := [.int .i64 x132]) (fun j c hj => uk j _ (map_get hj)) rfl (by kernel_rfl) (by kernel_rfl)
             refine R_index 3 (Int.tmod (IntKind.i64.wrap at_.n) ((r_.buses.length : Nat) : Int)) rfl rfl (rfl) rfl (by decide) xt (by rfl) (by rfl) (by rfl) tv (by rfl) abb abo (by kernel_rfl) fun aer (xu : Kn 181 (K5e20 d f g ad ae ax a0 at_ r_ a2 a5 dk dz) ((tP 132 8 0) :: (tI 131 (Int.tmod (IntKind.i64.wrap at_.n) ((r_.buses.length : Nat) : Int))) :: (tS 130 z a.turns.length aa) :: (tP 20 6 0) :: (K5m40 x112 where_ af x34 ag)) aer) => ?_
             refine Rk 4 3 ((tB 135 (x132 != (-1))) :: (tP 20 6 0) :: (K5m40 x112 where_ af x34 ag)) xu gc fun rf pb => ?_
             rcases Bool.eq_false_or_eq_true ((x132 != (-1))) with g1 | g1
             ·
              rw [g1, cond_true] at dv
              have xv : Kn 181 (K5e20 d f g ad ae ax a0 at_ r_ a2 a5 dk dz) ((tB 135 true) :: (tP 20 6 0) :: (K5m40 x112 where_ af x34 ag)) rf := (pb.setB 135 true (by rfl) g1).kp
              refine Rk 7 5 ((tB 140 true) :: (tP 20 6 0) :: (K5m40 x112 where_ af x34 ag)) xv gc fun ajp xw => ?_
              refine wf ?_
              obtain rfl := Option.some.inj dv
              exact Exists.intro ba ⟨be, (bo.take (0 + (Int.tmod (IntKind.i64.wrap at_.n) ((r_.buses.length : Nat) : Int) : Int).toNat * 1 + 0) ++ ([.int .i64 (IntKind.i64.wrap (x112.stop + (Int.tmod (IntKind.i64.wrap where_.n) 4)))] : List Value) ++ bo.drop (0 + (Int.tmod (IntKind.i64.wrap at_.n) ((r_.buses.length : Nat) : Int) : Int).toNat * 1 + 0 + 1)), 0, _, _, rfl, ((xw.keep [20, 19, 11, 5, 140] (by rfl)).cut 8 (by kernel_rfl)), (gc.cutPl 8 (by kernel_rfl)), (Heap.le_refl _), fc⟩
             ·
              rw [g1, cond_false] at dv
              have xx : Kn 181 (K5e20 d f g ad ae ax a0 at_ r_ a2 a5 dk dz) ((tB 135 false) :: (tP 20 6 0) :: (K5m40 x112 where_ af x34 ag)) rf := (pb.setB 135 false (by rfl) g1).kp
              refine Rk 7 2 ((tA 137 [.slice l a.holds.length m, .slice ba cd.length be, .slice x a.spares.length y]) :: (tA 136 (K5c13 s r_ u p q ab ac)) :: (tB 135 false) :: (tP 20 6 0) :: (K5m40 x112 where_ af x34 ag)) xx gc fun ajq pc => ?_
              obtain ⟨jv, fj, acb, kn⟩ := gc.settle (i := 4) rfl
              replace aw := aw.mono fj
              replace ar := ar.mono fj
              replace au := au.mono fj
              replace av := av.mono fj
              replace az := az.mono fj
              replace fc := fc.mono fj
              replace kn : Mem ⟨w, h, noX⟩ jv (K5e20 d f g ad ae ax a0 at_ r_ a2 a5 dk dz) [⟨(K5c13 s r_ u p q ab ac), some 28⟩, ⟨(K5c6 l a m z aa x y), some 50⟩, ⟨(K5c1 more), some 61⟩, ⟨(K5c12 s r_ u p q ah x54 ai), some 28⟩, ⟨(K5c5 l a m z aa aj x60 ak), some 50⟩, ⟨(K5c4 x112), none⟩, ⟨[.slice l a.holds.length m, .slice ba cd.length be, .slice x a.spares.length y], some 50⟩, ⟨[], none⟩, ⟨[.int .i64 x132], none⟩] [⟨ah, x54.length, ai, 61, 2, al, (al : List Value).length⟩, ⟨ap, 1, aq, 61, 2, ao, 0⟩, ⟨aj, x60.length, ak, 4, 1, (am ++ ([.bool true] : List Value)), ((am ++ ([.bool true] : List Value)) : List Value).length⟩, ⟨an, 1, 1, 4, 1, ([.bool true] : List Value), 0⟩, ⟨ba, cd.length, be, 3, 1, (bo.take (0 + (Int.tmod (IntKind.i64.wrap at_.n) ((r_.buses.length : Nat) : Int) : Int).toNat * 1 + 0) ++ ([.int .i64 (IntKind.i64.wrap (x112.stop + (Int.tmod (IntKind.i64.wrap where_.n) 4)))] : List Value) ++ bo.drop (0 + (Int.tmod (IntKind.i64.wrap at_.n) ((r_.buses.length : Nat) : Int) : Int).toNat * 1 + 0 + 1)), ((bo.take (0 + (Int.tmod (IntKind.i64.wrap at_.n) ((r_.buses.length : Nat) : Int) : Int).toNat * 1 + 0) ++ ([.int .i64 (IntKind.i64.wrap (x112.stop + (Int.tmod (IntKind.i64.wrap where_.n) 4)))] : List Value) ++ bo.drop (0 + (Int.tmod (IntKind.i64.wrap at_.n) ((r_.buses.length : Nat) : Int) : Int).toNat * 1 + 0 + 1)) : List Value).length⟩] k1 := kn
              have aby : RepS jv ba be cd := ⟨_, fc, acb, gc.rowCap (i := 4) rfl⟩
              obtain ⟨x138, ex138, dv⟩ := bnd dv
              refine wpFrom_loud _ rfl (wantedS_sound pc (by kernel_rfl)) fun K hK => ?_
              refine wc [.agg (K5c13 s r_ u p q ab ac), .agg [.slice l a.holds.length m, .slice ba cd.length be, .slice x a.spares.length y]] pc kn (ref_AreActs_ok n kn.has r_ ((rep_pair (rep_slice aw) (rep_pair (rep_pair rep_int rep_int) (rep_pair (rep_slice ar) (rep_pair (rep_slice au) (rep_pair rep_int (rep_pair rep_int (rep_pair rep_int rep_int))))))) : rep jv r_ _) (Acts.mk a.holds cd a.spares) ((rep_pair (rep_slice av) (rep_pair (rep_slice aby) (rep_slice az))) : rep jv (Acts.mk a.holds cd a.spares) _) ex138) fun ak9 ahk al5 sl pl p1 => ?_
              replace fc := fc.mono pl
              obtain rfl := sl
              refine ⟨.one (.c (.bool x138)), rfl, fun aes (xy : Kn 181 (K5e20 d f g ad ae ax a0 at_ r_ a2 a5 dk dz) ((tB 138 x138) :: (tA 137 [.slice l a.holds.length m, .slice ba cd.length be, .slice x a.spares.length y]) :: (tA 136 (K5c13 s r_ u p q ab ac)) :: (tB 135 false) :: (tP 20 6 0) :: (K5m40 x112 where_ af x34 ag)) aes) => hK _ _ ?_⟩
              refine Rk 10 2 ((tB 140 (!x138)) :: (tP 20 6 0) :: (K5m40 x112 where_ af x34 ag)) xy p1 fun ajr xz => ?_
              refine wf ?_
              obtain rfl := Option.some.inj dv
              exact Exists.intro ba ⟨be, (bo.take (0 + (Int.tmod (IntKind.i64.wrap at_.n) ((r_.buses.length : Nat) : Int) : Int).toNat * 1 + 0) ++ ([.int .i64 (IntKind.i64.wrap (x112.stop + (Int.tmod (IntKind.i64.wrap where_.n) 4)))] : List Value) ++ bo.drop (0 + (Int.tmod (IntKind.i64.wrap at_.n) ((r_.buses.length : Nat) : Int) : Int).toNat * 1 + 0 + 1)), (((bo.take (0 + (Int.tmod (IntKind.i64.wrap at_.n) ((r_.buses.length : Nat) : Int) : Int).toNat * 1 + 0) ++ ([.int .i64 (IntKind.i64.wrap (x112.stop + (Int.tmod (IntKind.i64.wrap where_.n) 4)))] : List Value) ++ bo.drop (0 + (Int.tmod (IntKind.i64.wrap at_.n) ((r_.buses.length : Nat) : Int) : Int).toNat * 1 + 0 + 1)) : List Value).length), _, _, rfl, ((xz.keep [20, 19, 11, 5, 140] (by rfl)).cut 8 (by kernel_rfl)), (p1.cutPl 8 (by kernel_rfl)), (Heap.le_trans fj pl), fc⟩
            ·
             rintro _ al6 ⟨bb, bf, c1, op, nv, gv, rfl, l1, fq, cq, fd⟩
             replace aw := aw.mono cq
             replace ar := ar.mono cq
             replace au := au.mono cq
             replace av := av.mono cq
             replace a4 := a4.mono cq
             replace az := az.mono cq
             replace a7 := a7.mono cq
             replace bi := bi.mono cq
             replace bj := bj.mono cq
             replace bk := bk.mono cq
             replace bn := bn.mono cq
             replace bm := bm.mono cq
             replace bl := bl.mono cq
             refine wC (a8.2) l1 (fun lh => ?_) (fun lh => ?_)
             ·
              rw [lh, cond_true] at H
              refine wp_seq (wp_region_from ?_)
              obtain ⟨x141, ex141, H⟩ := bnd H
              refine wl fun K hK => ?_
              refine wc [] l1 fq (law_awake_ok n fq.has  ex141) fun ala ahl al7 sm ahx p2 => ?_
              obtain rfl := sm
              refine ⟨.one (.c (.bool x141)), rfl, fun aet (x0 : Kn 181 (K5e18 d f g ad ae ax a0 at_ r_ a2 a5) [(tB 141 x141), (tP 20 6 0), (tI 19 (IntKind.i64.wrap (x112.stop + (Int.tmod (IntKind.i64.wrap where_.n) 4)))), (tS 11 af x34.1.length ag), (tP 5 0 0), (tB 140 a8.2)] aet) => hK _ _ ?_⟩
              refine Rk 1 1 [(tB 10 x141)] x0 p2 fun ajs x1 => ?_
              refine wf (wp_ret ?_)
              obtain rfl := Option.some.inj H
              exact rt (.one (.c (.bool x141))) x1 p2 rfl
             ·
              rw [lh, cond_false] at H
              refine wp_skip (wp_seq (wp_region_G (by kernel_rfl) ?_))
              replace fq := fq.drew
              refine wpG_of_D [] (K5e18 d f g ad ae ax a0 at_ r_ a2 a5) (K5p33 s r_ u p q ab ac l a m z aa x y more ah x54 ai aj x60 ak x112 bb a8 bf) ?_
              refine Dr [0, 2] [2, 0] ((tA 145 (K5c7 l a m bb a8 bf x y)) :: (tA 143 (K5c13 s r_ u p q ab ac)) :: (K5m40 x112 where_ af x34 ag)) l1 fq fun ajt x2 => ?_
              obtain ⟨x144, ex144, H⟩ := bnd H
              refine Dl 1 fun K hK => ?_
              refine wc [.agg (K5c13 s r_ u p q ab ac)] x2 fq (law_Route_ok n fq.has r_ ((rep_pair (rep_slice aw) (rep_pair (rep_pair rep_int rep_int) (rep_pair (rep_slice ar) (rep_pair (rep_slice au) (rep_pair rep_int (rep_pair rep_int (rep_pair rep_int rep_int))))))) : rep gv r_ _) ex144) fun alb ahm agi sn cj mn => ?_
              obtain ⟨_, rfl, ⟨_, _, rfl, ⟨d8, e2, rfl, m3⟩, ⟨_, _, rfl, ⟨_, _, rfl, rfl, rfl⟩, ⟨_, _, rfl, ⟨d9, e3, rfl, m4⟩, ⟨_, _, rfl, ⟨ea, e4, rfl, m5⟩, ⟨_, _, rfl, rfl, ⟨_, _, rfl, rfl, ⟨_, _, rfl, rfl, rfl⟩⟩⟩⟩⟩⟩⟩⟩ := sn
              refine ⟨.one (.agg (K5c16 d8 x144 e2 d9 e3 ea e4)), rfl, fun aev (x4 : Kn 181 (K5e18 d f g ad ae ax a0 at_ r_ a2 a5) ((tA 144 (K5c16 d8 x144 e2 d9 e3 ea e4)) :: (tA 145 (K5c7 l a m bb a8 bf x y)) :: (tA 143 (K5c13 s r_ u p q ab ac)) :: (K5m40 x112 where_ af x34 ag)) aev) => hK _ _ mn.plOk ?_⟩
              obtain ⟨k5, b2, acc, ko⟩ := mn.settle (i := 4) rfl
              replace av := av.mono (Heap.le_trans cj b2)
              replace az := az.mono (Heap.le_trans cj b2)
              replace fd := fd.mono (Heap.le_trans cj b2)
              replace ko : Mem ⟨w, h, noX⟩ k5 (K5e18 d f g ad ae ax a0 at_ r_ a2 a5) (K5p33 s r_ u p q ab ac l a m z aa x y more ah x54 ai aj x60 ak x112 bb a8 bf) (K5r37 ah x54 ai al ap aq ao aj x60 ak am an bb a8 bf c1) agi := ko
              have ht : RepS k5 bb bf a8.1 := ⟨_, fd, acc, mn.rowCap (i := 4) rfl⟩
              obtain ⟨x146, ex146, H⟩ := bnd H
              refine Dl 3 fun K hK => ?_
              refine wc [.agg (K5c7 l a m bb a8 bf x y)] x4 ko (law_Acts_ok n ko.has (Acts.mk a.holds a8.1 a.spares) ((rep_pair (rep_slice av) (rep_pair (rep_slice ht) (rep_slice az))) : rep k5 (Acts.mk a.holds a8.1 a.spares) _) ex146) fun alc ow al8 sp bw mo => ?_
              replace m3 := m3.mono (Heap.le_trans b2 bw)
              replace m4 := m4.mono (Heap.le_trans b2 bw)
              replace m5 := m5.mono (Heap.le_trans b2 bw)
              obtain ⟨_, rfl, ⟨_, _, rfl, ⟨h7, i9, rfl, abz⟩, ⟨_, _, rfl, ⟨h8, ja, rfl, ab0⟩, ⟨h9, jb, rfl, ab1⟩⟩⟩⟩ := sp
              refine ⟨.one (.agg [.slice h7 x146.holds.length i9, .slice h8 x146.turns.length ja, .slice h9 x146.spares.length jb]), rfl, fun aew (x6 : Kn 181 (K5e18 d f g ad ae ax a0 at_ r_ a2 a5) ((tA 146 [.slice h7 x146.holds.length i9, .slice h8 x146.turns.length ja, .slice h9 x146.spares.length jb]) :: (tA 144 (K5c16 d8 x144 e2 d9 e3 ea e4)) :: (tA 145 (K5c7 l a m bb a8 bf x y)) :: (tA 143 (K5c13 s r_ u p q ab ac)) :: (K5m40 x112 where_ af x34 ag)) aew) => hK _ _ mo.plOk ?_⟩
              obtain ⟨x147, ex147, H⟩ := bnd H
              refine Dl 4 fun K hK => ?_
              refine wc [.agg (K5c16 d8 x144 e2 d9 e3 ea e4), .agg [.slice h7 x146.holds.length i9, .slice h8 x146.turns.length ja, .slice h9 x146.spares.length jb]] x6 mo (control_Worst_ok n mo.has x144 ((rep_pair (rep_slice m3) (rep_pair (rep_pair rep_int rep_int) (rep_pair (rep_slice m4) (rep_pair (rep_slice m5) (rep_pair rep_int (rep_pair rep_int (rep_pair rep_int rep_int))))))) : rep ow x144 _) x146 ((rep_pair (rep_slice abz) (rep_pair (rep_slice ab0) (rep_slice ab1))) : rep ow x146 _) ex147) fun ald tp al9 sq cb fs => ?_
              replace aw := aw.mono (Heap.le_trans (Heap.le_trans (Heap.le_trans cj b2) bw) cb)
              replace ar := ar.mono (Heap.le_trans (Heap.le_trans (Heap.le_trans cj b2) bw) cb)
              replace au := au.mono (Heap.le_trans (Heap.le_trans (Heap.le_trans cj b2) bw) cb)
              replace av := av.mono (Heap.le_trans bw cb)
              replace a4 := a4.mono (Heap.le_trans (Heap.le_trans (Heap.le_trans cj b2) bw) cb)
              replace az := az.mono (Heap.le_trans bw cb)
              replace a7 := a7.mono (Heap.le_trans (Heap.le_trans (Heap.le_trans cj b2) bw) cb)
              replace bi := bi.mono (Heap.le_trans (Heap.le_trans (Heap.le_trans cj b2) bw) cb)
              replace bj := bj.mono (Heap.le_trans (Heap.le_trans (Heap.le_trans cj b2) bw) cb)
              replace ht := ht.mono (Heap.le_trans bw cb)
              replace bk := bk.mono (Heap.le_trans (Heap.le_trans (Heap.le_trans cj b2) bw) cb)
              replace bn := bn.mono (Heap.le_trans (Heap.le_trans (Heap.le_trans cj b2) bw) cb)
              replace bm := bm.mono (Heap.le_trans (Heap.le_trans (Heap.le_trans cj b2) bw) cb)
              replace bl := bl.mono (Heap.le_trans (Heap.le_trans (Heap.le_trans cj b2) bw) cb)
              replace fd := fd.mono (Heap.le_trans bw cb)
              obtain ⟨_, _, rfl, ⟨bq, bs, rfl, hu⟩, rfl⟩ := sq
              refine ⟨.tup [.c (.slice bq x147.1.length bs), .c (.int .i64 x147.2)], rfl, fun aex (x7 : Kn 181 (K5e18 d f g ad ae ax a0 at_ r_ a2 a5) ((147, .tup [.c (.slice bq x147.1.length bs), .c (.int .i64 x147.2)]) :: (tA 146 [.slice h7 x146.holds.length i9, .slice h8 x146.turns.length ja, .slice h9 x146.spares.length jb]) :: (tA 144 (K5c16 d8 x144 e2 d9 e3 ea e4)) :: (tA 145 (K5c7 l a m bb a8 bf x y)) :: (tA 143 (K5c13 s r_ u p q ab ac)) :: (K5m40 x112 where_ af x34 ag)) aex) => hK _ _ fs.plOk ?_⟩
              refine Dr [5, 6, 7, 8, 9] [9, 8, 7, 6, 5, 4, 3, 1, 2, 0] ((tI 22 x147.2) :: (tS 21 bq x147.1.length bs) :: (K5m40 x112 where_ af x34 ag)) x7 fs fun ajw x8 => ?_
              refine wpD_end (by kernel_rfl) (wp_seq (wp_seq ?_))
              obtain ⟨q0, jj, H⟩ := bnd H
              refine wp_mid' (fun a' w' => ∃ (nw : Array Value) (gw : Heap), a' = ⟨nw, []⟩ ∧ Kn 181 (K5e18 d f g ad ae ax a0 at_ r_ a2 a5) [(tS 21 bq x147.1.length bs), (tI 19 (IntKind.i64.wrap (x112.stop + (Int.tmod (IntKind.i64.wrap where_.n) 4)))), (tS 11 af x34.1.length ag), (tP 5 0 0), (tB 158 q0)] nw ∧ Mem ⟨w, h, noX⟩ gw (K5e18 d f g ad ae ax a0 at_ r_ a2 a5) (K5p33 s r_ u p q ab ac l a m z aa x y more ah x54 ai aj x60 ak x112 bb a8 bf) (K5r37 ah x54 ai al ap aq ao aj x60 ak am an bb a8 bf c1) w' ∧ Heap.le tp gw) ?_ ?_
              ·
               refine wp_region_from (Rk 0 3 ((tB 152 (x147.2 != 0)) :: (tS 21 bq x147.1.length bs) :: (K5m40 x112 where_ af x34 ag)) x8 fs fun rg pd => ?_)
               rcases Bool.eq_false_or_eq_true ((x147.2 != 0)) with g2 | g2
               ·
                rw [g2, cond_true] at jj
                have ya : Kn 181 (K5e18 d f g ad ae ax a0 at_ r_ a2 a5) ((tB 152 true) :: (tS 21 bq x147.1.length bs) :: (K5m40 x112 where_ af x34 ag)) rg := (pd.setB 152 true (by rfl) g2).kp
                refine Rk 3 6 ((tB 158 true) :: (tS 21 bq x147.1.length bs) :: (K5m40 x112 where_ af x34 ag)) ya fs fun ajx yb => ?_
                refine wf ?_
                obtain rfl := Option.some.inj jj
                exact Exists.intro _ ⟨_, rfl, yb.kp, fs, (Heap.le_refl _)⟩
               ·
                rw [g2, cond_false] at jj
                have yc : Kn 181 (K5e18 d f g ad ae ax a0 at_ r_ a2 a5) ((tB 152 false) :: (tS 21 bq x147.1.length bs) :: (K5m40 x112 where_ af x34 ag)) rg := (pd.setB 152 false (by rfl) g2).kp
                refine Rk 3 6 ((tB 158 (((x147.1.length : Nat) : Int) != ((x34.1.length : Nat) : Int))) :: (tS 21 bq x147.1.length bs) :: (K5m40 x112 where_ af x34 ag)) yc fs fun ajy yd => ?_
                refine wf ?_
                obtain rfl := Option.some.inj jj
                exact Exists.intro _ ⟨_, rfl, yd.kp, fs, (Heap.le_refl _)⟩
              ·
               rintro _ ama ⟨nw, gw, rfl, l2, kq, b8⟩
               replace aw := aw.mono b8
               replace ar := ar.mono b8
               replace au := au.mono b8
               replace av := av.mono b8
               replace a4 := a4.mono b8
               replace az := az.mono b8
               replace a7 := a7.mono b8
               replace bi := bi.mono b8
               replace bj := bj.mono b8
               replace ht := ht.mono b8
               replace hu := hu.mono b8
               replace bk := bk.mono b8
               replace bn := bn.mono b8
               replace bm := bm.mono b8
               replace bl := bl.mono b8
               replace fd := fd.mono b8
               refine wC (q0) l2 (fun li => ?_) (fun li => ?_)
               ·
                rw [li, cond_true] at H
                refine wp_seq (wp_region_from (Rk 0 1 [(tB 10 false)] l2 kq fun ajz ye => ?_))
                refine wf (wp_ret ?_)
                obtain rfl := Option.some.inj H
                exact rt (.one (.c (.bool false))) ye kq rfl
               ·
                rw [li, cond_false] at H
                refine wp_skip (wp_seq (wp_seq (wp_region_from (Rk 0 3 ((tI 23 (IntKind.i64.wrap ((IntKind.i64.wrap (x112.stop + (Int.tmod (IntKind.i64.wrap where_.n) 4))) + 1))) :: (tS 21 bq x147.1.length bs) :: (K5m40 x112 where_ af x34 ag)) l2 kq fun aj0 yf => ?_))))
                refine wf ?_
                obtain ⟨q1, og, H⟩ := bnd H
                refine wp_mid' (fun a' w' => ∃ (q7 : Unit) (nx : Array Value) (k6 : Heap), a' = ⟨nx, []⟩ ∧ Kn 181 (K5e18 d f g ad ae ax a0 at_ r_ a2 a5) [] nx ∧ Mem ⟨w, h, noX⟩ k6 (K5e18 d f g ad ae ax a0 at_ r_ a2 a5) (K5p33 s r_ u p q ab ac l a m z aa x y more ah x54 ai aj x60 ak x112 bb a8 bf) (K5r37 ah x54 ai al ap aq ao aj x60 ak am an bb a8 bf c1) w' ∧ Heap.le gw k6 ∧ q1 = .go q7) ?_ ?_
                ·
                 refine wp_block ?_
                 refine wp_loop_n (fun adc a' w' => ∃ (x_v20 : Int) (ny : Array Value) (jw : Heap), a' = ⟨ny, []⟩ ∧ Kn 181 (K5e18 d f g ad ae ax a0 at_ r_ a2 a5) ((tI 23 x_v20) :: (tS 21 bq x147.1.length bs) :: (K5m40 x112 where_ af x34 ag)) ny ∧ Mem ⟨w, h, noX⟩ jw (K5e18 d f g ad ae ax a0 at_ r_ a2 a5) (K5p33 s r_ u p q ab ac l a m z aa x y more ah x54 ai aj x60 ak x112 bb a8 bf) (K5r37 ah x54 ai al ap aq ao aj x60 ak am an bb a8 bf c1) w' ∧ Heap.le gw jw ∧ law_ControlSpare_l2 adc r_ where_ x34 x112 x147 x_v20 = some q1) n ?_ ?_
                 ·
                  exact Exists.intro (IntKind.i64.wrap ((IntKind.i64.wrap (x112.stop + (Int.tmod (IntKind.i64.wrap where_.n) 4))) + 1)) ⟨_, _, rfl, yf.kp, kq, (Heap.le_refl _), og⟩
                 ·
                  rintro kv _ amb ⟨x_v20, ny, jw, rfl, yg, mp, fk, b5⟩
                  clear og
                  obtain _ | kv := kv
                  ·
                   rw [law_ControlSpare_l2] at b5; cases b5
                  rw [law_ControlSpare_l2] at b5
                  replace aw := aw.mono fk
                  replace ar := ar.mono fk
                  replace au := au.mono fk
                  refine wp_seq (wp_seq (wp_region_from (Rk 0 2 ((tA 162 (K5c13 s r_ u p q ab ac)) :: (tI 161 x_v20) :: (tI 23 x_v20) :: (tS 21 bq x147.1.length bs) :: (K5m40 x112 where_ af x34 ag)) yg mp fun aj1 yh => ?_)))
                  obtain ⟨x163, ex163, b5⟩ := bnd b5
                  refine wl fun K hK => ?_
                  refine wc [.agg (K5c13 s r_ u p q ab ac)] yh mp (ref_Places_ok kv mp.has r_ ((rep_pair (rep_slice aw) (rep_pair (rep_pair rep_int rep_int) (rep_pair (rep_slice ar) (rep_pair (rep_slice au) (rep_pair rep_int (rep_pair rep_int (rep_pair rep_int rep_int))))))) : rep jw r_ _) ex163) fun alf ox rn sr j7 ft => ?_
                  replace a7 := a7.mono (Heap.le_trans fk j7)
                  replace hu := hu.mono (Heap.le_trans fk j7)
                  obtain rfl := sr
                  refine ⟨.one (.c (.int .i64 x163)), rfl, fun aey (yi : Kn 181 (K5e18 d f g ad ae ax a0 at_ r_ a2 a5) ((tI 163 x163) :: (tA 162 (K5c13 s r_ u p q ab ac)) :: (tI 161 x_v20) :: (tI 23 x_v20) :: (tS 21 bq x147.1.length bs) :: (K5m40 x112 where_ af x34 ag)) aey) => hK _ _ ?_⟩
                  refine Rk 3 5 ((tB 168 (decide (x_v20 < (IntKind.i64.wrap ((IntKind.i64.wrap ((IntKind.i64.wrap (2 * x163)) - 1)) - (IntKind.i64.wrap (x112.stop + (Int.tmod (IntKind.i64.wrap where_.n) 4)))))))) :: (tI 23 x_v20) :: (tS 21 bq x147.1.length bs) :: (K5m40 x112 where_ af x34 ag)) yi ft fun aj2 l3 => ?_
                  refine wf (wC (decide (x_v20 < (IntKind.i64.wrap ((IntKind.i64.wrap ((IntKind.i64.wrap (2 * x163)) - 1)) - (IntKind.i64.wrap (x112.stop + (Int.tmod (IntKind.i64.wrap where_.n) 4))))))) l3 (fun lj => ?_) (fun lj => ?_))
                  ·
                   rw [lj, cond_true] at b5
                   refine wp_skip (wp_seq (wp_block (wp_seq (wp_region_G (by kernel_rfl) ?_))))
                   replace ft := ft.drew
                   refine wpG_of_D [] (K5e18 d f g ad ae ax a0 at_ r_ a2 a5) (K5p33 s r_ u p q ab ac l a m z aa x y more ah x54 ai aj x60 ak x112 bb a8 bf) ?_
                   refine Dr [0, 1] [1, 0] ((tI 172 x_v20) :: (tS 171 bq x147.1.length bs) :: (tI 23 x_v20) :: (tS 21 bq x147.1.length bs) :: (K5m40 x112 where_ af x34 ag)) l3 ft fun aj3 yj => ?_
                   obtain ⟨x173, ex173, b5⟩ := bnd b5
                   obtain ⟨abc, abp, acz⟩ := idx_some ex173
                   obtain ⟨i1, ky, ags, tw, acn, ul⟩ := hu.get (by decide) acz
                   obtain rfl := acn
                   have mq : Mem ⟨w, h, noX⟩ ox [(d, 0), (f, 0), (g, 0), (ad, 0), (ae, 0), (ax, a0 + (Int.tmod (IntKind.i64.wrap at_.n) ((r_.buses.length : Nat) : Int) : Int).toNat * 3), (a2, 0), (a5, 0 + (Int.tmod (IntKind.i64.wrap at_.n) ((r_.buses.length : Nat) : Int) : Int).toNat * 1), (i1, ky + (x_v20 : Int).toNat * 1)] [⟨(K5c13 s r_ u p q ab ac), some 28⟩, ⟨(K5c6 l a m z aa x y), some 50⟩, ⟨(K5c1 more), some 61⟩, ⟨(K5c12 s r_ u p q ah x54 ai), some 28⟩, ⟨(K5c5 l a m z aa aj x60 ak), some 50⟩, ⟨(K5c4 x112), none⟩, ⟨(K5c7 l a m bb a8 bf x y), some 50⟩, ⟨[], none⟩, ⟨[.int .i64 x173], none⟩] (K5r37 ah x54 ai al ap aq ao aj x60 ak am an bb a8 bf c1) (World.drew rn) := ft.addPlc (cs := [.int .i64 x173]) (fun j c hj => ul j _ (map_get hj)) rfl (by kernel_rfl) (by kernel_rfl)
                   refine D_index 2 (x_v20) [.int .i64 x173] (fun _ _ _ _ _ h => h) rfl rfl (rfl) rfl (by decide) (by kernel_rfl) (by kernel_rfl) yj ft.plOk (by rfl) (by rfl) (by rfl) tw (by rfl) abc abp (by kernel_rfl) fun aez (yk : Kn 181 [(d, 0), (f, 0), (g, 0), (ad, 0), (ae, 0), (ax, a0 + (Int.tmod (IntKind.i64.wrap at_.n) ((r_.buses.length : Nat) : Int) : Int).toNat * 3), (a2, 0), (a5, 0 + (Int.tmod (IntKind.i64.wrap at_.n) ((r_.buses.length : Nat) : Int) : Int).toNat * 1), (i1, ky + (x_v20 : Int).toNat * 1)] ((tP 173 8 0) :: (tI 172 x_v20) :: (tS 171 bq x147.1.length bs) :: (tI 23 x_v20) :: (tS 21 bq x147.1.length bs) :: (K5m40 x112 where_ af x34 ag)) aez) => ?_
                   refine Dr [3, 4, 5] (dn 5) ((tI 176 x_v20) :: (tS 175 af x34.1.length ag) :: (tI 174 x173) :: (tI 23 x_v20) :: (tS 21 bq x147.1.length bs) :: (K5m40 x112 where_ af x34 ag)) yk mq fun aj4 yl => ?_
                   obtain ⟨x177, ex177, b5⟩ := bnd b5
                   obtain ⟨abd, abq, ac0⟩ := idx_some ex177
                   obtain ⟨n6, q2, agt, tx, aco, um⟩ := a7.get (by decide) ac0
                   obtain rfl := aco
                   have hq : Mem ⟨w, h, noX⟩ ox [(d, 0), (f, 0), (g, 0), (ad, 0), (ae, 0), (ax, a0 + (Int.tmod (IntKind.i64.wrap at_.n) ((r_.buses.length : Nat) : Int) : Int).toNat * 3), (a2, 0), (a5, 0 + (Int.tmod (IntKind.i64.wrap at_.n) ((r_.buses.length : Nat) : Int) : Int).toNat * 1), (i1, ky + (x_v20 : Int).toNat * 1), (n6, q2 + (x_v20 : Int).toNat * 1)] [⟨(K5c13 s r_ u p q ab ac), some 28⟩, ⟨(K5c6 l a m z aa x y), some 50⟩, ⟨(K5c1 more), some 61⟩, ⟨(K5c12 s r_ u p q ah x54 ai), some 28⟩, ⟨(K5c5 l a m z aa aj x60 ak), some 50⟩, ⟨(K5c4 x112), none⟩, ⟨(K5c7 l a m bb a8 bf x y), some 50⟩, ⟨[], none⟩, ⟨[.int .i64 x173], none⟩, ⟨[.int .i64 x177], none⟩] (K5r37 ah x54 ai al ap aq ao aj x60 ak am an bb a8 bf c1) (World.drew rn) := mq.addPlc (cs := [.int .i64 x177]) (fun j c hj => um j _ (map_get hj)) rfl (by kernel_rfl) (by kernel_rfl)
                   refine D_index 6 (x_v20) [.int .i64 x177] (fun _ _ _ _ _ h => h) rfl rfl (rfl) rfl (by decide) (by kernel_rfl) (by kernel_rfl) yl mq.plOk (by rfl) (by rfl) (by rfl) tx (by rfl) abd abq (by kernel_rfl) fun ae0 (ym : Kn 181 [(d, 0), (f, 0), (g, 0), (ad, 0), (ae, 0), (ax, a0 + (Int.tmod (IntKind.i64.wrap at_.n) ((r_.buses.length : Nat) : Int) : Int).toNat * 3), (a2, 0), (a5, 0 + (Int.tmod (IntKind.i64.wrap at_.n) ((r_.buses.length : Nat) : Int) : Int).toNat * 1), (i1, ky + (x_v20 : Int).toNat * 1), (n6, q2 + (x_v20 : Int).toNat * 1)] ((tP 177 9 0) :: (tI 176 x_v20) :: (tS 175 af x34.1.length ag) :: (tI 174 x173) :: (tI 23 x_v20) :: (tS 21 bq x147.1.length bs) :: (K5m40 x112 where_ af x34 ag)) ae0) => ?_
                   refine Dr [7, 8] (dn 8) ((tB 179 (decide (x173 < x177))) :: (tI 23 x_v20) :: (tS 21 bq x147.1.length bs) :: (K5m40 x112 where_ af x34 ag)) ym hq fun aj5 l4 => ?_
                   refine wpD_end (by kernel_rfl) (wC (decide (x173 < x177)) l4 (fun lk => ?_) (fun lk => ?_))
                   ·
                    rw [lk, cond_true] at b5
                    refine wp_seq (wp_region_from (Rk 0 1 [(tB 10 false)] l4 hq fun aj6 yn => ?_))
                    refine wf (wp_ret ?_)
                    obtain rfl := Option.some.inj b5
                    obtain rfl := Option.some.inj H
                    exact rt (.one (.c (.bool false))) yn hq rfl
                   ·
                    rw [lk, cond_false] at b5
                    refine wp_skip (wp_region_from (Rk 0 3 ((tI 23 (IntKind.i64.wrap (x_v20 + 1))) :: (tS 21 bq x147.1.length bs) :: (K5m40 x112 where_ af x34 ag)) l4 hq fun aj7 yo => ?_))
                    refine wf ?_
                    exact Exists.intro kv ⟨Nat.lt_succ_self _, Exists.intro (IntKind.i64.wrap (x_v20 + 1)) ⟨_, _, rfl, ((yo.keep [23, 21, 19, 11, 5] (by rfl)).cut 8 (by kernel_rfl)), (hq.cutPl 8 (by kernel_rfl)), (Heap.le_trans fk j7), b5⟩⟩
                  ·
                   rw [lj, cond_false] at b5
                   refine wp_exit ?_
                   obtain rfl := Option.some.inj b5
                   exact Exists.intro () ⟨_, _, rfl, l3.kp, ft, (Heap.le_trans fk j7), rfl⟩
                ·
                 rintro _ amd ⟨q7, nx, k6, rfl, yp, p4, ahy, rfl⟩
                 rw [Ex.bind_go] at H
                 refine wp_seq (wp_region_from ?_)
                 obtain ⟨x180, ex180, H⟩ := bnd H
                 refine wl fun K hK => ?_
                 refine wc [] yp p4 (law_awake_ok n p4.has  ex180) fun alg ahn ame st ahz p5 => ?_
                 obtain rfl := st
                 refine ⟨.one (.c (.bool x180)), rfl, fun ae1 (yq : Kn 181 (K5e18 d f g ad ae ax a0 at_ r_ a2 a5) [(tB 180 x180)] ae1) => hK _ _ ?_⟩
                 refine Rk 1 1 [(tB 10 x180)] yq p5 fun aj8 yr => ?_
                 refine wf (wp_ret ?_)
                 obtain rfl := Option.some.inj H
                 exact rt (.one (.c (.bool x180))) yr p5 rfl
       ·
        rw [la, cond_false] at H
        refine wp_skip (wp_seq (wp_seq (wp_region_from (Rk 0 4 ((tB 101 (((r_.buses.length : Nat) : Int) == 0)) :: (K5m43 af x34 ag at_ where_)) lv c0 fun aj9 l5 => ?_))))
        refine wf (wC ((((r_.buses.length : Nat) : Int) == 0)) l5 (fun ll => ?_) (fun ll => ?_))
        ·
         rw [ll, cond_true] at H
         refine wp_seq (wp_region_from ?_)
         obtain ⟨x102, ex102, H⟩ := bnd H
         refine wl fun K hK => ?_
         refine wc [] l5 c0 (law_awake_ok n c0.has  ex102) fun alh aho amf su ah0 p6 => ?_
         obtain rfl := su
         refine ⟨.one (.c (.bool x102)), rfl, fun ae2 (ys : Kn 181 (K5e3 d f g ad ae) ((tB 102 x102) :: (tB 101 (((r_.buses.length : Nat) : Int) == 0)) :: (K5m43 af x34 ag at_ where_)) ae2) => hK _ _ ?_⟩
         refine Rk 1 1 [(tB 10 x102)] ys p6 fun aka yt => ?_
         refine wf (wp_ret ?_)
         obtain rfl := Option.some.inj H
         exact rt (.one (.c (.bool x102))) yt p6 rfl
        ·
         rw [ll, cond_false] at H
         refine wp_skip (wp_seq (wp_region_from (Rk 0 5 (K5m47 r_ at_ af x34 ag where_) l5 c0 fun akb yu => ?_)))
         obtain ⟨x108, ex108, H⟩ := bnd H
         refine R_rem 5 yu rfl rfl (rfl) rfl (by decide) (by rfl) (by rfl) (nz_some ex108) fun ae3 (yv : Kn 181 (K5e3 d f g ad ae) ((tI 108 (Int.tmod (IntKind.i64.wrap at_.n) ((r_.buses.length : Nat) : Int))) :: (K5m47 r_ at_ af x34 ag where_)) ae3) => ?_
         refine Rk 6 1 [(tI 18 (Int.tmod (IntKind.i64.wrap at_.n) ((r_.buses.length : Nat) : Int))), (tS 11 af x34.1.length ag), (tP 6 1 0), (tP 5 0 0), (4, .one (.c (.int .u8 where_.n)))] yv c0 fun akc yw => ?_
         refine wf (wp_seq (wp_region_from (Rk 0 3 (K5m44 at_ r_ p q af x34 ag where_) yw c0 fun akd yx => ?_)))
         obtain ⟨x112, ex112, H⟩ := bnd H
         obtain ⟨abe, abr, ac1⟩ := idx_some ex112
         obtain ⟨ay, a1, agu, ty, acp, un⟩ := ar.get (by decide) ac1
         obtain ⟨_, _, rfl, rfl, ⟨_, _, rfl, rfl, rfl⟩⟩ := acp
         have ms : Mem ⟨w, h, noX⟩ ju [(d, 0), (f, 0), (g, 0), (ad, 0), (ae, 0), (ay, a1 + (Int.tmod (IntKind.i64.wrap at_.n) ((r_.buses.length : Nat) : Int) : Int).toNat * 3)] [⟨(K5c13 s r_ u p q ab ac), some 28⟩, ⟨(K5c6 l a m z aa x y), some 50⟩, ⟨(K5c1 more), some 61⟩, ⟨(K5c12 s r_ u p q ah x54 ai), some 28⟩, ⟨(K5c5 l a m z aa aj x60 ak), some 50⟩, ⟨(K5c4 x112), none⟩] (K5r31 ah x54 ai al ap aq ao aj x60 ak am an) aga := c0.addPlc (cs := (K5c4 x112)) (fun j c hj => un j _ (map_get hj)) rfl (by kernel_rfl) (by kernel_rfl)
         refine R_index 3 (Int.tmod (IntKind.i64.wrap at_.n) ((r_.buses.length : Nat) : Int)) rfl rfl (rfl) rfl (by decide) yx (by rfl) (by rfl) (by rfl) ty (by rfl) abe abr (by kernel_rfl) fun ae4 (yy : Kn 181 [(d, 0), (f, 0), (g, 0), (ad, 0), (ae, 0), (ay, a1 + (Int.tmod (IntKind.i64.wrap at_.n) ((r_.buses.length : Nat) : Int) : Int).toNat * 3)] ((tP 112 5 0) :: (K5m44 at_ r_ p q af x34 ag where_)) ae4) => ?_
         refine Rk 4 7 (K5m41 x112 where_ at_ r_ af x34 ag) yy ms fun ake yz => ?_
         refine wf (wp_seq (wp_region_from (Rk 0 1 ((tA 119 (K5c6 l a m z aa x y)) :: (K5m41 x112 where_ at_ r_ af x34 ag)) yz ms fun akf y0 => ?_)))
         refine wl fun K hK => ?_
         refine wa K5c2 y0 ms fun a3 rh agj (y1 : Kn 181 (K5e11 d f g ad ae ay a1 at_ r_ a3) ((tP 20 6 0) :: (tA 119 (K5c6 l a m z aa x y)) :: (K5m41 x112 where_ at_ r_ af x34 ag)) rh) (aa5 : Mem ⟨w, h, noX⟩ ju (K5e11 d f g ad ae ay a1 at_ r_ a3) [⟨(K5c13 s r_ u p q ab ac), some 28⟩, ⟨(K5c6 l a m z aa x y), some 50⟩, ⟨(K5c1 more), some 61⟩, ⟨(K5c12 s r_ u p q ah x54 ai), some 28⟩, ⟨(K5c5 l a m z aa aj x60 ak), some 50⟩, ⟨(K5c4 x112), none⟩, ⟨K5c2, some 50⟩] (K5r31 ah x54 ai al ap aq ao aj x60 ak am an) agj) => hK _ _ ?_
         refine wl fun K hK => ?_
         refine wst 6 0 (.agg (K5c6 l a m z aa x y)) (K5c6 l a m z aa x y) y1 aa5 fun agk y2 (mt : Mem ⟨w, h, noX⟩ ju (K5e11 d f g ad ae ay a1 at_ r_ a3) (K5p32 s r_ u p q ab ac l a m z aa x y more ah x54 ai aj x60 ak x112) (K5r31 ah x54 ai al ap aq ao aj x60 ak am an) agk) => hK _ _ ?_
         have y3 : Kn 181 (K5e11 d f g ad ae ay a1 at_ r_ a3) ((tP 20 6 0) :: (K5m41 x112 where_ at_ r_ af x34 ag)) rh := y2.kp
         refine wf (wp_seq (wp_region_from (Rk 0 2 ((tS 121 z a.turns.length aa) :: (tP 20 6 0) :: (K5m41 x112 where_ at_ r_ af x34 ag)) y3 mt fun akg y4 => ?_)))
         obtain ⟨x122, ex122, H⟩ := bnd H
         refine wl fun K hK => ?_
         refine wp_callO [.c (.slice z a.turns.length aa)] _ y4 mt rfl rfl (by decide) (by rfl) rfl (fun _ _ => by kernel_rfl) (law_list_own n mt.has a.turns a4 ex122) fun ali df agl air sv cr kr => ?_
         replace aw := aw.mono cr
         replace ar := ar.mono cr
         replace au := au.mono cr
         replace av := av.mono cr
         replace a4 := a4.mono cr
         replace az := az.mono cr
         replace a7 := a7.mono cr
         replace bi := bi.mono cr
         replace bj := bj.mono cr
         replace bk := bk.mono cr
         replace bn := bn.mono cr
         replace bm := bm.mono cr
         replace bl := bl.mono cr
         obtain ⟨bc, bg, bp, rfl, rfl, j2⟩ := sv
         replace kr : Mem ⟨w, h, noX⟩ df (K5e11 d f g ad ae ay a1 at_ r_ a3) (K5p32 s r_ u p q ab ac l a m z aa x y more ah x54 ai aj x60 ak x112) (K5r36 ah x54 ai al ap aq ao aj x60 ak am an bc x122 bg bp) agl := kr
         refine ⟨.one (.c (.slice bc x122.length bg)), rfl, fun ae5 (y5 : Kn 181 (K5e11 d f g ad ae ay a1 at_ r_ a3) ((tS 122 bc x122.length bg) :: (tS 121 z a.turns.length aa) :: (tP 20 6 0) :: (K5m41 x112 where_ at_ r_ af x34 ag)) ae5) => hK _ _ ?_⟩
         refine Rk 3 1 ((tP 123 6 1) :: (tS 122 bc x122.length bg) :: (tP 20 6 0) :: (K5m41 x112 where_ at_ r_ af x34 ag)) y5 kr fun ae6 y6 => ?_
         refine wl fun K hK => ?_
         refine wst 6 1 (.c (.slice bc x122.length bg)) [.slice l a.holds.length m, .slice bc x122.length bg, .slice x a.spares.length y] y6 kr fun ro y7 (mu : Mem ⟨w, h, noX⟩ df (K5e11 d f g ad ae ay a1 at_ r_ a3) [⟨(K5c13 s r_ u p q ab ac), some 28⟩, ⟨(K5c6 l a m z aa x y), some 50⟩, ⟨(K5c1 more), some 61⟩, ⟨(K5c12 s r_ u p q ah x54 ai), some 28⟩, ⟨(K5c5 l a m z aa aj x60 ak), some 50⟩, ⟨(K5c4 x112), none⟩, ⟨[.slice l a.holds.length m, .slice bc x122.length bg, .slice x a.spares.length y], some 50⟩] (K5r36 ah x54 ai al ap aq ao aj x60 ak am an bc x122 bg bp) ro) => hK _ _ ?_
         have y8 : Kn 181 (K5e11 d f g ad ae ay a1 at_ r_ a3) ((tP 20 6 0) :: (K5m41 x112 where_ at_ r_ af x34 ag)) ae6 := y7.kp
         refine wf (wp_seq (wp_region_from (Rk 0 4 ((tI 127 (IntKind.i64.wrap (x112.stop + (Int.tmod (IntKind.i64.wrap where_.n) 4)))) :: (tI 126 (Int.tmod (IntKind.i64.wrap at_.n) ((r_.buses.length : Nat) : Int))) :: (tS 125 bc x122.length bg) :: (tP 20 6 0) :: (K5m41 x112 where_ at_ r_ af x34 ag)) y8 mu fun akh y9 => ?_)))
         obtain ⟨x128, ex128, H⟩ := bnd H
         obtain ⟨qf, qn, ac2⟩ := idx_some ex128
         have mb := lt_of_idx qf qn
         obtain ⟨agv, acq, uo⟩ := cells_get (sz := 1) rfl j2 ac2
         obtain rfl := acq
         obtain ⟨a6, o3⟩ := row_addr mu (i := 4) rfl (b0 := 0 + (Int.tmod (IntKind.i64.wrap at_.n) ((r_.buses.length : Nat) : Int) : Int).toNat * 1) (Nat.lt_of_lt_of_le (Nat.lt_add_of_pos_right (by decide)) (cells_fit (sz := 1) rfl j2 mb))
         have aa6 : Mem ⟨w, h, noX⟩ df (K5e19 d f g ad ae ay a1 at_ r_ a3 a6) [⟨(K5c13 s r_ u p q ab ac), some 28⟩, ⟨(K5c6 l a m z aa x y), some 50⟩, ⟨(K5c1 more), some 61⟩, ⟨(K5c12 s r_ u p q ah x54 ai), some 28⟩, ⟨(K5c5 l a m z aa aj x60 ak), some 50⟩, ⟨(K5c4 x112), none⟩, ⟨[.slice l a.holds.length m, .slice bc x122.length bg, .slice x a.spares.length y], some 50⟩, ⟨[], none⟩] (K5r36 ah x54 ai al ap aq ao aj x60 ak am an bc x122 bg bp) ro := mu.addPlc (cs := []) (fun j c hj => by simp at hj) rfl (by kernel_rfl) (by kernel_rfl)
         have ahu : ∀ (e : Env) k c, ([.int .i64 x128] : List SC)[k]? = some c → (bp)[0 + (Int.tmod (IntKind.i64.wrap at_.n) ((r_.buses.length : Nat) : Int) : Int).toNat * 1 + k]? = some (c.den e) := fun e k c hk => uo k _ (map_get hk)
         refine R_index 4 (Int.tmod (IntKind.i64.wrap at_.n) ((r_.buses.length : Nat) : Int)) rfl rfl (rfl) rfl (by decide) y9 (by rfl) (by rfl) (by rfl) o3 (by rfl) qf qn (by kernel_rfl) fun nz (zb : Kn 181 (K5e19 d f g ad ae ay a1 at_ r_ a3 a6) ((tP 128 7 0) :: (tI 127 (IntKind.i64.wrap (x112.stop + (Int.tmod (IntKind.i64.wrap where_.n) 4)))) :: (tI 126 (Int.tmod (IntKind.i64.wrap at_.n) ((r_.buses.length : Nat) : Int))) :: (tS 125 bc x122.length bg) :: (tP 20 6 0) :: (K5m41 x112 where_ at_ r_ af x34 ag)) nz) => ?_
         obtain ⟨ce, rr, H⟩ := bnd H
         obtain ⟨ah5, ah7, qp⟩ := upd_some rr
         refine wl fun K hK => ?_
         refine wp_storeRow 4 7 0 (0 + (Int.tmod (IntKind.i64.wrap at_.n) ((r_.buses.length : Nat) : Int) : Int).toNat * 1) (.c (.int .i64 (IntKind.i64.wrap (x112.stop + (Int.tmod (IntKind.i64.wrap where_.n) 4))))) zb aa6 rfl rfl (by rfl) (by rfl) rfl rfl o3 rfl (by kernel_rfl) (cells_fit (sz := 1) rfl j2 mb) fun k2 zc (aa7 : Mem ⟨w, h, noX⟩ df (K5e19 d f g ad ae ay a1 at_ r_ a3 a6) [⟨(K5c13 s r_ u p q ab ac), some 28⟩, ⟨(K5c6 l a m z aa x y), some 50⟩, ⟨(K5c1 more), some 61⟩, ⟨(K5c12 s r_ u p q ah x54 ai), some 28⟩, ⟨(K5c5 l a m z aa aj x60 ak), some 50⟩, ⟨(K5c4 x112), none⟩, ⟨[.slice l a.holds.length m, .slice bc x122.length bg, .slice x a.spares.length y], some 50⟩, ⟨[], none⟩] [⟨ah, x54.length, ai, 61, 2, al, (al : List Value).length⟩, ⟨ap, 1, aq, 61, 2, ao, 0⟩, ⟨aj, x60.length, ak, 4, 1, (am ++ ([.bool true] : List Value)), ((am ++ ([.bool true] : List Value)) : List Value).length⟩, ⟨an, 1, 1, 4, 1, ([.bool true] : List Value), 0⟩, ⟨bc, x122.length, bg, 3, 1, (bp.take (0 + (Int.tmod (IntKind.i64.wrap at_.n) ((r_.buses.length : Nat) : Int) : Int).toNat * 1 + 0) ++ ([.int .i64 (IntKind.i64.wrap (x112.stop + (Int.tmod (IntKind.i64.wrap where_.n) 4)))] : List Value) ++ bp.drop (0 + (Int.tmod (IntKind.i64.wrap at_.n) ((r_.buses.length : Nat) : Int) : Int).toNat * 1 + 0 + 1)), 0⟩] k2) => ?_
         have fe : Cells df ce (bp.take (0 + (Int.tmod (IntKind.i64.wrap at_.n) ((r_.buses.length : Nat) : Int) : Int).toNat * 1 + 0) ++ ([.int .i64 (IntKind.i64.wrap (x112.stop + (Int.tmod (IntKind.i64.wrap where_.n) 4)))] : List Value) ++ bp.drop (0 + (Int.tmod (IntKind.i64.wrap at_.n) ((r_.buses.length : Nat) : Int) : Int).toNat * 1 + 0 + 1)) := by rw [qp]; exact cells_set (sz := 1) rfl j2 mb (rep_int : rep df (IntKind.i64.wrap (x112.stop + (Int.tmod (IntKind.i64.wrap where_.n) 4)) : Int) _)
         have qd : x122.length = ce.length := by rw [qp]; simp
         have zd : Kn 181 [(d, 0), (f, 0), (g, 0), (ad, 0), (ae, 0), (ay, a1 + (Int.tmod (IntKind.i64.wrap at_.n) ((r_.buses.length : Nat) : Int) : Int).toNat * 3), (a3, 0), (a6, 0 + (Int.tmod (IntKind.i64.wrap at_.n) ((r_.buses.length : Nat) : Int) : Int).toNat * 1)] [(128, .one (.c (.ptr 7 0))), (127, .one (.c (.int .i64 (IntKind.i64.wrap (x112.stop + (Int.tmod (IntKind.i64.wrap where_.n) 4)))))), (126, .one (.c (.int .i64 (Int.tmod (IntKind.i64.wrap at_.n) ((r_.buses.length : Nat) : Int))))), (125, .one (.c (.slice bc ce.length bg))), (20, .one (.c (.ptr 6 0))), (19, .one (.c (.int .i64 (IntKind.i64.wrap (x112.stop + (Int.tmod (IntKind.i64.wrap where_.n) 4)))))), (18, .one (.c (.int .i64 (Int.tmod (IntKind.i64.wrap at_.n) ((r_.buses.length : Nat) : Int))))), (11, .one (.c (.slice af x34.1.length ag))), (6, .one (.c (.ptr 1 0))), (5, .one (.c (.ptr 0 0)))] nz := by rw [← qd]; exact zc
         have p7 : Mem ⟨w, h, noX⟩ df [(d, 0), (f, 0), (g, 0), (ad, 0), (ae, 0), (ay, a1 + (Int.tmod (IntKind.i64.wrap at_.n) ((r_.buses.length : Nat) : Int) : Int).toNat * 3), (a3, 0), (a6, 0 + (Int.tmod (IntKind.i64.wrap at_.n) ((r_.buses.length : Nat) : Int) : Int).toNat * 1)] [⟨[.slice s r_.legs.length u, .int .i64 r_.turn.lo, .int .i64 r_.turn.hi, .slice p r_.buses.length q, .slice ab r_.spares.length ac, .int .i64 r_.unit, .int .i64 r_.gap, .int .i64 r_.fr, .int .i64 r_.to_], some 28⟩, ⟨[.slice l a.holds.length m, .slice z a.turns.length aa, .slice x a.spares.length y], some 50⟩, ⟨[.int .i64 more.stop, .int .i64 more.tm], some 61⟩, ⟨[.slice s r_.legs.length u, .int .i64 r_.turn.lo, .int .i64 r_.turn.hi, .slice p r_.buses.length q, .slice ah x54.length ai, .int .i64 r_.unit, .int .i64 r_.gap, .int .i64 r_.fr, .int .i64 r_.to_], some 28⟩, ⟨[.slice l a.holds.length m, .slice z a.turns.length aa, .slice aj x60.length ak], some 50⟩, ⟨[.int .i64 x112.stop, .int .i64 x112.tm.lo, .int .i64 x112.tm.hi], none⟩, ⟨[.slice l a.holds.length m, .slice bc ce.length bg, .slice x a.spares.length y], some 50⟩, ⟨[], none⟩] [⟨ah, x54.length, ai, 61, 2, al, (al : List Value).length⟩, ⟨ap, 1, aq, 61, 2, ao, 0⟩, ⟨aj, x60.length, ak, 4, 1, (am ++ ([.bool true] : List Value)), ((am ++ ([.bool true] : List Value)) : List Value).length⟩, ⟨an, 1, 1, 4, 1, ([.bool true] : List Value), 0⟩, ⟨bc, ce.length, bg, 3, 1, (bp.take (0 + (Int.tmod (IntKind.i64.wrap at_.n) ((r_.buses.length : Nat) : Int) : Int).toNat * 1 + 0) ++ ([.int .i64 (IntKind.i64.wrap (x112.stop + (Int.tmod (IntKind.i64.wrap where_.n) 4)))] : List Value) ++ bp.drop (0 + (Int.tmod (IntKind.i64.wrap at_.n) ((r_.buses.length : Nat) : Int) : Int).toNat * 1 + 0 + 1)), 0⟩] k2 := by rw [← qd]; exact aa7
         refine hK _ _ ?_
         have ze : Kn 181 (K5e19 d f g ad ae ay a1 at_ r_ a3 a6) ((tP 20 6 0) :: (K5m41 x112 where_ at_ r_ af x34 ag)) nz := zd.kp
         refine wf (wp_seq (wp_seq ?_))
         obtain ⟨a9, dw, H⟩ := bnd H
         refine wp_mid' (fun a' w' => ∃ (bd : Option Addr) (bh : Nat) (c2 : List Value) (oq : Nat) (n0 : Array Value) (gx : Heap), a' = ⟨n0, []⟩ ∧ Kn 181 (K5e19 d f g ad ae ay a1 at_ r_ a3 a6) [(tP 20 6 0), (tI 19 (IntKind.i64.wrap (x112.stop + (Int.tmod (IntKind.i64.wrap where_.n) 4)))), (tS 11 af x34.1.length ag), (tP 5 0 0), (tB 140 a9.2)] n0 ∧ Mem ⟨w, h, noX⟩ gx (K5e19 d f g ad ae ay a1 at_ r_ a3 a6) (K5p34 s r_ u p q ab ac l a m z aa x y more ah x54 ai aj x60 ak x112 bd a9 bh) [⟨ah, x54.length, ai, 61, 2, al, (al : List Value).length⟩, ⟨ap, 1, aq, 61, 2, ao, 0⟩, ⟨aj, x60.length, ak, 4, 1, (am ++ ([.bool true] : List Value)), ((am ++ ([.bool true] : List Value)) : List Value).length⟩, ⟨an, 1, 1, 4, 1, ([.bool true] : List Value), 0⟩, ⟨bd, a9.1.length, bh, 3, 1, c2, oq⟩] w' ∧ Heap.le df gx ∧ Cells gx a9.1 c2) ?_ ?_
         ·
          refine wp_region_from (Rk 0 3 ((tI 131 (Int.tmod (IntKind.i64.wrap at_.n) ((r_.buses.length : Nat) : Int))) :: (tS 130 z a.turns.length aa) :: (tP 20 6 0) :: (K5m40 x112 where_ af x34 ag)) ze p7 fun aki zf => ?_)
          obtain ⟨x132, ex132, dw⟩ := bnd dw
          obtain ⟨abf, abs, ac3⟩ := idx_some ex132
          obtain ⟨dl, d0, agw, tz, acr, uq⟩ := a4.get (by decide) ac3
          obtain rfl := acr
          have gd : Mem ⟨w, h, noX⟩ df (K5e21 d f g ad ae ay a1 at_ r_ a3 a6 dl d0) [⟨(K5c13 s r_ u p q ab ac), some 28⟩, ⟨(K5c6 l a m z aa x y), some 50⟩, ⟨(K5c1 more), some 61⟩, ⟨(K5c12 s r_ u p q ah x54 ai), some 28⟩, ⟨(K5c5 l a m z aa aj x60 ak), some 50⟩, ⟨(K5c4 x112), none⟩, ⟨[.slice l a.holds.length m, .slice bc ce.length bg, .slice x a.spares.length y], some 50⟩, ⟨[], none⟩, ⟨[.int .i64 x132], none⟩] [⟨ah, x54.length, ai, 61, 2, al, (al : List Value).length⟩, ⟨ap, 1, aq, 61, 2, ao, 0⟩, ⟨aj, x60.length, ak, 4, 1, (am ++ ([.bool true] : List Value)), ((am ++ ([.bool true] : List Value)) : List Value).length⟩, ⟨an, 1, 1, 4, 1, ([.bool true] : List Value), 0⟩, ⟨bc, ce.length, bg, 3, 1, (bp.take (0 + (Int.tmod (IntKind.i64.wrap at_.n) ((r_.buses.length : Nat) : Int) : Int).toNat * 1 + 0) ++ ([.int .i64 (IntKind.i64.wrap (x112.stop + (Int.tmod (IntKind.i64.wrap where_.n) 4)))] : List Value) ++ bp.drop (0 + (Int.tmod (IntKind.i64.wrap at_.n) ((r_.buses.length : Nat) : Int) : Int).toNat * 1 + 0 + 1)), 0⟩] k2 := p7.addPlc (cs := [.int .i64 x132]) (fun j c hj => uq j _ (map_get hj)) rfl (by kernel_rfl) (by kernel_rfl)
          refine R_index 3 (Int.tmod (IntKind.i64.wrap at_.n) ((r_.buses.length : Nat) : Int)) rfl rfl (rfl) rfl (by decide) zf (by rfl) (by rfl) (by rfl) tz (by rfl) abf abs (by kernel_rfl) fun ae8 (zg : Kn 181 (K5e21 d f g ad ae ay a1 at_ r_ a3 a6 dl d0) ((tP 132 8 0) :: (tI 131 (Int.tmod (IntKind.i64.wrap at_.n) ((r_.buses.length : Nat) : Int))) :: (tS 130 z a.turns.length aa) :: (tP 20 6 0) :: (K5m40 x112 where_ af x34 ag)) ae8) => ?_
          refine Rk 4 3 ((tB 135 (x132 != (-1))) :: (tP 20 6 0) :: (K5m40 x112 where_ af x34 ag)) zg gd fun ri pe => ?_
          rcases Bool.eq_false_or_eq_true ((x132 != (-1))) with g3 | g3
          ·
           rw [g3, cond_true] at dw
           have zh : Kn 181 (K5e21 d f g ad ae ay a1 at_ r_ a3 a6 dl d0) ((tB 135 true) :: (tP 20 6 0) :: (K5m40 x112 where_ af x34 ag)) ri := (pe.setB 135 true (by rfl) g3).kp
           refine Rk 7 5 ((tB 140 true) :: (tP 20 6 0) :: (K5m40 x112 where_ af x34 ag)) zh gd fun akj zi => ?_
           refine wf ?_
           obtain rfl := Option.some.inj dw
           exact Exists.intro bc ⟨bg, (bp.take (0 + (Int.tmod (IntKind.i64.wrap at_.n) ((r_.buses.length : Nat) : Int) : Int).toNat * 1 + 0) ++ ([.int .i64 (IntKind.i64.wrap (x112.stop + (Int.tmod (IntKind.i64.wrap where_.n) 4)))] : List Value) ++ bp.drop (0 + (Int.tmod (IntKind.i64.wrap at_.n) ((r_.buses.length : Nat) : Int) : Int).toNat * 1 + 0 + 1)), 0, _, _, rfl, ((zi.keep [20, 19, 11, 5, 140] (by rfl)).cut 8 (by kernel_rfl)), (gd.cutPl 8 (by kernel_rfl)), (Heap.le_refl _), fe⟩
          ·
           rw [g3, cond_false] at dw
           have zj : Kn 181 (K5e21 d f g ad ae ay a1 at_ r_ a3 a6 dl d0) ((tB 135 false) :: (tP 20 6 0) :: (K5m40 x112 where_ af x34 ag)) ri := (pe.setB 135 false (by rfl) g3).kp
           refine Rk 7 2 ((tA 137 [.slice l a.holds.length m, .slice bc ce.length bg, .slice x a.spares.length y]) :: (tA 136 (K5c13 s r_ u p q ab ac)) :: (tB 135 false) :: (tP 20 6 0) :: (K5m40 x112 where_ af x34 ag)) zj gd fun akk pf => ?_
           obtain ⟨jx, fl, acd, ks⟩ := gd.settle (i := 4) rfl
           replace aw := aw.mono fl
           replace ar := ar.mono fl
           replace au := au.mono fl
           replace av := av.mono fl
           replace az := az.mono fl
           replace fe := fe.mono fl
           replace ks : Mem ⟨w, h, noX⟩ jx (K5e21 d f g ad ae ay a1 at_ r_ a3 a6 dl d0) [⟨(K5c13 s r_ u p q ab ac), some 28⟩, ⟨(K5c6 l a m z aa x y), some 50⟩, ⟨(K5c1 more), some 61⟩, ⟨(K5c12 s r_ u p q ah x54 ai), some 28⟩, ⟨(K5c5 l a m z aa aj x60 ak), some 50⟩, ⟨(K5c4 x112), none⟩, ⟨[.slice l a.holds.length m, .slice bc ce.length bg, .slice x a.spares.length y], some 50⟩, ⟨[], none⟩, ⟨[.int .i64 x132], none⟩] [⟨ah, x54.length, ai, 61, 2, al, (al : List Value).length⟩, ⟨ap, 1, aq, 61, 2, ao, 0⟩, ⟨aj, x60.length, ak, 4, 1, (am ++ ([.bool true] : List Value)), ((am ++ ([.bool true] : List Value)) : List Value).length⟩, ⟨an, 1, 1, 4, 1, ([.bool true] : List Value), 0⟩, ⟨bc, ce.length, bg, 3, 1, (bp.take (0 + (Int.tmod (IntKind.i64.wrap at_.n) ((r_.buses.length : Nat) : Int) : Int).toNat * 1 + 0) ++ ([.int .i64 (IntKind.i64.wrap (x112.stop + (Int.tmod (IntKind.i64.wrap where_.n) 4)))] : List Value) ++ bp.drop (0 + (Int.tmod (IntKind.i64.wrap at_.n) ((r_.buses.length : Nat) : Int) : Int).toNat * 1 + 0 + 1)), ((bp.take (0 + (Int.tmod (IntKind.i64.wrap at_.n) ((r_.buses.length : Nat) : Int) : Int).toNat * 1 + 0) ++ ([.int .i64 (IntKind.i64.wrap (x112.stop + (Int.tmod (IntKind.i64.wrap where_.n) 4)))] : List Value) ++ bp.drop (0 + (Int.tmod (IntKind.i64.wrap at_.n) ((r_.buses.length : Nat) : Int) : Int).toNat * 1 + 0 + 1)) : List Value).length⟩] k2 := ks
           have ab2 : RepS jx bc bg ce := ⟨_, fe, acd, gd.rowCap (i := 4) rfl⟩
           obtain ⟨x138, ex138, dw⟩ := bnd dw
           refine wpFrom_loud _ rfl (wantedS_sound pf (by kernel_rfl)) fun K hK => ?_
           refine wc [.agg (K5c13 s r_ u p q ab ac), .agg [.slice l a.holds.length m, .slice bc ce.length bg, .slice x a.spares.length y]] pf ks (ref_AreActs_ok n ks.has r_ ((rep_pair (rep_slice aw) (rep_pair (rep_pair rep_int rep_int) (rep_pair (rep_slice ar) (rep_pair (rep_slice au) (rep_pair rep_int (rep_pair rep_int (rep_pair rep_int rep_int))))))) : rep jx r_ _) (Acts.mk a.holds ce a.spares) ((rep_pair (rep_slice av) (rep_pair (rep_slice ab2) (rep_slice az))) : rep jx (Acts.mk a.holds ce a.spares) _) ex138) fun alk ahp amh sx pm p8 => ?_
           replace fe := fe.mono pm
           obtain rfl := sx
           refine ⟨.one (.c (.bool x138)), rfl, fun ae9 (zk : Kn 181 (K5e21 d f g ad ae ay a1 at_ r_ a3 a6 dl d0) ((tB 138 x138) :: (tA 137 [.slice l a.holds.length m, .slice bc ce.length bg, .slice x a.spares.length y]) :: (tA 136 (K5c13 s r_ u p q ab ac)) :: (tB 135 false) :: (tP 20 6 0) :: (K5m40 x112 where_ af x34 ag)) ae9) => hK _ _ ?_⟩
           refine Rk 10 2 ((tB 140 (!x138)) :: (tP 20 6 0) :: (K5m40 x112 where_ af x34 ag)) zk p8 fun akl zl => ?_
           refine wf ?_
           obtain rfl := Option.some.inj dw
           exact Exists.intro bc ⟨bg, (bp.take (0 + (Int.tmod (IntKind.i64.wrap at_.n) ((r_.buses.length : Nat) : Int) : Int).toNat * 1 + 0) ++ ([.int .i64 (IntKind.i64.wrap (x112.stop + (Int.tmod (IntKind.i64.wrap where_.n) 4)))] : List Value) ++ bp.drop (0 + (Int.tmod (IntKind.i64.wrap at_.n) ((r_.buses.length : Nat) : Int) : Int).toNat * 1 + 0 + 1)), (((bp.take (0 + (Int.tmod (IntKind.i64.wrap at_.n) ((r_.buses.length : Nat) : Int) : Int).toNat * 1 + 0) ++ ([.int .i64 (IntKind.i64.wrap (x112.stop + (Int.tmod (IntKind.i64.wrap where_.n) 4)))] : List Value) ++ bp.drop (0 + (Int.tmod (IntKind.i64.wrap at_.n) ((r_.buses.length : Nat) : Int) : Int).toNat * 1 + 0 + 1)) : List Value).length), _, _, rfl, ((zl.keep [20, 19, 11, 5, 140] (by rfl)).cut 8 (by kernel_rfl)), (p8.cutPl 8 (by kernel_rfl)), (Heap.le_trans fl pm), fe⟩
         ·
          rintro _ ami ⟨bd, bh, c2, oq, n0, gx, rfl, l6, fu, ct, ff⟩
          replace aw := aw.mono ct
          replace ar := ar.mono ct
          replace au := au.mono ct
          replace av := av.mono ct
          replace a4 := a4.mono ct
          replace az := az.mono ct
          replace a7 := a7.mono ct
          replace bi := bi.mono ct
          replace bj := bj.mono ct
          replace bk := bk.mono ct
          replace bn := bn.mono ct
          replace bm := bm.mono ct
          replace bl := bl.mono ct
          refine wC (a9.2) l6 (fun lm => ?_) (fun lm => ?_)
          ·
           rw [lm, cond_true] at H
           refine wp_seq (wp_region_from ?_)
           obtain ⟨x141, ex141, H⟩ := bnd H
           refine wl fun K hK => ?_
           refine wc [] l6 fu (law_awake_ok n fu.has  ex141) fun all ahq amj sy ah1 p9 => ?_
           obtain rfl := sy
           refine ⟨.one (.c (.bool x141)), rfl, fun afa (zm : Kn 181 (K5e19 d f g ad ae ay a1 at_ r_ a3 a6) [(tB 141 x141), (tP 20 6 0), (tI 19 (IntKind.i64.wrap (x112.stop + (Int.tmod (IntKind.i64.wrap where_.n) 4)))), (tS 11 af x34.1.length ag), (tP 5 0 0), (tB 140 a9.2)] afa) => hK _ _ ?_⟩
           refine Rk 1 1 [(tB 10 x141)] zm p9 fun akm zn => ?_
           refine wf (wp_ret ?_)
           obtain rfl := Option.some.inj H
           exact rt (.one (.c (.bool x141))) zn p9 rfl
          ·
           rw [lm, cond_false] at H
           refine wp_skip (wp_seq (wp_region_G (by kernel_rfl) ?_))
           replace fu := fu.drew
           refine wpG_of_D [] (K5e19 d f g ad ae ay a1 at_ r_ a3 a6) (K5p34 s r_ u p q ab ac l a m z aa x y more ah x54 ai aj x60 ak x112 bd a9 bh) ?_
           refine Dr [0, 2] [2, 0] ((tA 145 (K5c8 l a m bd a9 bh x y)) :: (tA 143 (K5c13 s r_ u p q ab ac)) :: (K5m40 x112 where_ af x34 ag)) l6 fu fun akn zo => ?_
           obtain ⟨x144, ex144, H⟩ := bnd H
           refine Dl 1 fun K hK => ?_
           refine wc [.agg (K5c13 s r_ u p q ab ac)] zo fu (law_Route_ok n fu.has r_ ((rep_pair (rep_slice aw) (rep_pair (rep_pair rep_int rep_int) (rep_pair (rep_slice ar) (rep_pair (rep_slice au) (rep_pair rep_int (rep_pair rep_int (rep_pair rep_int rep_int))))))) : rep gx r_ _) ex144) fun alm ahr agm s0 ck mw => ?_
           obtain ⟨_, rfl, ⟨_, _, rfl, ⟨ee, e8, rfl, m9⟩, ⟨_, _, rfl, ⟨_, _, rfl, rfl, rfl⟩, ⟨_, _, rfl, ⟨ef, e9, rfl, na⟩, ⟨_, _, rfl, ⟨eg, fa, rfl, nb⟩, ⟨_, _, rfl, rfl, ⟨_, _, rfl, rfl, ⟨_, _, rfl, rfl, rfl⟩⟩⟩⟩⟩⟩⟩⟩ := s0
           refine ⟨.one (.agg (K5c17 ee x144 e8 ef e9 eg fa)), rfl, fun afb (zp : Kn 181 (K5e19 d f g ad ae ay a1 at_ r_ a3 a6) ((tA 144 (K5c17 ee x144 e8 ef e9 eg fa)) :: (tA 145 (K5c8 l a m bd a9 bh x y)) :: (tA 143 (K5c13 s r_ u p q ab ac)) :: (K5m40 x112 where_ af x34 ag)) afb) => hK _ _ mw.plOk ?_⟩
           obtain ⟨k7, b3, ace, kt⟩ := mw.settle (i := 4) rfl
           replace av := av.mono (Heap.le_trans ck b3)
           replace az := az.mono (Heap.le_trans ck b3)
           replace ff := ff.mono (Heap.le_trans ck b3)
           replace kt : Mem ⟨w, h, noX⟩ k7 (K5e19 d f g ad ae ay a1 at_ r_ a3 a6) (K5p34 s r_ u p q ab ac l a m z aa x y more ah x54 ai aj x60 ak x112 bd a9 bh) (K5r38 ah x54 ai al ap aq ao aj x60 ak am an bd a9 bh c2) agm := kt
           have hv : RepS k7 bd bh a9.1 := ⟨_, ff, ace, mw.rowCap (i := 4) rfl⟩
           obtain ⟨x146, ex146, H⟩ := bnd H
           refine Dl 3 fun K hK => ?_
           refine wc [.agg (K5c8 l a m bd a9 bh x y)] zp kt (law_Acts_ok n kt.has (Acts.mk a.holds a9.1 a.spares) ((rep_pair (rep_slice av) (rep_pair (rep_slice hv) (rep_slice az))) : rep k7 (Acts.mk a.holds a9.1 a.spares) _) ex146) fun aln oz amk s1 bx mx => ?_
           replace m9 := m9.mono (Heap.le_trans b3 bx)
           replace na := na.mono (Heap.le_trans b3 bx)
           replace nb := nb.mono (Heap.le_trans b3 bx)
           obtain ⟨_, rfl, ⟨_, _, rfl, ⟨ic, je, rfl, ab4⟩, ⟨_, _, rfl, ⟨ie, jf, rfl, ab5⟩, ⟨ig, jg, rfl, ab6⟩⟩⟩⟩ := s1
           refine ⟨.one (.agg [.slice ic x146.holds.length je, .slice ie x146.turns.length jf, .slice ig x146.spares.length jg]), rfl, fun afc (zq : Kn 181 (K5e19 d f g ad ae ay a1 at_ r_ a3 a6) ((tA 146 [.slice ic x146.holds.length je, .slice ie x146.turns.length jf, .slice ig x146.spares.length jg]) :: (tA 144 (K5c17 ee x144 e8 ef e9 eg fa)) :: (tA 145 (K5c8 l a m bd a9 bh x y)) :: (tA 143 (K5c13 s r_ u p q ab ac)) :: (K5m40 x112 where_ af x34 ag)) afc) => hK _ _ mx.plOk ?_⟩
           obtain ⟨x147, ex147, H⟩ := bnd H
           refine Dl 4 fun K hK => ?_
           refine wc [.agg (K5c17 ee x144 e8 ef e9 eg fa), .agg [.slice ic x146.holds.length je, .slice ie x146.turns.length jf, .slice ig x146.spares.length jg]] zq mx (control_Worst_ok n mx.has x144 ((rep_pair (rep_slice m9) (rep_pair (rep_pair rep_int rep_int) (rep_pair (rep_slice na) (rep_pair (rep_slice nb) (rep_pair rep_int (rep_pair rep_int (rep_pair rep_int rep_int))))))) : rep oz x144 _) x146 ((rep_pair (rep_slice ab4) (rep_pair (rep_slice ab5) (rep_slice ab6))) : rep oz x146 _) ex147) fun alo tr aml s2 cc fv => ?_
           replace aw := aw.mono (Heap.le_trans (Heap.le_trans (Heap.le_trans ck b3) bx) cc)
           replace ar := ar.mono (Heap.le_trans (Heap.le_trans (Heap.le_trans ck b3) bx) cc)
           replace au := au.mono (Heap.le_trans (Heap.le_trans (Heap.le_trans ck b3) bx) cc)
           replace av := av.mono (Heap.le_trans bx cc)
           replace a4 := a4.mono (Heap.le_trans (Heap.le_trans (Heap.le_trans ck b3) bx) cc)
           replace az := az.mono (Heap.le_trans bx cc)
           replace a7 := a7.mono (Heap.le_trans (Heap.le_trans (Heap.le_trans ck b3) bx) cc)
           replace bi := bi.mono (Heap.le_trans (Heap.le_trans (Heap.le_trans ck b3) bx) cc)
           replace bj := bj.mono (Heap.le_trans (Heap.le_trans (Heap.le_trans ck b3) bx) cc)
           replace hv := hv.mono (Heap.le_trans bx cc)
           replace bk := bk.mono (Heap.le_trans (Heap.le_trans (Heap.le_trans ck b3) bx) cc)
           replace bn := bn.mono (Heap.le_trans (Heap.le_trans (Heap.le_trans ck b3) bx) cc)
           replace bm := bm.mono (Heap.le_trans (Heap.le_trans (Heap.le_trans ck b3) bx) cc)
           replace bl := bl.mono (Heap.le_trans (Heap.le_trans (Heap.le_trans ck b3) bx) cc)
           replace ff := ff.mono (Heap.le_trans bx cc)
           obtain ⟨_, _, rfl, ⟨br, bt, rfl, hw⟩, rfl⟩ := s2
           refine ⟨.tup [.c (.slice br x147.1.length bt), .c (.int .i64 x147.2)], rfl, fun afd (zr : Kn 181 (K5e19 d f g ad ae ay a1 at_ r_ a3 a6) ((147, .tup [.c (.slice br x147.1.length bt), .c (.int .i64 x147.2)]) :: (tA 146 [.slice ic x146.holds.length je, .slice ie x146.turns.length jf, .slice ig x146.spares.length jg]) :: (tA 144 (K5c17 ee x144 e8 ef e9 eg fa)) :: (tA 145 (K5c8 l a m bd a9 bh x y)) :: (tA 143 (K5c13 s r_ u p q ab ac)) :: (K5m40 x112 where_ af x34 ag)) afd) => hK _ _ fv.plOk ?_⟩
           refine Dr [5, 6, 7, 8, 9] [9, 8, 7, 6, 5, 4, 3, 1, 2, 0] ((tI 22 x147.2) :: (tS 21 br x147.1.length bt) :: (K5m40 x112 where_ af x34 ag)) zr fv fun ako zs => ?_
           refine wpD_end (by kernel_rfl) (wp_seq (wp_seq ?_))
           obtain ⟨q3, jk, H⟩ := bnd H
           refine wp_mid' (fun a' w' => ∃ (n1 : Array Value) (gy : Heap), a' = ⟨n1, []⟩ ∧ Kn 181 (K5e19 d f g ad ae ay a1 at_ r_ a3 a6) [(tS 21 br x147.1.length bt), (tI 19 (IntKind.i64.wrap (x112.stop + (Int.tmod (IntKind.i64.wrap where_.n) 4)))), (tS 11 af x34.1.length ag), (tP 5 0 0), (tB 158 q3)] n1 ∧ Mem ⟨w, h, noX⟩ gy (K5e19 d f g ad ae ay a1 at_ r_ a3 a6) (K5p34 s r_ u p q ab ac l a m z aa x y more ah x54 ai aj x60 ak x112 bd a9 bh) (K5r38 ah x54 ai al ap aq ao aj x60 ak am an bd a9 bh c2) w' ∧ Heap.le tr gy) ?_ ?_
           ·
            refine wp_region_from (Rk 0 3 ((tB 152 (x147.2 != 0)) :: (tS 21 br x147.1.length bt) :: (K5m40 x112 where_ af x34 ag)) zs fv fun rj pg => ?_)
            rcases Bool.eq_false_or_eq_true ((x147.2 != 0)) with g4 | g4
            ·
             rw [g4, cond_true] at jk
             have zt : Kn 181 (K5e19 d f g ad ae ay a1 at_ r_ a3 a6) ((tB 152 true) :: (tS 21 br x147.1.length bt) :: (K5m40 x112 where_ af x34 ag)) rj := (pg.setB 152 true (by rfl) g4).kp
             refine Rk 3 6 ((tB 158 true) :: (tS 21 br x147.1.length bt) :: (K5m40 x112 where_ af x34 ag)) zt fv fun akp zu => ?_
             refine wf ?_
             obtain rfl := Option.some.inj jk
             exact Exists.intro _ ⟨_, rfl, zu.kp, fv, (Heap.le_refl _)⟩
            ·
             rw [g4, cond_false] at jk
             have zv : Kn 181 (K5e19 d f g ad ae ay a1 at_ r_ a3 a6) ((tB 152 false) :: (tS 21 br x147.1.length bt) :: (K5m40 x112 where_ af x34 ag)) rj := (pg.setB 152 false (by rfl) g4).kp
             refine Rk 3 6 ((tB 158 (((x147.1.length : Nat) : Int) != ((x34.1.length : Nat) : Int))) :: (tS 21 br x147.1.length bt) :: (K5m40 x112 where_ af x34 ag)) zv fv fun akq zw => ?_
             refine wf ?_
             obtain rfl := Option.some.inj jk
             exact Exists.intro _ ⟨_, rfl, zw.kp, fv, (Heap.le_refl _)⟩
           ·
            rintro _ amm ⟨n1, gy, rfl, l7, ku, b9⟩
            replace aw := aw.mono b9
            replace ar := ar.mono b9
            replace au := au.mono b9
            replace av := av.mono b9
            replace a4 := a4.mono b9
            replace az := az.mono b9
            replace a7 := a7.mono b9
            replace bi := bi.mono b9
            replace bj := bj.mono b9
            replace hv := hv.mono b9
            replace hw := hw.mono b9
            replace bk := bk.mono b9
            replace bn := bn.mono b9
            replace bm := bm.mono b9
            replace bl := bl.mono b9
            replace ff := ff.mono b9
            refine wC (q3) l7 (fun ln => ?_) (fun ln => ?_)
            ·
             rw [ln, cond_true] at H
             refine wp_seq (wp_region_from (Rk 0 1 [(tB 10 false)] l7 ku fun akr zx => ?_))
             refine wf (wp_ret ?_)
             obtain rfl := Option.some.inj H
             exact rt (.one (.c (.bool false))) zx ku rfl
            ·
             rw [ln, cond_false] at H
             refine wp_skip (wp_seq (wp_seq (wp_region_from (Rk 0 3 ((tI 23 (IntKind.i64.wrap ((IntKind.i64.wrap (x112.stop + (Int.tmod (IntKind.i64.wrap where_.n) 4))) + 1))) :: (tS 21 br x147.1.length bt) :: (K5m40 x112 where_ af x34 ag)) l7 ku fun aks zy => ?_))))
             refine wf ?_
             obtain ⟨q4, oh, H⟩ := bnd H
             refine wp_mid' (fun a' w' => ∃ (q8 : Unit) (n2 : Array Value) (k8 : Heap), a' = ⟨n2, []⟩ ∧ Kn 181 (K5e19 d f g ad ae ay a1 at_ r_ a3 a6) [] n2 ∧ Mem ⟨w, h, noX⟩ k8 (K5e19 d f g ad ae ay a1 at_ r_ a3 a6) (K5p34 s r_ u p q ab ac l a m z aa x y more ah x54 ai aj x60 ak x112 bd a9 bh) (K5r38 ah x54 ai al ap aq ao aj x60 ak am an bd a9 bh c2) w' ∧ Heap.le gy k8 ∧ q4 = .go q8) ?_ ?_
             ·
              refine wp_block ?_
              refine wp_loop_n (fun add a' w' => ∃ (x_v30 : Int) (n3 : Array Value) (jy : Heap), a' = ⟨n3, []⟩ ∧ Kn 181 (K5e19 d f g ad ae ay a1 at_ r_ a3 a6) ((tI 23 x_v30) :: (tS 21 br x147.1.length bt) :: (K5m40 x112 where_ af x34 ag)) n3 ∧ Mem ⟨w, h, noX⟩ jy (K5e19 d f g ad ae ay a1 at_ r_ a3 a6) (K5p34 s r_ u p q ab ac l a m z aa x y more ah x54 ai aj x60 ak x112 bd a9 bh) (K5r38 ah x54 ai al ap aq ao aj x60 ak am an bd a9 bh c2) w' ∧ Heap.le gy jy ∧ law_ControlSpare_l3 add r_ where_ x34 x112 x147 x_v30 = some q4) n ?_ ?_
              ·
               exact Exists.intro (IntKind.i64.wrap ((IntKind.i64.wrap (x112.stop + (Int.tmod (IntKind.i64.wrap where_.n) 4))) + 1)) ⟨_, _, rfl, zy.kp, ku, (Heap.le_refl _), oh⟩
              ·
               rintro kw _ amn ⟨x_v30, n3, jy, rfl, zz, my, fm, b6⟩
               clear oh
               obtain _ | kw := kw
               ·
                rw [law_ControlSpare_l3] at b6; cases b6
               rw [law_ControlSpare_l3] at b6
               replace aw := aw.mono fm
               replace ar := ar.mono fm
               replace au := au.mono fm
               refine wp_seq (wp_seq (wp_region_from (Rk 0 2 ((tA 162 (K5c13 s r_ u p q ab ac)) :: (tI 161 x_v30) :: (tI 23 x_v30) :: (tS 21 br x147.1.length bt) :: (K5m40 x112 where_ af x34 ag)) zz my fun akt z1 => ?_)))
               obtain ⟨x163, ex163, b6⟩ := bnd b6
               refine wl fun K hK => ?_
               refine wc [.agg (K5c13 s r_ u p q ab ac)] z1 my (ref_Places_ok kw my.has r_ ((rep_pair (rep_slice aw) (rep_pair (rep_pair rep_int rep_int) (rep_pair (rep_slice ar) (rep_pair (rep_slice au) (rep_pair rep_int (rep_pair rep_int (rep_pair rep_int rep_int))))))) : rep jy r_ _) ex163) fun alp o0 rp s3 j8 fw => ?_
               replace a7 := a7.mono (Heap.le_trans fm j8)
               replace hw := hw.mono (Heap.le_trans fm j8)
               obtain rfl := s3
               refine ⟨.one (.c (.int .i64 x163)), rfl, fun aff (z2 : Kn 181 (K5e19 d f g ad ae ay a1 at_ r_ a3 a6) ((tI 163 x163) :: (tA 162 (K5c13 s r_ u p q ab ac)) :: (tI 161 x_v30) :: (tI 23 x_v30) :: (tS 21 br x147.1.length bt) :: (K5m40 x112 where_ af x34 ag)) aff) => hK _ _ ?_⟩
               refine Rk 3 5 ((tB 168 (decide (x_v30 < (IntKind.i64.wrap ((IntKind.i64.wrap ((IntKind.i64.wrap (2 * x163)) - 1)) - (IntKind.i64.wrap (x112.stop + (Int.tmod (IntKind.i64.wrap where_.n) 4)))))))) :: (tI 23 x_v30) :: (tS 21 br x147.1.length bt) :: (K5m40 x112 where_ af x34 ag)) z2 fw fun aku l8 => ?_
               refine wf (wC (decide (x_v30 < (IntKind.i64.wrap ((IntKind.i64.wrap ((IntKind.i64.wrap (2 * x163)) - 1)) - (IntKind.i64.wrap (x112.stop + (Int.tmod (IntKind.i64.wrap where_.n) 4))))))) l8 (fun lp => ?_) (fun lp => ?_))
               ·
                rw [lp, cond_true] at b6
                refine wp_skip (wp_seq (wp_block (wp_seq (wp_region_G (by kernel_rfl) ?_))))
                replace fw := fw.drew
                refine wpG_of_D [] (K5e19 d f g ad ae ay a1 at_ r_ a3 a6) (K5p34 s r_ u p q ab ac l a m z aa x y more ah x54 ai aj x60 ak x112 bd a9 bh) ?_
                refine Dr [0, 1] [1, 0] ((tI 172 x_v30) :: (tS 171 br x147.1.length bt) :: (tI 23 x_v30) :: (tS 21 br x147.1.length bt) :: (K5m40 x112 where_ af x34 ag)) l8 fw fun akv z3 => ?_
                obtain ⟨x173, ex173, b6⟩ := bnd b6
                obtain ⟨abg, abt, ac4⟩ := idx_some ex173
                obtain ⟨i2, kz, agx, t0, acs, ur⟩ := hw.get (by decide) ac4
                obtain rfl := acs
                have mz : Mem ⟨w, h, noX⟩ o0 [(d, 0), (f, 0), (g, 0), (ad, 0), (ae, 0), (ay, a1 + (Int.tmod (IntKind.i64.wrap at_.n) ((r_.buses.length : Nat) : Int) : Int).toNat * 3), (a3, 0), (a6, 0 + (Int.tmod (IntKind.i64.wrap at_.n) ((r_.buses.length : Nat) : Int) : Int).toNat * 1), (i2, kz + (x_v30 : Int).toNat * 1)] [⟨(K5c13 s r_ u p q ab ac), some 28⟩, ⟨(K5c6 l a m z aa x y), some 50⟩, ⟨(K5c1 more), some 61⟩, ⟨(K5c12 s r_ u p q ah x54 ai), some 28⟩, ⟨(K5c5 l a m z aa aj x60 ak), some 50⟩, ⟨(K5c4 x112), none⟩, ⟨(K5c8 l a m bd a9 bh x y), some 50⟩, ⟨[], none⟩, ⟨[.int .i64 x173], none⟩] (K5r38 ah x54 ai al ap aq ao aj x60 ak am an bd a9 bh c2) (World.drew rp) := fw.addPlc (cs := [.int .i64 x173]) (fun j c hj => ur j _ (map_get hj)) rfl (by kernel_rfl) (by kernel_rfl)
                refine D_index 2 (x_v30) [.int .i64 x173] (fun _ _ _ _ _ h => h) rfl rfl (rfl) rfl (by decide) (by kernel_rfl) (by kernel_rfl) z3 fw.plOk (by rfl) (by rfl) (by rfl) t0 (by rfl) abg abt (by kernel_rfl) fun afg (z4 : Kn 181 [(d, 0), (f, 0), (g, 0), (ad, 0), (ae, 0), (ay, a1 + (Int.tmod (IntKind.i64.wrap at_.n) ((r_.buses.length : Nat) : Int) : Int).toNat * 3), (a3, 0), (a6, 0 + (Int.tmod (IntKind.i64.wrap at_.n) ((r_.buses.length : Nat) : Int) : Int).toNat * 1), (i2, kz + (x_v30 : Int).toNat * 1)] ((tP 173 8 0) :: (tI 172 x_v30) :: (tS 171 br x147.1.length bt) :: (tI 23 x_v30) :: (tS 21 br x147.1.length bt) :: (K5m40 x112 where_ af x34 ag)) afg) => ?_
                refine Dr [3, 4, 5] (dn 5) ((tI 176 x_v30) :: (tS 175 af x34.1.length ag) :: (tI 174 x173) :: (tI 23 x_v30) :: (tS 21 br x147.1.length bt) :: (K5m40 x112 where_ af x34 ag)) z4 mz fun akw z5 => ?_
                obtain ⟨x177, ex177, b6⟩ := bnd b6
                obtain ⟨abh, abu, ac5⟩ := idx_some ex177
                obtain ⟨n7, q5, agy, t1, act, ut⟩ := a7.get (by decide) ac5
                obtain rfl := act
                have hr : Mem ⟨w, h, noX⟩ o0 [(d, 0), (f, 0), (g, 0), (ad, 0), (ae, 0), (ay, a1 + (Int.tmod (IntKind.i64.wrap at_.n) ((r_.buses.length : Nat) : Int) : Int).toNat * 3), (a3, 0), (a6, 0 + (Int.tmod (IntKind.i64.wrap at_.n) ((r_.buses.length : Nat) : Int) : Int).toNat * 1), (i2, kz + (x_v30 : Int).toNat * 1), (n7, q5 + (x_v30 : Int).toNat * 1)] [⟨(K5c13 s r_ u p q ab ac), some 28⟩, ⟨(K5c6 l a m z aa x y), some 50⟩, ⟨(K5c1 more), some 61⟩, ⟨(K5c12 s r_ u p q ah x54 ai), some 28⟩, ⟨(K5c5 l a m z aa aj x60 ak), some 50⟩, ⟨(K5c4 x112), none⟩, ⟨(K5c8 l a m bd a9 bh x y), some 50⟩, ⟨[], none⟩, ⟨[.int .i64 x173], none⟩, ⟨[.int .i64 x177], none⟩] (K5r38 ah x54 ai al ap aq ao aj x60 ak am an bd a9 bh c2) (World.drew rp) := mz.addPlc (cs := [.int .i64 x177]) (fun j c hj => ut j _ (map_get hj)) rfl (by kernel_rfl) (by kernel_rfl)
                refine D_index 6 (x_v30) [.int .i64 x177] (fun _ _ _ _ _ h => h) rfl rfl (rfl) rfl (by decide) (by kernel_rfl) (by kernel_rfl) z5 mz.plOk (by rfl) (by rfl) (by rfl) t1 (by rfl) abh abu (by kernel_rfl) fun afh (z6 : Kn 181 [(d, 0), (f, 0), (g, 0), (ad, 0), (ae, 0), (ay, a1 + (Int.tmod (IntKind.i64.wrap at_.n) ((r_.buses.length : Nat) : Int) : Int).toNat * 3), (a3, 0), (a6, 0 + (Int.tmod (IntKind.i64.wrap at_.n) ((r_.buses.length : Nat) : Int) : Int).toNat * 1), (i2, kz + (x_v30 : Int).toNat * 1), (n7, q5 + (x_v30 : Int).toNat * 1)] ((tP 177 9 0) :: (tI 176 x_v30) :: (tS 175 af x34.1.length ag) :: (tI 174 x173) :: (tI 23 x_v30) :: (tS 21 br x147.1.length bt) :: (K5m40 x112 where_ af x34 ag)) afh) => ?_
                refine Dr [7, 8] (dn 8) ((tB 179 (decide (x173 < x177))) :: (tI 23 x_v30) :: (tS 21 br x147.1.length bt) :: (K5m40 x112 where_ af x34 ag)) z6 hr fun akx l9 => ?_
                refine wpD_end (by kernel_rfl) (wC (decide (x173 < x177)) l9 (fun lq => ?_) (fun lq => ?_))
                ·
                 rw [lq, cond_true] at b6
                 refine wp_seq (wp_region_from (Rk 0 1 [(tB 10 false)] l9 hr fun aky z7 => ?_))
                 refine wf (wp_ret ?_)
                 obtain rfl := Option.some.inj b6
                 obtain rfl := Option.some.inj H
                 exact rt (.one (.c (.bool false))) z7 hr rfl
                ·
                 rw [lq, cond_false] at b6
                 refine wp_skip (wp_region_from (Rk 0 3 ((tI 23 (IntKind.i64.wrap (x_v30 + 1))) :: (tS 21 br x147.1.length bt) :: (K5m40 x112 where_ af x34 ag)) l9 hr fun akz z8 => ?_))
                 refine wf ?_
                 exact Exists.intro kw ⟨Nat.lt_succ_self _, Exists.intro (IntKind.i64.wrap (x_v30 + 1)) ⟨_, _, rfl, ((z8.keep [23, 21, 19, 11, 5] (by rfl)).cut 8 (by kernel_rfl)), (hr.cutPl 8 (by kernel_rfl)), (Heap.le_trans fm j8), b6⟩⟩
               ·
                rw [lp, cond_false] at b6
                refine wp_exit ?_
                obtain rfl := Option.some.inj b6
                exact Exists.intro () ⟨_, _, rfl, l8.kp, fw, (Heap.le_trans fm j8), rfl⟩
             ·
              rintro _ amp ⟨q8, n2, k8, rfl, z9, qa, ah2, rfl⟩
              rw [Ex.bind_go] at H
              refine wp_seq (wp_region_from ?_)
              obtain ⟨x180, ex180, H⟩ := bnd H
              refine wl fun K hK => ?_
              refine wc [] z9 qa (law_awake_ok n qa.has  ex180) fun alr ahs amq s5 ah3 qb => ?_
              obtain rfl := s5
              refine ⟨.one (.c (.bool x180)), rfl, fun afi (aaa : Kn 181 (K5e19 d f g ad ae ay a1 at_ r_ a3 a6) [(tB 180 x180)] afi) => hK _ _ ?_⟩
              refine Rk 1 1 [(tB 10 x180)] aaa qb fun ais u0 => ?_
              refine wf (wp_ret ?_)
              obtain rfl := Option.some.inj H
              exact rt (.one (.c (.bool x180))) u0 qb rfl
     refine D_share (FlT 181 ⟨w, h, noX⟩ (K5e3 d f g ad ae) (K5p29 s r_ u p q ab ac l a m z aa x y more) (K5p28 s r_ u p q ab ac l a m z aa x y more) [] K5f22 [9, 13, 6, 5, 3, 0, 8, 4, 2, 1] (fun mm k3 rw => ∃ (c6 : Option Addr) (c7 : Nat) (d1 : List Value) (d3 : Option Addr) (ex : Nat) (d2 : List Value), mm = ((tP 61 3 4) :: (tS 54 c6 x54.length c7) :: (tS 57 x a.spares.length y) :: (tP 14 4 0) :: (tP 13 3 0) :: (K5m43 af x34 ag at_ where_)) ∧ rw = [⟨c6, x54.length, c7, 61, 2, d1, 0⟩, ⟨d3, 1, ex, 61, 2, d2, 0⟩] ∧ Heap.le ca k3 ∧ Cells k3 x54 d1 ∧ Cells k3 ([more] : List Spare) d2)) ?_ (fun qq => ?_)
     ·
      refine key_float (D_float [(10, [true, false])] ?_ (fun _ _ _ hm => PlOk.forget [3] hm.plOk) (by kernel_rfl) (by kernel_rfl) ⟨?_, trivial⟩)
      ·
       rintro _ _ _ ⟨c6, c7, d1, d3, ex, d2, rfl, rfl, _, _, _⟩
       exact ⟨⟨⟨_, _, _, rfl, rfl, rfl, rfl, rfl, by rfl, by rfl, by rfl, rfl, by kernel_rfl⟩, ⟨⟨_, _, _, rfl, rfl, rfl, rfl, rfl, by rfl, by rfl, by rfl, rfl, by kernel_rfl⟩, trivial⟩⟩, by kernel_rfl⟩
      ·
       intro agz ag8 ade jl ah8 aih afj s6 rs qg r3 g5 j9
       obtain ⟨n8, dm, rfl⟩ := len2 s6
       obtain ⟨gf, gg, rfl⟩ := len2 rs
       obtain rfl : n8 = true := by cases n8 <;> first | rfl | exact (Bool.false_ne_true qg).elim
       obtain ⟨c6, c7, d1, d3, ex, d2, rfl, rfl, ph, ud, ue⟩ := r3
       replace az := az.mono ph
       replace g5 := g5.req [true, false] (by kernel_rfl) qg rfl
       have t2 : Cells jl ([] : List Bool) ([] : List Value) := Cells.nil
       replace g5 : Kn 181 (K5e3 d f g ad ae) ([(tP 61 3 4), (tS 54 c6 x54.length c7), (tS 57 x a.spares.length y), (tP 14 4 0), (tP 13 3 0), (tS 11 af x34.1.length ag), (tP 6 1 0), (tP 5 0 0), (3, .one (.c (.int .u8 at_.n))), (4, .one (.c (.int .u8 where_.n))), (tS 55 gf 0 0)] ++ flM K5f22 [true, dm] [gf, gg]) ade := g5
       replace j9 : Mem ⟨w, h, noX⟩ jl (K5e3 d f g ad ae) (K5p29 s r_ u p q ab ac l a m z aa x y more) [⟨c6, x54.length, c7, 61, 2, d1, 0⟩, ⟨d3, 1, ex, 61, 2, d2, 0⟩, ⟨gf, 0, 0, 4, 1, ([] : List Value), 0⟩, (flr (K5e3 d f g ad ae) ⟨11, 59, 4, 1, 1, [.bool true]⟩ dm gg)] afj := j9
       refine ⟨_, rfl, rfl, fun K hK => ?_⟩
       obtain ⟨hx, j3, acf, _⟩ := id az
       obtain ⟨nc, aab⟩ := app_some ex58
       refine wp_append 2 1 a.spares.length _ (x58.length) _ hx g5 j9 rfl rfl (by decide) rfl (by rfl) (by kernel_rfl) (by rfl) (by rfl) (Cells.len j3) (acf.cell j9.has j3.one) j3.one (by rw [nc]; simp) (by rw [nc]; exact aab) (by decide) fun h1 i3 oi adf afk uu (u1 : Kn 181 (K5e3 d f g ad ae) ([(tS 58 h1 x58.length i3), (tP 61 3 4), (tS 54 c6 x54.length c7), (tS 57 x a.spares.length y), (tP 14 4 0), (tP 13 3 0), (tS 11 af x34.1.length ag), (tP 6 1 0), (tP 5 0 0), (3, .one (.c (.int .u8 at_.n))), (4, .one (.c (.int .u8 where_.n))), (tS 55 gf 0 0)] ++ flM K5f22 [true, dm] [gf, gg]) adf) (pn : Mem ⟨w, h, noX⟩ jl (K5e3 d f g ad ae) (K5p29 s r_ u p q ab ac l a m z aa x y more) [⟨c6, x54.length, c7, 61, 2, d1, 0⟩, ⟨d3, 1, ex, 61, 2, d2, 0⟩, ⟨h1, x58.length, i3, 4, 1, (([] : List Value) ++ hx), oi⟩, (flr (K5e3 d f g ad ae) ⟨11, 59, 4, 1, 1, [.bool true]⟩ dm gg)] afk) => ?_
       have t3 : Cells jl x58 (([] : List Value) ++ hx) := by rw [nc]; exact Cells.append t2 j3
       obtain rfl : oi = 0 := Nat.le_zero.1 uu
       refine hK _ _ (PlOk.forget [3] pn.plOk) ?_
       refine D_perm (flD [⟨11, 59, 4, 1, 1, [.bool true]⟩] [dm] ++ [10, 7, 9, 13, 6, 5, 3, 0, 8, 4, 2, 1]) (by cases dm <;> kernel_rfl) (by cases dm <;> rfl) (ada [dm] _ _ ⟨[gg], _, _, _, [⟨c6, x54.length, c7, 61, 2, d1, 0⟩, ⟨d3, 1, ex, 61, 2, d2, 0⟩, ⟨h1, x58.length, i3, 4, 1, (([] : List Value) ++ hx), 0⟩], rfl, rfl, rfl, ⟨c6, c7, d1, d3, ex, d2, h1, i3, (([] : List Value) ++ hx), rfl, rfl, ph, ud, ue, t3⟩, u1.next [false, true] _ (by kernel_rfl) (by rfl) (by kernel_rfl), pn.pickRows [0, 1, 2, 3] (by kernel_rfl) (by kernel_rfl)⟩)
     refine D_share (FlT 181 ⟨w, h, noX⟩ (K5e3 d f g ad ae) (K5p29 s r_ u p q ab ac l a m z aa x y more) (K5p28 s r_ u p q ab ac l a m z aa x y more) [] K5f22 [13, 6, 5, 3, 0, 8, 4, 2, 1] (fun mm k4 rw => ∃ (c8 : Option Addr) (dd : Nat) (fx : List Value) (f1 : Option Addr) (f4 : Nat) (fy : List Value), mm = ((tP 61 3 4) :: (tS 54 c8 x54.length dd) :: (tP 56 1 2) :: (tP 14 4 0) :: (tP 13 3 0) :: (K5m43 af x34 ag at_ where_)) ∧ rw = [⟨c8, x54.length, dd, 61, 2, fx, 0⟩, ⟨f1, 1, f4, 61, 2, fy, 0⟩] ∧ Heap.le ca k4 ∧ Cells k4 x54 fx ∧ Cells k4 ([more] : List Spare) fy)) ?_ (fun ac6 => ?_)
     ·
      refine key_float (D_float [(9, [false, false])] ?_ (fun _ _ _ hm => PlOk.forget [3] hm.plOk) (by kernel_rfl) (by kernel_rfl) ⟨?_, trivial⟩)
      ·
       rintro _ _ _ ⟨c8, dd, fx, f1, f4, fy, rfl, rfl, _, _, _⟩
       exact ⟨⟨⟨_, _, _, rfl, rfl, rfl, rfl, rfl, by rfl, by rfl, by rfl, rfl, by kernel_rfl⟩, ⟨⟨_, _, _, rfl, rfl, rfl, rfl, rfl, by rfl, by rfl, by rfl, rfl, by kernel_rfl⟩, trivial⟩⟩, by kernel_rfl⟩
      ·
       intro ag0 ag9 adh tf ah9 aii afl s7 ru abi r4 g6 he
       obtain ⟨en, eo, rfl⟩ := len2 s7
       obtain ⟨ii, ij, rfl⟩ := len2 ru
       obtain ⟨c8, dd, fx, f1, f4, fy, rfl, rfl, aah, ub, uc⟩ := r4
       replace g6 := g6.req [false, false] (by kernel_rfl) abi rfl
       replace g6 : Kn 181 (K5e3 d f g ad ae) (((tP 61 3 4) :: (tS 54 c8 x54.length dd) :: (tP 56 1 2) :: (tP 14 4 0) :: (tP 13 3 0) :: (K5m43 af x34 ag at_ where_)) ++ flM K5f22 [en, eo] [ii, ij]) adh := g6
       replace he : Mem ⟨w, h, noX⟩ tf (K5e3 d f g ad ae) (K5p29 s r_ u p q ab ac l a m z aa x y more) [⟨c8, x54.length, dd, 61, 2, fx, 0⟩, ⟨f1, 1, f4, 61, 2, fy, 0⟩, (flr (K5e3 d f g ad ae) ⟨7, 55, 4, 1, 0, []⟩ en ii), (flr (K5e3 d f g ad ae) ⟨11, 59, 4, 1, 1, [.bool true]⟩ eo ij)] afl := he
       refine ⟨_, rfl, rfl, fun K hK => ?_⟩
       refine wp_quiet g6 (PlOk.forget [3] he.plOk) rfl (by decide) (by kernel_rfl) fun adi (u3 : Kn 181 (K5e3 d f g ad ae) (((tS 57 x a.spares.length y) :: (tP 61 3 4) :: (tS 54 c8 x54.length dd) :: (tP 56 1 2) :: (tP 14 4 0) :: (tP 13 3 0) :: (K5m43 af x34 ag at_ where_)) ++ flM K5f22 [en, eo] [ii, ij]) adi) => hK _ _ (PlOk.forget [3] he.plOk) ?_
       refine D_perm (flD K5f22 [en, eo] ++ [9, 13, 6, 5, 3, 0, 8, 4, 2, 1]) (by cases en <;> cases eo <;> kernel_rfl) (by cases en <;> cases eo <;> rfl) (qq [en, eo] _ _ ⟨[ii, ij], _, _, _, [⟨c8, x54.length, dd, 61, 2, fx, 0⟩, ⟨f1, 1, f4, 61, 2, fy, 0⟩], rfl, rfl, rfl, ⟨c8, dd, fx, f1, f4, fy, rfl, rfl, aah, ub, uc⟩, u3.next [true, true] _ (by kernel_rfl) (by rfl) (by kernel_rfl), he.pickRows [0, 1, 2, 3] (by kernel_rfl) (by kernel_rfl)⟩)
     refine D_share (FlT 181 ⟨w, h, noX⟩ (K5e3 d f g ad ae) (K5p29 s r_ u p q ab ac l a m z aa x y more) (K5p28 s r_ u p q ab ac l a m z aa x y more) [] (K5f23 more) [9, 3, 0, 8, 4, 2, 1] (fun mm os rw => ∃ (c3 : Option Addr) (c4 : Nat) (dh : List Value), mm = ((tS 51 c3 x51.length c4) :: (tS 57 x a.spares.length y) :: (tA 52 (K5c1 more)) :: (tP 14 4 0) :: (tP 13 3 0) :: (K5m43 af x34 ag at_ where_)) ∧ rw = [⟨c3, x51.length, c4, 61, 2, dh, 0⟩] ∧ Heap.le ca os ∧ Cells os x51 dh)) ?_ (fun qr => ?_)
     ·
      refine key_float (D_float [(6, [true, false, false])] ?_ (fun _ _ _ hm => PlOk.forget [3] hm.plOk) (by kernel_rfl) (by kernel_rfl) ⟨?_, trivial⟩)
      ·
       rintro _ _ _ ⟨c3, c4, dh, rfl, rfl, _, _⟩
       exact ⟨⟨⟨_, _, _, rfl, rfl, rfl, rfl, rfl, by rfl, by rfl, by rfl, rfl, by kernel_rfl⟩, ⟨⟨_, _, _, rfl, rfl, rfl, rfl, rfl, by rfl, by rfl, by rfl, rfl, by kernel_rfl⟩, ⟨⟨_, _, _, rfl, rfl, rfl, rfl, rfl, by rfl, by rfl, by rfl, rfl, by kernel_rfl⟩, trivial⟩⟩⟩, by kernel_rfl⟩
      ·
       intro ag1 aha adj gq aia aij afm s8 rv qh r5 g7 ka
       obtain ⟨n9, cv, cw, rfl⟩ := len3 s8
       obtain ⟨cf, eh, ei, rfl⟩ := len3 rv
       obtain rfl : n9 = true := by cases n9 <;> first | rfl | exact (Bool.false_ne_true qh).elim
       obtain ⟨c3, c4, dh, rfl, rfl, aai, ua⟩ := r5
       replace g7 := g7.req [true, false, false] (by kernel_rfl) qh rfl
       have jz : Cells gq ([more] : List Spare) ([.int .i64 more.stop, .int .i64 more.tm] : List Value) := ⟨_, _, rfl, ((rep_pair rep_int rep_int) : rep gq (more : Spare) _), rfl⟩
       replace g7 : Kn 181 (K5e3 d f g ad ae) ((K5m45 c3 x51 c4 x a y more af x34 ag at_ where_ cf) ++ flM (K5f23 more) [true, cv, cw] [cf, eh, ei]) adj := g7
       replace ka : Mem ⟨w, h, noX⟩ gq (K5e3 d f g ad ae) (K5p29 s r_ u p q ab ac l a m z aa x y more) [⟨c3, x51.length, c4, 61, 2, dh, 0⟩, ⟨cf, 1, 1, 61, 2, ([.int .i64 more.stop, .int .i64 more.tm] : List Value), 0⟩, (flr (K5e3 d f g ad ae) ⟨7, 55, 4, 1, 0, []⟩ cv eh), (flr (K5e3 d f g ad ae) ⟨11, 59, 4, 1, 1, [.bool true]⟩ cw ei)] afm := ka
       refine ⟨_, rfl, rfl, fun K hK => ?_⟩
       obtain ⟨nd, aac⟩ := app_some ex54
       refine wp_append 0 16 1 _ (x54.length) _ ([.int .i64 more.stop, .int .i64 more.tm] : List Value) g7 ka rfl rfl (by decide) rfl (by rfl) (by kernel_rfl) (by rfl) (by rfl) (Cells.len jz) (ka.rowCell (i := 1) rfl) jz.one (by rw [nd]; simp) (by rw [nd]; exact aac) (by decide) fun fz f2 oj adk afn uv (u5 : Kn 181 (K5e3 d f g ad ae) (((tS 54 fz x54.length f2) :: (K5m45 c3 x51 c4 x a y more af x34 ag at_ where_ cf)) ++ flM (K5f23 more) [true, cv, cw] [cf, eh, ei]) adk) (mc : Mem ⟨w, h, noX⟩ gq (K5e3 d f g ad ae) (K5p29 s r_ u p q ab ac l a m z aa x y more) [⟨fz, x54.length, f2, 61, 2, (dh ++ ([.int .i64 more.stop, .int .i64 more.tm] : List Value)), oj⟩, ⟨cf, 1, 1, 61, 2, ([.int .i64 more.stop, .int .i64 more.tm] : List Value), 0⟩, (flr (K5e3 d f g ad ae) ⟨7, 55, 4, 1, 0, []⟩ cv eh), (flr (K5e3 d f g ad ae) ⟨11, 59, 4, 1, 1, [.bool true]⟩ cw ei)] afn) => ?_
       have t4 : Cells gq x54 (dh ++ ([.int .i64 more.stop, .int .i64 more.tm] : List Value)) := by rw [nd]; exact Cells.append ua jz
       obtain rfl : oj = 0 := Nat.le_zero.1 uv
       refine hK _ _ (PlOk.forget [3] mc.plOk) ?_
       refine D_runF [13] (13 :: 6 :: (flD (K5f23 more) [true, cv, cw] ++ [9, 3, 0, 8, 4, 2, 1])) (((tP 61 3 4) :: (tS 54 fz x54.length f2) :: (K5m45 c3 x51 c4 x a y more af x34 ag at_ where_ cf)) ++ flM (K5f23 more) [true, cv, cw] [cf, eh, ei]) (fun _ _ _ _ _ h => h) u5 (PlOk.forget [3] mc.plOk) (by kernel_rfl) (by rfl) (by cases cv <;> cases cw <;> kernel_rfl) fun adl (u6 : Kn 181 (K5e3 d f g ad ae) (((tP 61 3 4) :: (tS 54 fz x54.length f2) :: (K5m45 c3 x51 c4 x a y more af x34 ag at_ where_ cf)) ++ flM (K5f23 more) [true, cv, cw] [cf, eh, ei]) adl) => ?_
       refine D_perm (flD K5f22 [cv, cw] ++ [9, 13, 6, 5, 3, 0, 8, 4, 2, 1]) (by cases cv <;> cases cw <;> kernel_rfl) (by cases cv <;> cases cw <;> rfl) (qq [cv, cw] _ _ ⟨[eh, ei], _, _, _, [⟨fz, x54.length, f2, 61, 2, (dh ++ ([.int .i64 more.stop, .int .i64 more.tm] : List Value)), 0⟩, ⟨cf, 1, 1, 61, 2, ([.int .i64 more.stop, .int .i64 more.tm] : List Value), 0⟩], rfl, rfl, rfl, ⟨fz, f2, (dh ++ ([.int .i64 more.stop, .int .i64 more.tm] : List Value)), cf, 1, ([.int .i64 more.stop, .int .i64 more.tm] : List Value), rfl, rfl, aai, t4, jz⟩, u6.next [false, true, true] _ (by kernel_rfl) (by rfl) (by kernel_rfl), mc.pickRows [0, 1, 2, 3] (by kernel_rfl) (by kernel_rfl)⟩)
     refine D_share (FlT 181 ⟨w, h, noX⟩ (K5e3 d f g ad ae) (K5p29 s r_ u p q ab ac l a m z aa x y more) (K5p28 s r_ u p q ab ac l a m z aa x y more) [] (K5f23 more) [3, 0, 8, 4, 2, 1] (fun mm ot rw => ∃ (bz : Option Addr) (b1 : Nat) (cu : List Value), mm = ((tS 51 bz x51.length b1) :: (tP 56 1 2) :: (tA 52 (K5c1 more)) :: (tP 14 4 0) :: (tP 13 3 0) :: (K5m43 af x34 ag at_ where_)) ∧ rw = [⟨bz, x51.length, b1, 61, 2, cu, 0⟩] ∧ Heap.le ca ot ∧ Cells ot x51 cu)) ?_ (fun ac7 => ?_)
     ·
      refine key_float (D_float [(6, [true, false, false]), (9, [false, false, false])] ?_ (fun _ _ _ hm => PlOk.forget [3] hm.plOk) (by kernel_rfl) (by kernel_rfl) ⟨?_, ?_, trivial⟩)
      ·
       rintro _ _ _ ⟨bz, b1, cu, rfl, rfl, _, _⟩
       exact ⟨⟨⟨_, _, _, rfl, rfl, rfl, rfl, rfl, by rfl, by rfl, by rfl, rfl, by kernel_rfl⟩, ⟨⟨_, _, _, rfl, rfl, rfl, rfl, rfl, by rfl, by rfl, by rfl, rfl, by kernel_rfl⟩, ⟨⟨_, _, _, rfl, rfl, rfl, rfl, rfl, by rfl, by rfl, by rfl, rfl, by kernel_rfl⟩, trivial⟩⟩⟩, by kernel_rfl⟩
      ·
       intro ag2 ahb adm gr aib aik afo s9 rx qi r6 g8 kb
       obtain ⟨oa, cx, cy, rfl⟩ := len3 s9
       obtain ⟨cg, ej, ek, rfl⟩ := len3 rx
       obtain rfl : oa = true := by cases oa <;> first | rfl | exact (Bool.false_ne_true qi).elim
       obtain ⟨bz, b1, cu, rfl, rfl, aaj, lr⟩ := r6
       replace g8 := g8.req [true, false, false] (by kernel_rfl) qi rfl
       have j0 : Cells gr ([more] : List Spare) ([.int .i64 more.stop, .int .i64 more.tm] : List Value) := ⟨_, _, rfl, ((rep_pair rep_int rep_int) : rep gr (more : Spare) _), rfl⟩
       replace g8 : Kn 181 (K5e3 d f g ad ae) ((K5m46 bz x51 b1 more af x34 ag at_ where_ cg) ++ flM (K5f23 more) [true, cx, cy] [cg, ej, ek]) adm := g8
       replace kb : Mem ⟨w, h, noX⟩ gr (K5e3 d f g ad ae) (K5p29 s r_ u p q ab ac l a m z aa x y more) [⟨bz, x51.length, b1, 61, 2, cu, 0⟩, ⟨cg, 1, 1, 61, 2, ([.int .i64 more.stop, .int .i64 more.tm] : List Value), 0⟩, (flr (K5e3 d f g ad ae) ⟨7, 55, 4, 1, 0, []⟩ cx ej), (flr (K5e3 d f g ad ae) ⟨11, 59, 4, 1, 1, [.bool true]⟩ cy ek)] afo := kb
       refine ⟨_, rfl, rfl, fun K hK => ?_⟩
       obtain ⟨nf, aad⟩ := app_some ex54
       refine wp_append 0 16 1 _ (x54.length) _ ([.int .i64 more.stop, .int .i64 more.tm] : List Value) g8 kb rfl rfl (by decide) rfl (by rfl) (by kernel_rfl) (by rfl) (by rfl) (Cells.len j0) (kb.rowCell (i := 1) rfl) j0.one (by rw [nf]; simp) (by rw [nf]; exact aad) (by decide) fun f0 f3 ok adn afp uw (u7 : Kn 181 (K5e3 d f g ad ae) (((tS 54 f0 x54.length f3) :: (K5m46 bz x51 b1 more af x34 ag at_ where_ cg)) ++ flM (K5f23 more) [true, cx, cy] [cg, ej, ek]) adn) (md : Mem ⟨w, h, noX⟩ gr (K5e3 d f g ad ae) (K5p29 s r_ u p q ab ac l a m z aa x y more) [⟨f0, x54.length, f3, 61, 2, (cu ++ ([.int .i64 more.stop, .int .i64 more.tm] : List Value)), ok⟩, ⟨cg, 1, 1, 61, 2, ([.int .i64 more.stop, .int .i64 more.tm] : List Value), 0⟩, (flr (K5e3 d f g ad ae) ⟨7, 55, 4, 1, 0, []⟩ cx ej), (flr (K5e3 d f g ad ae) ⟨11, 59, 4, 1, 1, [.bool true]⟩ cy ek)] afp) => ?_
       have t5 : Cells gr x54 (cu ++ ([.int .i64 more.stop, .int .i64 more.tm] : List Value)) := by rw [nf]; exact Cells.append lr j0
       obtain rfl : ok = 0 := Nat.le_zero.1 uw
       refine hK _ _ (PlOk.forget [3] md.plOk) ?_
       refine D_runF [13] (13 :: 6 :: (flD (K5f23 more) [true, cx, cy] ++ [3, 0, 8, 4, 2, 1])) (((tP 61 3 4) :: (tS 54 f0 x54.length f3) :: (K5m46 bz x51 b1 more af x34 ag at_ where_ cg)) ++ flM (K5f23 more) [true, cx, cy] [cg, ej, ek]) (fun _ _ _ _ _ h => h) u7 (PlOk.forget [3] md.plOk) (by kernel_rfl) (by rfl) (by cases cx <;> cases cy <;> kernel_rfl) fun ado (u9 : Kn 181 (K5e3 d f g ad ae) (((tP 61 3 4) :: (tS 54 f0 x54.length f3) :: (K5m46 bz x51 b1 more af x34 ag at_ where_ cg)) ++ flM (K5f23 more) [true, cx, cy] [cg, ej, ek]) ado) => ?_
       refine D_perm (flD K5f22 [cx, cy] ++ [13, 6, 5, 3, 0, 8, 4, 2, 1]) (by cases cx <;> cases cy <;> kernel_rfl) (by cases cx <;> cases cy <;> rfl) (ac6 [cx, cy] _ _ ⟨[ej, ek], _, _, _, [⟨f0, x54.length, f3, 61, 2, (cu ++ ([.int .i64 more.stop, .int .i64 more.tm] : List Value)), 0⟩, ⟨cg, 1, 1, 61, 2, ([.int .i64 more.stop, .int .i64 more.tm] : List Value), 0⟩], rfl, rfl, rfl, ⟨f0, f3, (cu ++ ([.int .i64 more.stop, .int .i64 more.tm] : List Value)), cg, 1, ([.int .i64 more.stop, .int .i64 more.tm] : List Value), rfl, rfl, aaj, t5, j0⟩, u9.next [false, true, true] _ (by kernel_rfl) (by rfl) (by kernel_rfl), md.pickRows [0, 1, 2, 3] (by kernel_rfl) (by kernel_rfl)⟩)
      ·
       intro ag3 ahc adp tg aic ail afq ta ry abj r7 g9 hf
       obtain ⟨ep, er, es, rfl⟩ := len3 ta
       obtain ⟨ik, il, im, rfl⟩ := len3 ry
       obtain ⟨bz, b1, cu, rfl, rfl, aak, lr⟩ := r7
       replace g9 := g9.req [false, false, false] (by kernel_rfl) abj rfl
       replace g9 : Kn 181 (K5e3 d f g ad ae) (((tS 51 bz x51.length b1) :: (tP 56 1 2) :: (tA 52 (K5c1 more)) :: (tP 14 4 0) :: (tP 13 3 0) :: (K5m43 af x34 ag at_ where_)) ++ flM (K5f23 more) [ep, er, es] [ik, il, im]) adp := g9
       replace hf : Mem ⟨w, h, noX⟩ tg (K5e3 d f g ad ae) (K5p29 s r_ u p q ab ac l a m z aa x y more) [⟨bz, x51.length, b1, 61, 2, cu, 0⟩, (flr (K5e3 d f g ad ae) ⟨5, 53, 61, 2, 1, (K5c1 more)⟩ ep ik), (flr (K5e3 d f g ad ae) ⟨7, 55, 4, 1, 0, []⟩ er il), (flr (K5e3 d f g ad ae) ⟨11, 59, 4, 1, 1, [.bool true]⟩ es im)] afq := hf
       refine ⟨_, rfl, rfl, fun K hK => ?_⟩
       refine wp_quiet g9 (PlOk.forget [3] hf.plOk) rfl (by decide) (by kernel_rfl) fun adq (vb : Kn 181 (K5e3 d f g ad ae) (((tS 57 x a.spares.length y) :: (tS 51 bz x51.length b1) :: (tP 56 1 2) :: (tA 52 (K5c1 more)) :: (tP 14 4 0) :: (tP 13 3 0) :: (K5m43 af x34 ag at_ where_)) ++ flM (K5f23 more) [ep, er, es] [ik, il, im]) adq) => hK _ _ (PlOk.forget [3] hf.plOk) ?_
       refine D_perm (flD (K5f23 more) [ep, er, es] ++ [9, 3, 0, 8, 4, 2, 1]) (by cases ep <;> cases er <;> cases es <;> kernel_rfl) (by cases ep <;> cases er <;> cases es <;> rfl) (qr [ep, er, es] _ _ ⟨[ik, il, im], _, _, _, [⟨bz, x51.length, b1, 61, 2, cu, 0⟩], rfl, rfl, rfl, ⟨bz, b1, cu, rfl, rfl, aak, lr⟩, vb.next [true, true, true] _ (by kernel_rfl) (by rfl) (by kernel_rfl), hf.pickRows [0, 1, 2, 3] (by kernel_rfl) (by kernel_rfl)⟩)
     refine D_share (FlT 181 ⟨w, h, noX⟩ (K5e3 d f g ad ae) (K5p29 s r_ u p q ab ac l a m z aa x y more) (K5p28 s r_ u p q ab ac l a m z aa x y more) [] (K5f24 more) [9, 8, 4, 2, 1] (fun mm th rw => mm = ((tS 57 x a.spares.length y) :: (tA 52 (K5c1 more)) :: (tS 50 ab r_.spares.length ac) :: (tP 14 4 0) :: (tP 13 3 0) :: (K5m43 af x34 ag at_ where_)) ∧ rw = [] ∧ Heap.le ca th)) ?_ (fun ac8 => ?_)
     ·
      refine key_float (D_float [(3, [true, false, false, false])] ?_ (fun _ _ _ hm => PlOk.forget [3] hm.plOk) (by kernel_rfl) (by kernel_rfl) ⟨?_, trivial⟩)
      ·
       rintro _ _ _ ⟨rfl, rfl, _⟩
       exact ⟨⟨⟨_, _, _, rfl, rfl, rfl, rfl, rfl, by rfl, by rfl, by rfl, rfl, by kernel_rfl⟩, ⟨⟨_, _, _, rfl, rfl, rfl, rfl, rfl, by rfl, by rfl, by rfl, rfl, by kernel_rfl⟩, ⟨⟨_, _, _, rfl, rfl, rfl, rfl, rfl, by rfl, by rfl, by rfl, rfl, by kernel_rfl⟩, ⟨⟨_, _, _, rfl, rfl, rfl, rfl, rfl, by rfl, by rfl, by rfl, rfl, by kernel_rfl⟩, trivial⟩⟩⟩⟩, by kernel_rfl⟩
      ·
       intro ag4 ahd adr jm aid aim afr tb rz qj r8 ha kc
       obtain ⟨ob, dp, dq, dr, rfl⟩ := len4 tb
       obtain ⟨gh, gi, gj, gk, rfl⟩ := len4 rz
       obtain rfl : ob = true := by cases ob <;> first | rfl | exact (Bool.false_ne_true qj).elim
       obtain ⟨rfl, rfl, pi⟩ := r8
       replace au := au.mono pi
       replace ha := ha.req [true, false, false, false] (by kernel_rfl) qj rfl
       have t6 : Cells jm ([] : List Spare) ([] : List Value) := Cells.nil
       replace ha : Kn 181 (K5e3 d f g ad ae) ([(tS 57 x a.spares.length y), (tA 52 (K5c1 more)), (tS 50 ab r_.spares.length ac), (tP 14 4 0), (tP 13 3 0), (tS 11 af x34.1.length ag), (tP 6 1 0), (tP 5 0 0), (3, .one (.c (.int .u8 at_.n))), (4, .one (.c (.int .u8 where_.n))), (tS 48 gh 0 0)] ++ flM (K5f24 more) [true, dp, dq, dr] [gh, gi, gj, gk]) adr := ha
       replace kc : Mem ⟨w, h, noX⟩ jm (K5e3 d f g ad ae) (K5p29 s r_ u p q ab ac l a m z aa x y more) [⟨gh, 0, 0, 61, 2, ([] : List Value), 0⟩, (flr (K5e3 d f g ad ae) ⟨5, 53, 61, 2, 1, (K5c1 more)⟩ dp gi), (flr (K5e3 d f g ad ae) ⟨7, 55, 4, 1, 0, []⟩ dq gj), (flr (K5e3 d f g ad ae) ⟨11, 59, 4, 1, 1, [.bool true]⟩ dr gk)] afr := kc
       refine ⟨_, rfl, rfl, fun K hK => ?_⟩
       obtain ⟨hy, j4, acg, _⟩ := id au
       obtain ⟨ng, aae⟩ := app_some ex51
       refine wp_append 0 16 r_.spares.length _ (x51.length) _ hy ha kc rfl rfl (by decide) rfl (by rfl) (by kernel_rfl) (by rfl) (by rfl) (Cells.len j4) (acg.cell kc.has j4.one) j4.one (by rw [ng]; simp) (by rw [ng]; exact aae) (by decide) fun h2 i4 ol ads afs ux (ve : Kn 181 (K5e3 d f g ad ae) ([(tS 51 h2 x51.length i4), (tS 57 x a.spares.length y), (tA 52 (K5c1 more)), (tS 50 ab r_.spares.length ac), (tP 14 4 0), (tP 13 3 0), (tS 11 af x34.1.length ag), (tP 6 1 0), (tP 5 0 0), (3, .one (.c (.int .u8 at_.n))), (4, .one (.c (.int .u8 where_.n))), (tS 48 gh 0 0)] ++ flM (K5f24 more) [true, dp, dq, dr] [gh, gi, gj, gk]) ads) (po : Mem ⟨w, h, noX⟩ jm (K5e3 d f g ad ae) (K5p29 s r_ u p q ab ac l a m z aa x y more) [⟨h2, x51.length, i4, 61, 2, (([] : List Value) ++ hy), ol⟩, (flr (K5e3 d f g ad ae) ⟨5, 53, 61, 2, 1, (K5c1 more)⟩ dp gi), (flr (K5e3 d f g ad ae) ⟨7, 55, 4, 1, 0, []⟩ dq gj), (flr (K5e3 d f g ad ae) ⟨11, 59, 4, 1, 1, [.bool true]⟩ dr gk)] afs) => ?_
       have t7 : Cells jm x51 (([] : List Value) ++ hy) := by rw [ng]; exact Cells.append t6 j4
       obtain rfl : ol = 0 := Nat.le_zero.1 ux
       refine hK _ _ (PlOk.forget [3] po.plOk) ?_
       refine D_perm (flD (K5f23 more) [dp, dq, dr] ++ [9, 3, 0, 8, 4, 2, 1]) (by cases dp <;> cases dq <;> cases dr <;> kernel_rfl) (by cases dp <;> cases dq <;> cases dr <;> rfl) (qr [dp, dq, dr] _ _ ⟨[gi, gj, gk], _, _, _, [⟨h2, x51.length, i4, 61, 2, (([] : List Value) ++ hy), 0⟩], rfl, rfl, rfl, ⟨h2, i4, (([] : List Value) ++ hy), rfl, rfl, pi, t7⟩, ve.next [false, true, true, true] _ (by kernel_rfl) (by rfl) (by kernel_rfl), po.pickRows [0, 1, 2, 3] (by kernel_rfl) (by kernel_rfl)⟩)
     refine D_share (FlT 181 ⟨w, h, noX⟩ (K5e3 d f g ad ae) (K5p29 s r_ u p q ab ac l a m z aa x y more) (K5p28 s r_ u p q ab ac l a m z aa x y more) [] (K5f24 more) [8, 4, 2, 1] (fun mm ti rw => mm = ((tP 56 1 2) :: (tA 52 (K5c1 more)) :: (tS 50 ab r_.spares.length ac) :: (tP 14 4 0) :: (tP 13 3 0) :: (K5m43 af x34 ag at_ where_)) ∧ rw = [] ∧ Heap.le ca ti)) ?_ (fun ac9 => ?_)
     ·
      refine key_float (D_float [(3, [true, false, false, false]), (9, [false, false, false, false])] ?_ (fun _ _ _ hm => PlOk.forget [3] hm.plOk) (by kernel_rfl) (by kernel_rfl) ⟨?_, ?_, trivial⟩)
      ·
       rintro _ _ _ ⟨rfl, rfl, _⟩
       exact ⟨⟨⟨_, _, _, rfl, rfl, rfl, rfl, rfl, by rfl, by rfl, by rfl, rfl, by kernel_rfl⟩, ⟨⟨_, _, _, rfl, rfl, rfl, rfl, rfl, by rfl, by rfl, by rfl, rfl, by kernel_rfl⟩, ⟨⟨_, _, _, rfl, rfl, rfl, rfl, rfl, by rfl, by rfl, by rfl, rfl, by kernel_rfl⟩, ⟨⟨_, _, _, rfl, rfl, rfl, rfl, rfl, by rfl, by rfl, by rfl, rfl, by kernel_rfl⟩, trivial⟩⟩⟩⟩, by kernel_rfl⟩
      ·
       intro ag5 ahe adt jn aie ain aft tc r0 qk r9 hb kd
       obtain ⟨oc, ds, dt, du, rfl⟩ := len4 tc
       obtain ⟨gl, gm, gn, gp, rfl⟩ := len4 r0
       obtain rfl : oc = true := by cases oc <;> first | rfl | exact (Bool.false_ne_true qk).elim
       obtain ⟨rfl, rfl, pj⟩ := r9
       replace au := au.mono pj
       replace hb := hb.req [true, false, false, false] (by kernel_rfl) qk rfl
       have t8 : Cells jn ([] : List Spare) ([] : List Value) := Cells.nil
       replace hb : Kn 181 (K5e3 d f g ad ae) ([(tP 56 1 2), (tA 52 (K5c1 more)), (tS 50 ab r_.spares.length ac), (tP 14 4 0), (tP 13 3 0), (tS 11 af x34.1.length ag), (tP 6 1 0), (tP 5 0 0), (3, .one (.c (.int .u8 at_.n))), (4, .one (.c (.int .u8 where_.n))), (tS 48 gl 0 0)] ++ flM (K5f24 more) [true, ds, dt, du] [gl, gm, gn, gp]) adt := hb
       replace kd : Mem ⟨w, h, noX⟩ jn (K5e3 d f g ad ae) (K5p29 s r_ u p q ab ac l a m z aa x y more) [⟨gl, 0, 0, 61, 2, ([] : List Value), 0⟩, (flr (K5e3 d f g ad ae) ⟨5, 53, 61, 2, 1, (K5c1 more)⟩ ds gm), (flr (K5e3 d f g ad ae) ⟨7, 55, 4, 1, 0, []⟩ dt gn), (flr (K5e3 d f g ad ae) ⟨11, 59, 4, 1, 1, [.bool true]⟩ du gp)] aft := kd
       refine ⟨_, rfl, rfl, fun K hK => ?_⟩
       obtain ⟨hz, j5, ach, _⟩ := id au
       obtain ⟨nh, aaf⟩ := app_some ex51
       refine wp_append 0 16 r_.spares.length _ (x51.length) _ hz hb kd rfl rfl (by decide) rfl (by rfl) (by kernel_rfl) (by rfl) (by rfl) (Cells.len j5) (ach.cell kd.has j5.one) j5.one (by rw [nh]; simp) (by rw [nh]; exact aaf) (by decide) fun h3 i5 om adu afu uy (vf : Kn 181 (K5e3 d f g ad ae) ([(tS 51 h3 x51.length i5), (tP 56 1 2), (tA 52 (K5c1 more)), (tS 50 ab r_.spares.length ac), (tP 14 4 0), (tP 13 3 0), (tS 11 af x34.1.length ag), (tP 6 1 0), (tP 5 0 0), (3, .one (.c (.int .u8 at_.n))), (4, .one (.c (.int .u8 where_.n))), (tS 48 gl 0 0)] ++ flM (K5f24 more) [true, ds, dt, du] [gl, gm, gn, gp]) adu) (pp : Mem ⟨w, h, noX⟩ jn (K5e3 d f g ad ae) (K5p29 s r_ u p q ab ac l a m z aa x y more) [⟨h3, x51.length, i5, 61, 2, (([] : List Value) ++ hz), om⟩, (flr (K5e3 d f g ad ae) ⟨5, 53, 61, 2, 1, (K5c1 more)⟩ ds gm), (flr (K5e3 d f g ad ae) ⟨7, 55, 4, 1, 0, []⟩ dt gn), (flr (K5e3 d f g ad ae) ⟨11, 59, 4, 1, 1, [.bool true]⟩ du gp)] afu) => ?_
       have t9 : Cells jn x51 (([] : List Value) ++ hz) := by rw [nh]; exact Cells.append t8 j5
       obtain rfl : om = 0 := Nat.le_zero.1 uy
       refine hK _ _ (PlOk.forget [3] pp.plOk) ?_
       refine D_perm (flD (K5f23 more) [ds, dt, du] ++ [3, 0, 8, 4, 2, 1]) (by cases ds <;> cases dt <;> cases du <;> kernel_rfl) (by cases ds <;> cases dt <;> cases du <;> rfl) (ac7 [ds, dt, du] _ _ ⟨[gm, gn, gp], _, _, _, [⟨h3, x51.length, i5, 61, 2, (([] : List Value) ++ hz), 0⟩], rfl, rfl, rfl, ⟨h3, i5, (([] : List Value) ++ hz), rfl, rfl, pj, t9⟩, vf.next [false, true, true, true] _ (by kernel_rfl) (by rfl) (by kernel_rfl), pp.pickRows [0, 1, 2, 3] (by kernel_rfl) (by kernel_rfl)⟩)
      ·
       intro ag6 ahf adv tj aif aio afv td r1 abk sa hc hg
       obtain ⟨et, eu, ev, ew, rfl⟩ := len4 td
       obtain ⟨io, ip, iq, ir, rfl⟩ := len4 r1
       obtain ⟨rfl, rfl, aam⟩ := sa
       replace hc := hc.req [false, false, false, false] (by kernel_rfl) abk rfl
       replace hc : Kn 181 (K5e3 d f g ad ae) (((tP 56 1 2) :: (tA 52 (K5c1 more)) :: (tS 50 ab r_.spares.length ac) :: (tP 14 4 0) :: (tP 13 3 0) :: (K5m43 af x34 ag at_ where_)) ++ flM (K5f24 more) [et, eu, ev, ew] [io, ip, iq, ir]) adv := hc
       replace hg : Mem ⟨w, h, noX⟩ tj (K5e3 d f g ad ae) (K5p29 s r_ u p q ab ac l a m z aa x y more) [(flr (K5e3 d f g ad ae) ⟨0, 48, 61, 2, 0, []⟩ et io), (flr (K5e3 d f g ad ae) ⟨5, 53, 61, 2, 1, (K5c1 more)⟩ eu ip), (flr (K5e3 d f g ad ae) ⟨7, 55, 4, 1, 0, []⟩ ev iq), (flr (K5e3 d f g ad ae) ⟨11, 59, 4, 1, 1, [.bool true]⟩ ew ir)] afv := hg
       refine ⟨_, rfl, rfl, fun K hK => ?_⟩
       refine wp_quiet hc (PlOk.forget [3] hg.plOk) rfl (by decide) (by kernel_rfl) fun adw (vg : Kn 181 (K5e3 d f g ad ae) (((tS 57 x a.spares.length y) :: (tP 56 1 2) :: (tA 52 (K5c1 more)) :: (tS 50 ab r_.spares.length ac) :: (tP 14 4 0) :: (tP 13 3 0) :: (K5m43 af x34 ag at_ where_)) ++ flM (K5f24 more) [et, eu, ev, ew] [io, ip, iq, ir]) adw) => hK _ _ (PlOk.forget [3] hg.plOk) ?_
       refine D_perm (flD (K5f24 more) [et, eu, ev, ew] ++ [9, 8, 4, 2, 1]) (by cases et <;> cases eu <;> cases ev <;> cases ew <;> kernel_rfl) (by cases et <;> cases eu <;> cases ev <;> cases ew <;> rfl) (ac8 [et, eu, ev, ew] _ _ ⟨[io, ip, iq, ir], _, _, ((tS 57 x a.spares.length y) :: (tA 52 (K5c1 more)) :: (tS 50 ab r_.spares.length ac) :: (tP 14 4 0) :: (tP 13 3 0) :: (K5m43 af x34 ag at_ where_)), [], rfl, rfl, rfl, ⟨rfl, rfl, aam⟩, vg.next [true, true, true, true] _ (by kernel_rfl) (by rfl) (by kernel_rfl), hg.pickRows [0, 1, 2, 3] (by kernel_rfl) (by kernel_rfl)⟩)
     exact ac9 [false, false, false, false] _ _ ⟨[none, none, none, none], _, _, ((tP 56 1 2) :: (tA 52 (K5c1 more)) :: (tS 50 ab r_.spares.length ac) :: (tP 14 4 0) :: (tP 13 3 0) :: (K5m43 af x34 ag at_ where_)), [], rfl, rfl, rfl, ⟨rfl, rfl, (Heap.le_refl _)⟩, v4.kp, aaz⟩
    refine D_share (fun W => ∀ (el : Nat), ∀ (em : Nat), ∀ a' w', (∃ (nm : Array Value) (jo : Heap), a' = ⟨nm, []⟩ ∧ Kn 181 [(d, 0), (f, 0), (g, 0), (el, 0), (em, 0)] ((tP 14 4 0) :: (tP 13 3 0) :: (tA 47 (K5c6 l a m z aa x y)) :: (K5m42 s r_ u p q ab ac af x34 ag at_ where_)) nm ∧ Mem ⟨w, h, noX⟩ jo [(d, 0), (f, 0), (g, 0), (el, 0), (em, 0)] (K5p27 s r_ u p q ab ac l a m z aa x y more) [] w' ∧ Heap.le b4 jo) → W [(d, 0), (f, 0), (g, 0), (el, 0), (em, 0)] (K5p26 s r_ u p q ab ac l a m z aa x y more) [1, 2, 3, 0] a' w') ?_ (fun nj => ?_)
    ·
     intro el em
     rintro _ alt ⟨nm, jo, rfl, vh, aaq, aan⟩
     refine D_sync 4 rfl (by kernel_rfl) (by decide) (rfl) (by kernel_rfl) fun K hK => ?_
     refine wst 3 0 (.agg (K5c13 s r_ u p q ab ac)) (K5c13 s r_ u p q ab ac) vh aaq fun afw vj (aar : Mem ⟨w, h, noX⟩ jo [(d, 0), (f, 0), (g, 0), (el, 0), (em, 0)] [⟨(K5c13 s r_ u p q ab ac), some 28⟩, ⟨(K5c6 l a m z aa x y), some 50⟩, ⟨(K5c1 more), some 61⟩, ⟨(K5c13 s r_ u p q ab ac), some 28⟩, ⟨K5c2, some 50⟩] [] afw) => hK _ _ ?_
     refine wpG_of_D [1] [(d, 0), (f, 0), (g, 0), (el, 0), (em, 0)] (K5p26 s r_ u p q ab ac l a m z aa x y more) ?_
     refine D_perm [1, 4, 2, 3, 0] (by kernel_rfl) (by rfl) (qv el em _ _ ?_)
     exact Exists.intro _ ⟨_, rfl, vj.kp, aar, aan⟩
    refine D_share (fun W => ∀ (di : Nat), ∀ a' w', (∃ (nn : Array Value) (jp : Heap), a' = ⟨nn, []⟩ ∧ Kn 181 [(d, 0), (f, 0), (g, 0), (di, 0), (0, 0)] ((tP 13 3 0) :: (tA 47 (K5c6 l a m z aa x y)) :: (K5m42 s r_ u p q ab ac af x34 ag at_ where_)) nn ∧ Mem ⟨w, h, noX⟩ jp [(d, 0), (f, 0), (g, 0), (di, 0), (0, 0)] [⟨(K5c13 s r_ u p q ab ac), some 28⟩, ⟨(K5c6 l a m z aa x y), some 50⟩, ⟨(K5c1 more), some 61⟩, ⟨K5c9, some 28⟩, ⟨[], none⟩] [] w' ∧ Heap.le b4 jp) → W [(d, 0), (f, 0), (g, 0), (di, 0), (0, 0)] [⟨(K5c13 s r_ u p q ab ac), some 28⟩, ⟨(K5c6 l a m z aa x y), some 50⟩, ⟨(K5c1 more), some 61⟩, ⟨[], some 28⟩, ⟨[], none⟩] [1, 2, 0] a' w') ?_ (fun qs => ?_)
    ·
     intro di
     rintro _ alu ⟨nn, jp, rfl, vk, aas, aao⟩
     refine Dl 3 fun K hK => ?_
     refine waA 4 K5c2 vk aas fun iu ady afx (vl : Kn 181 [(d, 0), (f, 0), (g, 0), (di, 0), (iu, 0)] ((tP 14 4 0) :: (tP 13 3 0) :: (tA 47 (K5c6 l a m z aa x y)) :: (K5m42 s r_ u p q ab ac af x34 ag at_ where_)) ady) (pr : Mem ⟨w, h, noX⟩ jp [(d, 0), (f, 0), (g, 0), (di, 0), (iu, 0)] (K5p27 s r_ u p q ab ac l a m z aa x y more) [] afx) => hK _ _ (PlOk.unset 4 rfl (by kernel_rfl) (PlOk.forget [3] pr.plOk)) (D_ext (e' := [(d, 0), (f, 0), (g, 0), (di, 0), (iu, 0)]) (pl' := (K5p26 s r_ u p q ab ac l a m z aa x y more)) (fun _ hp => hp.unset 4 rfl (by kernel_rfl)) ?_)
     refine D_perm [1, 2, 3, 0] (by kernel_rfl) (by rfl) (nj di iu _ _ ?_)
     exact Exists.intro _ ⟨_, rfl, vl.kp, pr, aao⟩
    refine D_share (fun W => ∀ (dj : Nat), ∀ a' w', (∃ (np : Array Value) (jq : Heap), a' = ⟨np, []⟩ ∧ Kn 181 [(d, 0), (f, 0), (g, 0), (0, 0), (dj, 0)] ((tP 14 4 0) :: (tA 47 (K5c6 l a m z aa x y)) :: (K5m42 s r_ u p q ab ac af x34 ag at_ where_)) np ∧ Mem ⟨w, h, noX⟩ jq [(d, 0), (f, 0), (g, 0), (0, 0), (dj, 0)] (K5p25 s r_ u p q ab ac l a m z aa x y more) [] w' ∧ Heap.le b4 jq) → W [(d, 0), (f, 0), (g, 0), (0, 0), (dj, 0)] (K5p25 s r_ u p q ab ac l a m z aa x y more) [1, 3, 0] a' w') ?_ (fun qt => ?_)
    ·
     intro dj
     rintro _ alv ⟨np, jq, rfl, vn, aat, aap⟩
     refine Dl 2 fun K hK => ?_
     refine waA 3 K5c9 vn aat fun iv adz afy (vo : Kn 181 [(d, 0), (f, 0), (g, 0), (iv, 0), (dj, 0)] ((tP 13 3 0) :: (tP 14 4 0) :: (tA 47 (K5c6 l a m z aa x y)) :: (K5m42 s r_ u p q ab ac af x34 ag at_ where_)) adz) (ps : Mem ⟨w, h, noX⟩ jq [(d, 0), (f, 0), (g, 0), (iv, 0), (dj, 0)] (K5p27 s r_ u p q ab ac l a m z aa x y more) [] afy) => hK _ _ (PlOk.unset 3 rfl (by kernel_rfl) (PlOk.forget [3] ps.plOk)) (D_ext (e' := [(d, 0), (f, 0), (g, 0), (iv, 0), (dj, 0)]) (pl' := (K5p26 s r_ u p q ab ac l a m z aa x y more)) (fun _ hp => hp.unset 3 rfl (by kernel_rfl)) ?_)
     refine D_perm [1, 2, 3, 0] (by kernel_rfl) (by rfl) (nj iv dj _ _ ?_)
     exact Exists.intro _ ⟨_, rfl, vo.kp, ps, aap⟩
    refine D_share (fun W => ∀ (c9 : Nat), ∀ (da : Nat), ∀ a' w', (∃ (nq : Array Value) (jr : Heap), a' = ⟨nq, []⟩ ∧ Kn 181 [(d, 0), (f, 0), (g, 0), (c9, 0), (da, 0)] ((tP 14 4 0) :: (tP 13 3 0) :: (K5m42 s r_ u p q ab ac af x34 ag at_ where_)) nq ∧ Mem ⟨w, h, noX⟩ jr [(d, 0), (f, 0), (g, 0), (c9, 0), (da, 0)] (K5p27 s r_ u p q ab ac l a m z aa x y more) [] w' ∧ Heap.le b4 jr) → W [(d, 0), (f, 0), (g, 0), (c9, 0), (da, 0)] (K5p26 s r_ u p q ab ac l a m z aa x y more) [2, 3, 0] a' w') ?_ (fun qu => ?_)
    ·
     intro c9 da
     rintro _ alw ⟨nq, jr, rfl, o6, ke, pk⟩
     refine D_two 1 4 rfl rfl (by kernel_rfl) (by decide) (rfl) (rfl) (fun K hK => ?_) (fun K hK => ?_)
     ·
      refine wp_quiet o6 (PlOk.forget [3] ke.plOk) rfl (by decide) (by kernel_rfl) fun ad0 (vp : Kn 181 [(d, 0), (f, 0), (g, 0), (c9, 0), (da, 0)] ((tA 47 (K5c6 l a m z aa x y)) :: (tP 14 4 0) :: (tP 13 3 0) :: (K5m42 s r_ u p q ab ac af x34 ag at_ where_)) ad0) => hK _ _ (PlOk.forget [3] ke.plOk) ?_
      refine D_perm [1, 2, 3, 0] (by kernel_rfl) (by rfl) (nj c9 da _ _ ?_)
      exact Exists.intro _ ⟨_, rfl, vp.kp, ke, pk⟩
     ·
      refine wst 3 0 (.agg (K5c13 s r_ u p q ab ac)) (K5c13 s r_ u p q ab ac) o6 ke fun afz vq (kf : Mem ⟨w, h, noX⟩ jr [(d, 0), (f, 0), (g, 0), (c9, 0), (da, 0)] [⟨(K5c13 s r_ u p q ab ac), some 28⟩, ⟨(K5c6 l a m z aa x y), some 50⟩, ⟨(K5c1 more), some 61⟩, ⟨(K5c13 s r_ u p q ab ac), some 28⟩, ⟨K5c2, some 50⟩] [] afz) => hK _ _ (PlOk.forget [3] kf.plOk) ?_
      refine Dl 1 fun K hK => ?_
      refine wp_quiet vq (PlOk.forget [3] kf.plOk) rfl (by decide) (by kernel_rfl) fun ad1 (vr : Kn 181 [(d, 0), (f, 0), (g, 0), (c9, 0), (da, 0)] ((tA 47 (K5c6 l a m z aa x y)) :: (tP 14 4 0) :: (tP 13 3 0) :: (K5m42 s r_ u p q ab ac af x34 ag at_ where_)) ad1) => hK _ _ (PlOk.forget [3] kf.plOk) ?_
      refine D_perm [1, 4, 2, 3, 0] (by kernel_rfl) (by rfl) (qv c9 da _ _ ?_)
      exact Exists.intro _ ⟨_, rfl, vr.kp, kf, pk⟩
    refine D_three 1 2 3 rfl rfl rfl (by kernel_rfl) (by decide) (rfl) (rfl) (rfl) (fun K hK => ?_) (fun K hK => ?_) (fun K hK => ?_)
    ·
     refine wp_quiet lu gb.plOk rfl (by decide) (by kernel_rfl) fun ad2 (o7 : Kn 181 [(d, 0), (f, 0), (g, 0), (0, 0), (0, 0)] ((tA 47 (K5c6 l a m z aa x y)) :: (K5m42 s r_ u p q ab ac af x34 ag at_ where_)) ad2) => hK _ _ gb.plOk ?_
     refine D_two 2 3 rfl rfl (by kernel_rfl) (by decide) (rfl) (rfl) (fun K hK => ?_) (fun K hK => ?_)
     ·
      refine waA 3 K5c9 o7 gb fun iw ad3 af0 (vs : Kn 181 [(d, 0), (f, 0), (g, 0), (iw, 0), (0, 0)] ((tP 13 3 0) :: (tA 47 (K5c6 l a m z aa x y)) :: (K5m42 s r_ u p q ab ac af x34 ag at_ where_)) ad3) (pt : Mem ⟨w, h, noX⟩ b4 [(d, 0), (f, 0), (g, 0), (iw, 0), (0, 0)] [⟨(K5c13 s r_ u p q ab ac), some 28⟩, ⟨(K5c6 l a m z aa x y), some 50⟩, ⟨(K5c1 more), some 61⟩, ⟨K5c9, some 28⟩, ⟨[], none⟩] [] af0) => hK _ _ (PlOk.unset 3 rfl (by kernel_rfl) (PlOk.forget [3] pt.plOk)) (D_ext (e' := [(d, 0), (f, 0), (g, 0), (iw, 0), (0, 0)]) (pl' := [⟨(K5c13 s r_ u p q ab ac), some 28⟩, ⟨(K5c6 l a m z aa x y), some 50⟩, ⟨(K5c1 more), some 61⟩, ⟨[], some 28⟩, ⟨[], none⟩]) (fun _ hp => hp.unset 3 rfl (by kernel_rfl)) ?_)
      refine D_perm [1, 2, 0] (by kernel_rfl) (by rfl) (qs iw _ _ ?_)
      exact Exists.intro _ ⟨_, rfl, vs.kp, pt, (Heap.le_refl _)⟩
     ·
      refine waA 4 K5c2 o7 gb fun ix ad4 af1 (vt : Kn 181 [(d, 0), (f, 0), (g, 0), (0, 0), (ix, 0)] ((tP 14 4 0) :: (tA 47 (K5c6 l a m z aa x y)) :: (K5m42 s r_ u p q ab ac af x34 ag at_ where_)) ad4) (pu : Mem ⟨w, h, noX⟩ b4 [(d, 0), (f, 0), (g, 0), (0, 0), (ix, 0)] (K5p25 s r_ u p q ab ac l a m z aa x y more) [] af1) => hK _ _ (PlOk.unset 4 rfl (by kernel_rfl) pu.plOk) (D_ext (e' := [(d, 0), (f, 0), (g, 0), (0, 0), (ix, 0)]) (pl' := (K5p25 s r_ u p q ab ac l a m z aa x y more)) (fun _ hp => hp.unset 4 rfl (by kernel_rfl)) ?_)
      refine D_perm [1, 3, 0] (by kernel_rfl) (by rfl) (qt ix _ _ ?_)
      exact Exists.intro _ ⟨_, rfl, vt.kp, pu, (Heap.le_refl _)⟩
    ·
     refine waA 3 K5c9 lu gb fun db ad5 af2 (o8 : Kn 181 [(d, 0), (f, 0), (g, 0), (db, 0), (0, 0)] ((tP 13 3 0) :: (K5m42 s r_ u p q ab ac af x34 ag at_ where_)) ad5) (hl : Mem ⟨w, h, noX⟩ b4 [(d, 0), (f, 0), (g, 0), (db, 0), (0, 0)] [⟨(K5c13 s r_ u p q ab ac), some 28⟩, ⟨(K5c6 l a m z aa x y), some 50⟩, ⟨(K5c1 more), some 61⟩, ⟨K5c9, some 28⟩, ⟨[], none⟩] [] af2) => hK _ _ (PlOk.unset 3 rfl (by kernel_rfl) (PlOk.forget [3] hl.plOk)) (D_ext (e' := [(d, 0), (f, 0), (g, 0), (db, 0), (0, 0)]) (pl' := [⟨(K5c13 s r_ u p q ab ac), some 28⟩, ⟨(K5c6 l a m z aa x y), some 50⟩, ⟨(K5c1 more), some 61⟩, ⟨[], some 28⟩, ⟨[], none⟩]) (fun _ hp => hp.unset 3 rfl (by kernel_rfl)) ?_)
     refine D_two 1 3 rfl rfl (by kernel_rfl) (by decide) (rfl) (rfl) (fun K hK => ?_) (fun K hK => ?_)
     ·
      refine wp_quiet o8 (PlOk.forget [3] hl.plOk) rfl (by decide) (by kernel_rfl) fun ad6 (vu : Kn 181 [(d, 0), (f, 0), (g, 0), (db, 0), (0, 0)] ((tA 47 (K5c6 l a m z aa x y)) :: (tP 13 3 0) :: (K5m42 s r_ u p q ab ac af x34 ag at_ where_)) ad6) => hK _ _ (PlOk.forget [3] hl.plOk) ?_
      refine D_perm [1, 2, 0] (by kernel_rfl) (by rfl) (qs db _ _ ?_)
      exact Exists.intro _ ⟨_, rfl, vu.kp, hl, (Heap.le_refl _)⟩
     ·
      refine waA 4 K5c2 o8 hl fun iy ad7 af3 (vv : Kn 181 [(d, 0), (f, 0), (g, 0), (db, 0), (iy, 0)] ((tP 14 4 0) :: (tP 13 3 0) :: (K5m42 s r_ u p q ab ac af x34 ag at_ where_)) ad7) (pv : Mem ⟨w, h, noX⟩ b4 [(d, 0), (f, 0), (g, 0), (db, 0), (iy, 0)] (K5p27 s r_ u p q ab ac l a m z aa x y more) [] af3) => hK _ _ (PlOk.unset 4 rfl (by kernel_rfl) (PlOk.forget [3] pv.plOk)) (D_ext (e' := [(d, 0), (f, 0), (g, 0), (db, 0), (iy, 0)]) (pl' := (K5p26 s r_ u p q ab ac l a m z aa x y more)) (fun _ hp => hp.unset 4 rfl (by kernel_rfl)) ?_)
      refine D_perm [2, 3, 0] (by kernel_rfl) (by rfl) (qu db iy _ _ ?_)
      exact Exists.intro _ ⟨_, rfl, vv.kp, pv, (Heap.le_refl _)⟩
    ·
     refine waA 4 K5c2 lu gb fun dc ad8 af4 (o9 : Kn 181 [(d, 0), (f, 0), (g, 0), (0, 0), (dc, 0)] ((tP 14 4 0) :: (K5m42 s r_ u p q ab ac af x34 ag at_ where_)) ad8) (hn : Mem ⟨w, h, noX⟩ b4 [(d, 0), (f, 0), (g, 0), (0, 0), (dc, 0)] (K5p25 s r_ u p q ab ac l a m z aa x y more) [] af4) => hK _ _ (PlOk.unset 4 rfl (by kernel_rfl) hn.plOk) (D_ext (e' := [(d, 0), (f, 0), (g, 0), (0, 0), (dc, 0)]) (pl' := (K5p25 s r_ u p q ab ac l a m z aa x y more)) (fun _ hp => hp.unset 4 rfl (by kernel_rfl)) ?_)
     refine D_two 1 2 rfl rfl (by kernel_rfl) (by decide) (rfl) (rfl) (fun K hK => ?_) (fun K hK => ?_)
     ·
      refine wp_quiet o9 hn.plOk rfl (by decide) (by kernel_rfl) fun ad9 (vw : Kn 181 [(d, 0), (f, 0), (g, 0), (0, 0), (dc, 0)] ((tA 47 (K5c6 l a m z aa x y)) :: (tP 14 4 0) :: (K5m42 s r_ u p q ab ac af x34 ag at_ where_)) ad9) => hK _ _ hn.plOk ?_
      refine D_perm [1, 3, 0] (by kernel_rfl) (by rfl) (qt dc _ _ ?_)
      exact Exists.intro _ ⟨_, rfl, vw.kp, hn, (Heap.le_refl _)⟩
     ·
      refine waA 3 K5c9 o9 hn fun iz aea af5 (vx : Kn 181 [(d, 0), (f, 0), (g, 0), (iz, 0), (dc, 0)] ((tP 13 3 0) :: (tP 14 4 0) :: (K5m42 s r_ u p q ab ac af x34 ag at_ where_)) aea) (pw : Mem ⟨w, h, noX⟩ b4 [(d, 0), (f, 0), (g, 0), (iz, 0), (dc, 0)] (K5p27 s r_ u p q ab ac l a m z aa x y more) [] af5) => hK _ _ (PlOk.unset 3 rfl (by kernel_rfl) (PlOk.forget [3] pw.plOk)) (D_ext (e' := [(d, 0), (f, 0), (g, 0), (iz, 0), (dc, 0)]) (pl' := (K5p26 s r_ u p q ab ac l a m z aa x y more)) (fun _ hp => hp.unset 3 rfl (by kernel_rfl)) ?_)
      refine D_perm [2, 3, 0] (by kernel_rfl) (by rfl) (qu iz dc _ _ ?_)
      exact Exists.intro _ ⟨_, rfl, vx.kp, pw, (Heap.le_refl _)⟩
end Go.Proofs.Ytokchpjijlebiaa
