/- Each call computes its plain function. -/
import Derived.Test.YthcbemnflgjadaaProg
import Derived.Test.YthcbemnflgjadaaNmP0
import Derived.Test.YthcbemnflgjadaaNmWD
import Derived.Test.YthcbemnflgjadaaNmWF
import Derived.Test.YthcbemnflgjadaaNmWG
import Derived.Test.YthcbemnflgjadaaNmWH
set_option linter.all false
namespace Go.Proofs.Ythcbemnflgjadaa
open Go Go.RowKit
open Rep (rep)
open KRep (kv)
open VRep (rv)
abbrev K13e1 (a q y : Nat) : Env := [(a, 0), (q, 0), (y, 0)]
abbrev K13c2 : List SC := [.slice none 0 0, .slice none 0 0, .int .i64 0]
abbrev K13c3 : List SC := [.int .i64 0, .int .i64 0, .int .i64 1, .int .i64 1]
abbrev K13c4 : List SC := [.int .i64 1, .int .i64 0, .int .i64 2, .int .i64 3]
abbrev K13c5 : List SC := [.int .i64 0, .int .i64 1, .int .i64 2, .int .i64 3]
abbrev K13c6 : List SC := [.int .i64 2, .int .i64 0, .int .i64 1, .int .i64 3]
abbrev K13c7 (bh c9 : Option Addr) (x178 : Yard) (da : Nat) : List SC := [.slice bh 2 2, .slice c9 x178.buses.length da, .int .i64 x178.broken]
abbrev K13c8 (he : Option Addr) (x27 : Yard) (hf : Nat) (g7 : Option Addr) (hg : Nat) : List SC := [.slice he x27.room.length hf, .slice g7 x27.buses.length hg, .int .i64 x27.broken]
abbrev K13c9 (g : Option Addr) (x52 : List Int) (l : Nat) (d : Option Addr) (x48 : Yard) (f : Nat) : List SC := [.slice g x52.length l, .slice d x48.buses.length f, .int .i64 x48.broken]
abbrev K13e10 (a s u aa ab : Nat) : Env := [(a, 0), (s, u + (0 : Int).toNat * 1), (aa, ab + (1 : Int).toNat * 1)]
abbrev K13c11 (g8 : Option Addr) (x34 : Yard) (hl : Nat) (g9 : Option Addr) (hn : Nat) : List SC := [.slice g8 x34.room.length hl, .slice g9 x34.buses.length hn, .int .i64 x34.broken]
abbrev K13c12 (cu : Option Addr) (x187 : Yard) (cw : Nat) (cv : Option Addr) (cx : Nat) : List SC := [.slice cu x187.room.length cw, .slice cv x187.buses.length cx, .int .i64 1]
abbrev K13c13 (hz : Option Addr) (x41 : Yard) (h5 : Nat) (h0 : Option Addr) (h6 : Nat) : List SC := [.slice hz x41.room.length h5, .slice h0 x41.buses.length h6, .int .i64 x41.broken]
abbrev K13c14 (gf : Option Addr) (x48 : Yard) (gg : Nat) (d : Option Addr) (f : Nat) : List SC := [.slice gf x48.room.length gg, .slice d x48.buses.length f, .int .i64 x48.broken]
abbrev K13c15 (ha : Option Addr) (x149 : Yard) (ho : Nat) (hb : Option Addr) (hp : Nat) : List SC := [.slice ha x149.room.length ho, .slice hb x149.buses.length hp, .int .i64 x149.broken]
abbrev K13c16 (hc : Option Addr) (x156 : Yard) (hq : Nat) (hd : Option Addr) (hr : Nat) : List SC := [.slice hc x156.room.length hq, .slice hd x156.buses.length hr, .int .i64 x156.broken]
abbrev K13c17 (gx : Option Addr) (x163 : Yard) (gz : Nat) (gy : Option Addr) (g0 : Nat) : List SC := [.slice gx x163.room.length gz, .slice gy x163.buses.length g0, .int .i64 x163.broken]
abbrev K13c18 (h2 : Option Addr) (x171 : Yard) (h8 : Nat) (h3 : Option Addr) (h9 : Nat) : List SC := [.slice h2 x171.room.length h8, .slice h3 x171.buses.length h9, .int .i64 x171.broken]
abbrev K13c19 (h4 : Option Addr) (x178 : Yard) (ia : Nat) (c9 : Option Addr) (da : Nat) : List SC := [.slice h4 x178.room.length ia, .slice c9 x178.buses.length da, .int .i64 x178.broken]
abbrev K13c20 (bo : Option Addr) (x198 : Yard) (bq : Nat) (bk : Option Addr) (dg : List Bus) (bl : Nat) : List SC := [.slice bo x198.room.length bq, .slice bk dg.length bl, .int .i64 x198.broken]
abbrev K13c21 (bs : Option Addr) (x199 : Yard) (bt : Nat) (bp : Option Addr) (ds : List Bus) (br : Nat) : List SC := [.slice bs x199.room.length bt, .slice bp ds.length br, .int .i64 x199.broken]
abbrev K13c22 (cu : Option Addr) (x187 : Yard) (cw : Nat) (cv : Option Addr) (cx : Nat) : List SC := [.slice cu x187.room.length cw, .slice cv x187.buses.length cx, .int .i64 x187.broken]
abbrev K13c23 (f7 : Option Addr) (x197 : Yard) (f9 : Nat) (dh : Option Addr) (dk : Nat) : List SC := [.slice f7 x197.room.length f9, .slice dh x197.buses.length dk, .int .i64 x197.broken]
abbrev K13c24 (bo : Option Addr) (x198 : Yard) (bq : Nat) (bk : Option Addr) (bl : Nat) : List SC := [.slice bo x198.room.length bq, .slice bk x198.buses.length bl, .int .i64 x198.broken]
abbrev K13c25 (bs : Option Addr) (x199 : Yard) (bt : Nat) (bp : Option Addr) (br : Nat) : List SC := [.slice bs x199.room.length bt, .slice bp x199.buses.length br, .int .i64 x199.broken]
abbrev K13c26 (c7 : Option Addr) (x200 : List Int) (dh : Option Addr) (x197 : Yard) (dk : Nat) : List SC := [.slice c7 x200.length x200.length, .slice dh x197.buses.length dk, .int .i64 x197.broken]
abbrev K13e27 (a q y aj al am aw a8 : Nat) : Env := [(a, 0), (q, 0), (y, 0), (aj, 0), (al, 0), (am, 0), (aw, 0 + (1 : Int).toNat * 3), (a8, 0 + (0 : Int).toNat * 3)]
abbrev K13e28 (a s u aa ab ac ad af ah : Nat) : Env := [(a, 0), (s, u + (0 : Int).toNat * 1), (aa, ab + (1 : Int).toNat * 1), (ac, ad + (2 : Int).toNat * 1), (af, ah + (3 : Int).toNat * 1)]
abbrev K13p29 (g : Option Addr) (x52 : List Int) (l : Nat) (d : Option Addr) (x48 : Yard) (f : Nat) (di : Option Addr) (x79 : List Int) (dl : Nat) (dm : Option Addr) (x87 : List Int) (dr : Nat) (d2 : Option Addr) (x95 : List Int) (d5 : Nat) (d3 : Option Addr) (x99 : List Int) (d6 : Nat) : List Plc := [⟨(K13c9 g x52 l d x48 f), some 33⟩, ⟨[.slice di x79.length dl], none⟩, ⟨[.slice dm x87.length dr], none⟩, ⟨[.slice d2 x95.length d5], none⟩, ⟨[.slice d3 x99.length d6], none⟩]
abbrev K13r30 (aq av ay a1 a7 g : Option Addr) (x52 : List Int) (l : Nat) (m : List Value) (d : Option Addr) (x48 : Yard) (f : Nat) (p : List Value) (bd : Option Addr) : List Row := [⟨aq, 4, 4, 3, 1, ([.int .i64 0, .int .i64 0, .int .i64 1, .int .i64 1] : List Value), (([.int .i64 0, .int .i64 0, .int .i64 1, .int .i64 1] : List Value) : List Value).length⟩, ⟨av, 4, 4, 3, 1, ([.int .i64 1, .int .i64 0, .int .i64 2, .int .i64 3] : List Value), (([.int .i64 1, .int .i64 0, .int .i64 2, .int .i64 3] : List Value) : List Value).length⟩, ⟨ay, 4, 4, 3, 1, ([.int .i64 0, .int .i64 0, .int .i64 1, .int .i64 1] : List Value), (([.int .i64 0, .int .i64 0, .int .i64 1, .int .i64 1] : List Value) : List Value).length⟩, ⟨a1, 4, 4, 3, 1, ([.int .i64 0, .int .i64 1, .int .i64 2, .int .i64 3] : List Value), (([.int .i64 0, .int .i64 1, .int .i64 2, .int .i64 3] : List Value) : List Value).length⟩, ⟨a7, 4, 4, 3, 1, ([.int .i64 0, .int .i64 0, .int .i64 1, .int .i64 1] : List Value), (([.int .i64 0, .int .i64 0, .int .i64 1, .int .i64 1] : List Value) : List Value).length⟩, ⟨g, x52.length, l, 3, 1, (m ++ ([.int .i64 2] : List Value)), ((m ++ ([.int .i64 2] : List Value)) : List Value).length⟩, ⟨d, x48.buses.length, f, 70, 3, p, (p : List Value).length⟩, ⟨bd, 1, 1, 3, 1, ([.int .i64 2] : List Value), 0⟩]
abbrev K13m31 (x56 : (List Int) × Int × Int) (ai : Option Addr) (ak : Nat) (x43 : (List Int) × (List Int) × Int × Int) (ae : Option Addr) (x37 : (List (List Int)) × Int) (ag : Nat) : TM := [(tI 12 x56.2.2), (tI 11 x56.2.1), (tS 10 ai x56.1.length ak), (tI 8 x43.2.2.2), (tI 7 x43.2.2.1), (tS 3 ae x37.1.length ag)]
abbrev K13m32 (x194 : (List Int) × Int) (bb : Option Addr) (bc : Nat) (x183 : (List Int) × Int × Int) (x173 : (List Int) × (List Int) × Int × Int) (x167 x159 x152 : (List Int) × Int) : TM := [(tI 19 x194.2), (tS 18 bb x194.1.length bc), (tI 16 x183.2.2), (tI 12 x173.2.2.2), (tI 8 x167.2), (tI 4 x159.2), (tI 2 x152.2)]
abbrev K13m33 (x43 : (List Int) × (List Int) × Int × Int) (x37 : (List (List Int)) × Int) (ae : Option Addr) (ag : Nat) (x30 : (List Int) × Int) (cn : Option Addr) (co : Nat) : TM := [(tI 8 x43.2.2.2), (tI 7 x43.2.2.1), (tI 4 x37.2), (tS 3 ae x37.1.length ag), (tI 2 x30.2), (tS 1 cn x30.1.length co)]
abbrev K13m34 (x173 : (List Int) × (List Int) × Int × Int) (x167 x159 x152 : (List Int) × Int) : TM := [(tI 12 x173.2.2.2), (tI 8 x167.2), (tI 4 x159.2), (tI 2 x152.2)]
abbrev K13m35 (x56 : (List Int) × Int × Int) (ai : Option Addr) (ak : Nat) (x43 : (List Int) × (List Int) × Int × Int) (x37 : (List (List Int)) × Int) (ae : Option Addr) (ag : Nat) : TM := [(tI 12 x56.2.2), (tI 11 x56.2.1), (tS 10 ai x56.1.length ak), (tI 8 x43.2.2.2), (tI 7 x43.2.2.1), (tI 4 x37.2), (tS 3 ae x37.1.length ag)]
abbrev K13m36 (x213 : (List Int) × Int × Int) (a5 : Option Addr) (a6 : Nat) : TM := [(tI 25 x213.2.2), (tI 24 x213.2.1), (tS 23 a5 x213.1.length a6)]
set_option maxRecDepth 100000 in
set_option maxHeartbeats 4000000 in
theorem law_LaneNames_ok (n : Nat) {h : Heap} {w : World} (hh : Has h w)  {r : Bool} (H : law_LaneNames n  = some r) :
  Calls Try.prog 13 #[] w (Ret (fun h v => v = .bool r) h w) := by
 refine enter 280 [] Try.func13 rfl rfl rfl rfl fun t hk => ?_
 have hm := Mem.begin h w hh
 unfold law_LaneNames at H
 refine wp_seq (wp_region_from (Rk 0 1 [] hk hm fun ak3 aal => ?_))
 refine wf (wp_seq (wp_region_from ?_))
 obtain ⟨x27, ex27, H⟩ := bnd H
 refine wl fun K hK => ?_
 refine wc [] aal hm (law_night_ok n hm.has  ex27) fun ane gq ao3 v9 akl ad2 => ?_
 obtain ⟨_, rfl, ⟨_, _, rfl, ⟨he, hf, rfl, o3⟩, ⟨_, _, rfl, ⟨g7, hg, rfl, o5⟩, rfl⟩⟩⟩ := v9
 refine ⟨.one (.agg (K13c8 he x27 hf g7 hg)), rfl, fun ahb (aaa : Kn 280 [] [(tA 27 (K13c8 he x27 hf g7 hg))] ahb) => hK _ _ ?_⟩
 refine wl fun K hK => ?_
 refine wS 3 1 K13c3 aaa ad2 fun aq ahe aox (aam : Kn 280 [] [(tS 28 aq 4 4), (tA 27 (K13c8 he x27 hf g7 hg))] ahe) adx => ?_
 have cc : Cells gq ([0, 0, 1, 1] : List Int) ([.int .i64 0, .int .i64 0, .int .i64 1, .int .i64 1] : List Value) := ⟨_, _, rfl, (rep_int : rep gq (0 : Int) _), ⟨_, _, rfl, (rep_int : rep gq (0 : Int) _), ⟨_, _, rfl, (rep_int : rep gq (1 : Int) _), ⟨_, _, rfl, (rep_int : rep gq (1 : Int) _), rfl⟩⟩⟩⟩
 refine hK _ _ ?_
 refine wl fun K hK => ?_
 refine wS 3 1 K13c4 aam adx fun av ahj vc (aaw : Kn 280 [] [(tS 29 av 4 4), (tS 28 aq 4 4), (tA 27 (K13c8 he x27 hf g7 hg))] ahj) ta => ?_
 have cd : Cells gq ([1, 0, 2, 3] : List Int) ([.int .i64 1, .int .i64 0, .int .i64 2, .int .i64 3] : List Value) := ⟨_, _, rfl, (rep_int : rep gq (1 : Int) _), ⟨_, _, rfl, (rep_int : rep gq (0 : Int) _), ⟨_, _, rfl, (rep_int : rep gq (2 : Int) _), ⟨_, _, rfl, (rep_int : rep gq (3 : Int) _), rfl⟩⟩⟩⟩
 refine hK _ _ ?_
 obtain ⟨qp, lc, afl, lz⟩ := ta.settle (i := 0) rfl
 replace cc := cc.mono lc
 replace lz : Mem ⟨w, h, noX⟩ qp [] [] [⟨aq, 4, 4, 3, 1, ([.int .i64 0, .int .i64 0, .int .i64 1, .int .i64 1] : List Value), (([.int .i64 0, .int .i64 0, .int .i64 1, .int .i64 1] : List Value) : List Value).length⟩, ⟨av, 4, 4, 3, 1, ([.int .i64 1, .int .i64 0, .int .i64 2, .int .i64 3] : List Value), 0⟩] vc := lz
 have cl : RepS qp aq 4 ([0, 0, 1, 1] : List Int) := ⟨_, cc, afl, ta.rowCap (i := 0) rfl⟩
 obtain ⟨nf, ke, afn, l1⟩ := lz.settle (i := 1) rfl
 replace o3 := o3.mono (Heap.le_trans lc ke)
 replace o5 := o5.mono (Heap.le_trans lc ke)
 replace cl := cl.mono ke
 replace cd := cd.mono (Heap.le_trans lc ke)
 replace l1 : Mem ⟨w, h, noX⟩ nf [] [] [⟨aq, 4, 4, 3, 1, ([.int .i64 0, .int .i64 0, .int .i64 1, .int .i64 1] : List Value), (([.int .i64 0, .int .i64 0, .int .i64 1, .int .i64 1] : List Value) : List Value).length⟩, ⟨av, 4, 4, 3, 1, ([.int .i64 1, .int .i64 0, .int .i64 2, .int .i64 3] : List Value), (([.int .i64 1, .int .i64 0, .int .i64 2, .int .i64 3] : List Value) : List Value).length⟩] vc := l1
 have c3 : RepS nf av 4 ([1, 0, 2, 3] : List Int) := ⟨_, cd, afn, lz.rowCap (i := 1) rfl⟩
 obtain ⟨x30, ex30, H⟩ := bnd H
 refine wl fun K hK => ?_
 refine wc [.agg (K13c8 he x27 hf g7 hg), .c (.slice aq 4 4), .c (.slice av 4 4), .c (.slice none 0 0)] aaw l1 (lane_Shunts_ok n l1.has x27 ((rep_pair (rep_slice o3) (rep_pair (rep_slice o5) rep_int)) : rep nf x27 _) ([0, 0, 1, 1] : List Int) cl ([1, 0, 2, 3] : List Int) c3 ([] : List Int) RepS.nil ex30) fun anh aj5 ao2 v3 ld ol => ?_
 obtain ⟨_, _, rfl, ⟨cn, co, rfl, ij⟩, rfl⟩ := v3
 refine ⟨.tup [.c (.slice cn x30.1.length co), .c (.int .i64 x30.2)], rfl, fun ahv (aby : Kn 280 [] [(30, .tup [.c (.slice cn x30.1.length co), .c (.int .i64 x30.2)]), (tS 29 av 4 4), (tS 28 aq 4 4), (tA 27 (K13c8 he x27 hf g7 hg))] ahv) => hK _ _ ?_⟩
 refine Rk 4 5 [(tI 2 x30.2), (tS 1 cn x30.1.length co)] aby ol fun aml ab1 => ?_
 refine wf (wp_seq (wp_region_from ?_))
 obtain ⟨x34, ex34, H⟩ := bnd H
 refine wl fun K hK => ?_
 refine wc [] ab1 ol (law_night_ok n ol.has  ex34) fun ank gr ao4 v7 kf ady => ?_
 obtain ⟨_, rfl, ⟨_, _, rfl, ⟨g8, hl, rfl, pf⟩, ⟨_, _, rfl, ⟨g9, hn, rfl, pg⟩, rfl⟩⟩⟩ := v7
 refine ⟨.one (.agg (K13c11 g8 x34 hl g9 hn)), rfl, fun ah3 (acc : Kn 280 [] [(tA 34 (K13c11 g8 x34 hl g9 hn)), (tI 2 x30.2), (tS 1 cn x30.1.length co)] ah3) => hK _ _ ?_⟩
 refine wl fun K hK => ?_
 refine wS 3 1 K13c3 acc ady fun ay ah7 ape (acf : Kn 280 [] [(tS 35 ay 4 4), (tA 34 (K13c11 g8 x34 hl g9 hn)), (tI 2 x30.2), (tS 1 cn x30.1.length co)] ah7) adz => ?_
 have ce : Cells gr ([0, 0, 1, 1] : List Int) ([.int .i64 0, .int .i64 0, .int .i64 1, .int .i64 1] : List Value) := ⟨_, _, rfl, (rep_int : rep gr (0 : Int) _), ⟨_, _, rfl, (rep_int : rep gr (0 : Int) _), ⟨_, _, rfl, (rep_int : rep gr (1 : Int) _), ⟨_, _, rfl, (rep_int : rep gr (1 : Int) _), rfl⟩⟩⟩⟩
 refine hK _ _ ?_
 refine wl fun K hK => ?_
 refine wS 3 1 K13c5 acf adz fun a1 aie vd (acj : Kn 280 [] [(tS 36 a1 4 4), (tS 35 ay 4 4), (tA 34 (K13c11 g8 x34 hl g9 hn)), (tI 2 x30.2), (tS 1 cn x30.1.length co)] aie) tt => ?_
 have cf : Cells gr ([0, 1, 2, 3] : List Int) ([.int .i64 0, .int .i64 1, .int .i64 2, .int .i64 3] : List Value) := ⟨_, _, rfl, (rep_int : rep gr (0 : Int) _), ⟨_, _, rfl, (rep_int : rep gr (1 : Int) _), ⟨_, _, rfl, (rep_int : rep gr (2 : Int) _), ⟨_, _, rfl, (rep_int : rep gr (3 : Int) _), rfl⟩⟩⟩⟩
 refine hK _ _ ?_
 obtain ⟨qu, g2, aft, l9⟩ := tt.settle (i := 2) rfl
 replace ce := ce.mono g2
 replace l9 : Mem ⟨w, h, noX⟩ qu [] [] [⟨aq, 4, 4, 3, 1, ([.int .i64 0, .int .i64 0, .int .i64 1, .int .i64 1] : List Value), (([.int .i64 0, .int .i64 0, .int .i64 1, .int .i64 1] : List Value) : List Value).length⟩, ⟨av, 4, 4, 3, 1, ([.int .i64 1, .int .i64 0, .int .i64 2, .int .i64 3] : List Value), (([.int .i64 1, .int .i64 0, .int .i64 2, .int .i64 3] : List Value) : List Value).length⟩, ⟨ay, 4, 4, 3, 1, ([.int .i64 0, .int .i64 0, .int .i64 1, .int .i64 1] : List Value), (([.int .i64 0, .int .i64 0, .int .i64 1, .int .i64 1] : List Value) : List Value).length⟩, ⟨a1, 4, 4, 3, 1, ([.int .i64 0, .int .i64 1, .int .i64 2, .int .i64 3] : List Value), 0⟩] vd := l9
 have cm : RepS qu ay 4 ([0, 0, 1, 1] : List Int) := ⟨_, ce, aft, tt.rowCap (i := 2) rfl⟩
 obtain ⟨nl, gw, afw, md⟩ := l9.settle (i := 3) rfl
 replace pf := pf.mono (Heap.le_trans g2 gw)
 replace pg := pg.mono (Heap.le_trans g2 gw)
 replace cm := cm.mono gw
 replace cf := cf.mono (Heap.le_trans g2 gw)
 replace md : Mem ⟨w, h, noX⟩ nl [] [] [⟨aq, 4, 4, 3, 1, ([.int .i64 0, .int .i64 0, .int .i64 1, .int .i64 1] : List Value), (([.int .i64 0, .int .i64 0, .int .i64 1, .int .i64 1] : List Value) : List Value).length⟩, ⟨av, 4, 4, 3, 1, ([.int .i64 1, .int .i64 0, .int .i64 2, .int .i64 3] : List Value), (([.int .i64 1, .int .i64 0, .int .i64 2, .int .i64 3] : List Value) : List Value).length⟩, ⟨ay, 4, 4, 3, 1, ([.int .i64 0, .int .i64 0, .int .i64 1, .int .i64 1] : List Value), (([.int .i64 0, .int .i64 0, .int .i64 1, .int .i64 1] : List Value) : List Value).length⟩, ⟨a1, 4, 4, 3, 1, ([.int .i64 0, .int .i64 1, .int .i64 2, .int .i64 3] : List Value), (([.int .i64 0, .int .i64 1, .int .i64 2, .int .i64 3] : List Value) : List Value).length⟩] vd := md
 have c4 : RepS nl a1 4 ([0, 1, 2, 3] : List Int) := ⟨_, cf, afw, l9.rowCap (i := 3) rfl⟩
 obtain ⟨x37, ex37, H⟩ := bnd H
 refine wl fun K hK => ?_
 refine wc [.agg (K13c11 g8 x34 hl g9 hn), .c (.slice ay 4 4), .c (.slice a1 4 4), .c (.slice none 0 0)] acj md (lane_Morning_ok n md.has x34 ((rep_pair (rep_slice pf) (rep_pair (rep_slice pg) rep_int)) : rep nl x34 _) ([0, 0, 1, 1] : List Int) cm ([0, 1, 2, 3] : List Int) c4 ([] : List Int) RepS.nil ex37) fun an1 akd apx ws g3 o0 => ?_
 obtain ⟨_, _, rfl, ⟨ae, ag, rfl, fq⟩, rfl⟩ := ws
 refine ⟨.tup [.c (.slice ae x37.1.length ag), .c (.int .i64 x37.2)], rfl, fun aiy (ac6 : Kn 280 [] [(37, .tup [.c (.slice ae x37.1.length ag), .c (.int .i64 x37.2)]), (tS 36 a1 4 4), (tS 35 ay 4 4), (tA 34 (K13c11 g8 x34 hl g9 hn)), (tI 2 x30.2), (tS 1 cn x30.1.length co)] aiy) => hK _ _ ?_⟩
 refine Rk 4 5 [(tI 4 x37.2), (tS 3 ae x37.1.length ag), (tI 2 x30.2), (tS 1 cn x30.1.length co)] ac6 o0 fun amu xf => ?_
 refine wf (wp_seq (wp_region_from ?_))
 obtain ⟨x41, ex41, H⟩ := bnd H
 refine wl fun K hK => ?_
 refine wc [] xf o0 (law_night_ok n o0.has  ex41) fun amv je an8 vl gv adk => ?_
 obtain ⟨_, rfl, ⟨_, _, rfl, ⟨hz, h5, rfl, o2⟩, ⟨_, _, rfl, ⟨h0, h6, rfl, o4⟩, rfl⟩⟩⟩ := vl
 refine ⟨.one (.agg (K13c13 hz x41 h5 h0 h6)), rfl, fun agp (x2 : Kn 280 [] [(tA 41 (K13c13 hz x41 h5 h0 h6)), (tI 4 x37.2), (tS 3 ae x37.1.length ag), (tI 2 x30.2), (tS 1 cn x30.1.length co)] agp) => hK _ _ ?_⟩
 refine wl fun K hK => ?_
 refine wS 3 1 K13c3 x2 adk fun a7 agt ai5 (yb : Kn 280 [] [(tS 42 a7 4 4), (tA 41 (K13c13 hz x41 h5 h0 h6)), (tI 4 x37.2), (tS 3 ae x37.1.length ag), (tI 2 x30.2), (tS 1 cn x30.1.length co)] agt) s4 => ?_
 have b8 : Cells je ([0, 0, 1, 1] : List Int) ([.int .i64 0, .int .i64 0, .int .i64 1, .int .i64 1] : List Value) := ⟨_, _, rfl, (rep_int : rep je (0 : Int) _), ⟨_, _, rfl, (rep_int : rep je (0 : Int) _), ⟨_, _, rfl, (rep_int : rep je (1 : Int) _), ⟨_, _, rfl, (rep_int : rep je (1 : Int) _), rfl⟩⟩⟩⟩
 refine hK _ _ ?_
 obtain ⟨m5, fv, ae9, ll⟩ := s4.settle (i := 4) rfl
 replace o2 := o2.mono fv
 replace o4 := o4.mono fv
 replace b8 := b8.mono fv
 replace ll : Mem ⟨w, h, noX⟩ m5 [] [] [⟨aq, 4, 4, 3, 1, ([.int .i64 0, .int .i64 0, .int .i64 1, .int .i64 1] : List Value), (([.int .i64 0, .int .i64 0, .int .i64 1, .int .i64 1] : List Value) : List Value).length⟩, ⟨av, 4, 4, 3, 1, ([.int .i64 1, .int .i64 0, .int .i64 2, .int .i64 3] : List Value), (([.int .i64 1, .int .i64 0, .int .i64 2, .int .i64 3] : List Value) : List Value).length⟩, ⟨ay, 4, 4, 3, 1, ([.int .i64 0, .int .i64 0, .int .i64 1, .int .i64 1] : List Value), (([.int .i64 0, .int .i64 0, .int .i64 1, .int .i64 1] : List Value) : List Value).length⟩, ⟨a1, 4, 4, 3, 1, ([.int .i64 0, .int .i64 1, .int .i64 2, .int .i64 3] : List Value), (([.int .i64 0, .int .i64 1, .int .i64 2, .int .i64 3] : List Value) : List Value).length⟩, ⟨a7, 4, 4, 3, 1, ([.int .i64 0, .int .i64 0, .int .i64 1, .int .i64 1] : List Value), (([.int .i64 0, .int .i64 0, .int .i64 1, .int .i64 1] : List Value) : List Value).length⟩] ai5 := ll
 have c1 : RepS m5 a7 4 ([0, 0, 1, 1] : List Int) := ⟨_, b8, ae9, s4.rowCap (i := 4) rfl⟩
 obtain ⟨x43, ex43, H⟩ := bnd H
 refine wl fun K hK => ?_
 refine wc [.agg (K13c13 hz x41 h5 h0 h6), .c (.slice a7 4 4)] yb ll (lane_Worst_ok n ll.has x41 ((rep_pair (rep_slice o2) (rep_pair (rep_slice o4) rep_int)) : rep m5 x41 _) ([0, 0, 1, 1] : List Int) c1 ex43) fun am2 ajz aop vr gc oc => ?_
 obtain ⟨_, _, _, _, rfl, ⟨py, qa, rfl, aks⟩, ⟨pz, qb, rfl, akt⟩, rfl, rfl⟩ := vr
 refine ⟨.tup [.c (.slice py x43.1.length qa), .c (.slice pz x43.2.1.length qb), .c (.int .i64 x43.2.2.1), .c (.int .i64 x43.2.2.2)], rfl, fun ag7 (y7 : Kn 280 [] [(43, .tup [.c (.slice py x43.1.length qa), .c (.slice pz x43.2.1.length qb), .c (.int .i64 x43.2.2.1), .c (.int .i64 x43.2.2.2)]), (tS 42 a7 4 4), (tA 41 (K13c13 hz x41 h5 h0 h6)), (tI 4 x37.2), (tS 3 ae x37.1.length ag), (tI 2 x30.2), (tS 1 cn x30.1.length co)] ag7) => hK _ _ ?_⟩
 refine Rk 3 9 (K13m33 x43 x37 ae ag x30 cn co) y7 oc fun alh zc => ?_
 refine wf (wp_seq (wp_region_from ?_))
 obtain ⟨x48, ex48, H⟩ := bnd H
 refine wl fun K hK => ?_
 refine wp_callO [] _ zc oc rfl rfl (by decide) (by rfl) rfl (fun _ _ => by kernel_rfl) (law_night_own n oc.has  ex48) fun am9 k5 ajc ak2 vy gd od => ?_
 obtain ⟨gf, gg, m, d, f, p, rfl, rfl, w5, b9⟩ := vy
 replace od : Mem ⟨w, h, noX⟩ k5 [] [] [⟨aq, 4, 4, 3, 1, ([.int .i64 0, .int .i64 0, .int .i64 1, .int .i64 1] : List Value), (([.int .i64 0, .int .i64 0, .int .i64 1, .int .i64 1] : List Value) : List Value).length⟩, ⟨av, 4, 4, 3, 1, ([.int .i64 1, .int .i64 0, .int .i64 2, .int .i64 3] : List Value), (([.int .i64 1, .int .i64 0, .int .i64 2, .int .i64 3] : List Value) : List Value).length⟩, ⟨ay, 4, 4, 3, 1, ([.int .i64 0, .int .i64 0, .int .i64 1, .int .i64 1] : List Value), (([.int .i64 0, .int .i64 0, .int .i64 1, .int .i64 1] : List Value) : List Value).length⟩, ⟨a1, 4, 4, 3, 1, ([.int .i64 0, .int .i64 1, .int .i64 2, .int .i64 3] : List Value), (([.int .i64 0, .int .i64 1, .int .i64 2, .int .i64 3] : List Value) : List Value).length⟩, ⟨a7, 4, 4, 3, 1, ([.int .i64 0, .int .i64 0, .int .i64 1, .int .i64 1] : List Value), (([.int .i64 0, .int .i64 0, .int .i64 1, .int .i64 1] : List Value) : List Value).length⟩, ⟨gf, x48.room.length, gg, 3, 1, m, 0⟩, ⟨d, x48.buses.length, f, 70, 3, p, 0⟩] ajc := od
 refine ⟨.one (.agg (K13c14 gf x48 gg d f)), rfl, fun ahc (z9 : Kn 280 [] ((tA 48 (K13c14 gf x48 gg d f)) :: (K13m33 x43 x37 ae ag x30 cn co)) ahc) => hK _ _ ?_⟩
 refine wl fun K hK => ?_
 refine wa K13c2 z9 od fun a ur aot (aab : Kn 280 [(a, 0)] ((tP 9 0 0) :: (tA 48 (K13c14 gf x48 gg d f)) :: (K13m33 x43 x37 ae ag x30 cn co)) ur) adw => hK _ _ ?_
 refine wl fun K hK => ?_
 refine wst 0 0 (.agg (K13c14 gf x48 gg d f)) (K13c14 gf x48 gg d f) aab adw fun aou aac s7 => hK _ _ ?_
 have aad : Kn 280 [(a, 0)] ((tP 9 0 0) :: (K13m33 x43 x37 ae ag x30 cn co)) ur := aac.kp
 refine wf (wp_seq (wp_region_from (Rk 0 2 ((tS 50 gf x48.room.length gg) :: (tP 9 0 0) :: (K13m33 x43 x37 ae ag x30 cn co)) aad s7 fun alx aae => ?_)))
 refine wl fun K hK => ?_
 refine wS 3 1 [.int .i64 2] aae s7 fun bd ahd aov (aaf : Kn 280 [(a, 0)] ((tS 51 bd 1 1) :: (tS 50 gf x48.room.length gg) :: (tP 9 0 0) :: (K13m33 x43 x37 ae ag x30 cn co)) ahd) s8 => ?_
 have ca : Cells k5 ([2] : List Int) ([.int .i64 2] : List Value) := ⟨_, _, rfl, (rep_int : rep k5 (2 : Int) _), rfl⟩
 refine hK _ _ ?_
 obtain ⟨x52, ex52, H⟩ := bnd H
 obtain ⟨pp, adb⟩ := app_some ex52
 refine wl fun K hK => ?_
 refine wp_append 5 8 1 _ (x52.length) _ ([.int .i64 2] : List Value) aaf s8 rfl rfl (by decide) rfl (by rfl) (by kernel_rfl) (by rfl) (by rfl) (Cells.len ca) (s8.rowCell (i := 7) rfl) ca.one (by rw [pp]; simp <;> omega) (by rw [pp]; exact adb) (by decide) fun g l vi ahf aow xe (aag : Kn 280 [(a, 0)] ((tS 52 g x52.length l) :: (tS 51 bd 1 1) :: (tS 50 gf x48.room.length gg) :: (tP 9 0 0) :: (K13m33 x43 x37 ae ag x30 cn co)) ahf) s9 => ?_
 have cb : Cells k5 x52 (m ++ ([.int .i64 2] : List Value)) := by rw [pp]; exact Cells.append w5 ca
 obtain rfl : vi = 0 := Nat.le_zero.1 xe
 refine hK _ _ ?_
 refine Rk 4 1 ((tP 53 0 0) :: (tS 52 g x52.length l) :: (tP 9 0 0) :: (K13m33 x43 x37 ae ag x30 cn co)) aag s9 fun ahg aah => ?_
 refine wl fun K hK => ?_
 refine wst 0 0 (.c (.slice g x52.length l)) (K13c9 g x52 l d x48 f) aah s9 fun vb aai oe => hK _ _ ?_
 have aaj : Kn 280 [(a, 0)] ((tP 9 0 0) :: (K13m33 x43 x37 ae ag x30 cn co)) ahg := aai.kp
 refine wf (wp_seq (wp_region_from (Rk 0 1 ((tA 55 (K13c9 g x52 l d x48 f)) :: (K13m33 x43 x37 ae ag x30 cn co)) aaj oe fun aly aak => ?_)))
 obtain ⟨qm, fb, afh, lv⟩ := oe.settle (i := 5) rfl
 replace cb := cb.mono fb
 replace lv : Mem ⟨w, h, noX⟩ qm [(a, 0)] [⟨(K13c9 g x52 l d x48 f), some 33⟩] [⟨aq, 4, 4, 3, 1, ([.int .i64 0, .int .i64 0, .int .i64 1, .int .i64 1] : List Value), (([.int .i64 0, .int .i64 0, .int .i64 1, .int .i64 1] : List Value) : List Value).length⟩, ⟨av, 4, 4, 3, 1, ([.int .i64 1, .int .i64 0, .int .i64 2, .int .i64 3] : List Value), (([.int .i64 1, .int .i64 0, .int .i64 2, .int .i64 3] : List Value) : List Value).length⟩, ⟨ay, 4, 4, 3, 1, ([.int .i64 0, .int .i64 0, .int .i64 1, .int .i64 1] : List Value), (([.int .i64 0, .int .i64 0, .int .i64 1, .int .i64 1] : List Value) : List Value).length⟩, ⟨a1, 4, 4, 3, 1, ([.int .i64 0, .int .i64 1, .int .i64 2, .int .i64 3] : List Value), (([.int .i64 0, .int .i64 1, .int .i64 2, .int .i64 3] : List Value) : List Value).length⟩, ⟨a7, 4, 4, 3, 1, ([.int .i64 0, .int .i64 0, .int .i64 1, .int .i64 1] : List Value), (([.int .i64 0, .int .i64 0, .int .i64 1, .int .i64 1] : List Value) : List Value).length⟩, ⟨g, x52.length, l, 3, 1, (m ++ ([.int .i64 2] : List Value)), ((m ++ ([.int .i64 2] : List Value)) : List Value).length⟩, ⟨d, x48.buses.length, f, 70, 3, p, 0⟩, ⟨bd, 1, 1, 3, 1, ([.int .i64 2] : List Value), 0⟩] vb := lv
 have ck : RepS qm g l x52 := ⟨_, cb, afh, oe.rowCap (i := 5) rfl⟩
 obtain ⟨nb, er, afi, lw⟩ := lv.settle (i := 6) rfl
 replace ck := ck.mono er
 replace b9 := b9.mono (Heap.le_trans fb er)
 replace lw : Mem ⟨w, h, noX⟩ nb [(a, 0)] [⟨(K13c9 g x52 l d x48 f), some 33⟩] (K13r30 aq av ay a1 a7 g x52 l m d x48 f p bd) vb := lw
 have c2 : RepS nb d f x48.buses := ⟨_, b9, afi, lv.rowCap (i := 6) rfl⟩
 obtain ⟨x56, ex56, H⟩ := bnd H
 refine wl fun K hK => ?_
 refine wc [.agg (K13c9 g x52 l d x48 f)] aak lw (lane_Best_ok n lw.has (Yard.mk x52 x48.buses x48.broken) ((rep_pair (rep_slice ck) (rep_pair (rep_slice c2) rep_int)) : rep nb (Yard.mk x52 x48.buses x48.broken) _) ex56) fun anb nc aoy vz ek hv => ?_
 replace cl := cl.mono (Heap.le_trans (Heap.le_trans (Heap.le_trans (Heap.le_trans (Heap.le_trans (Heap.le_trans (Heap.le_trans (Heap.le_trans (Heap.le_trans (Heap.le_trans (Heap.le_trans ld kf) g2) gw) g3) gv) fv) gc) gd) fb) er) ek)
 replace c3 := c3.mono (Heap.le_trans (Heap.le_trans (Heap.le_trans (Heap.le_trans (Heap.le_trans (Heap.le_trans (Heap.le_trans (Heap.le_trans (Heap.le_trans (Heap.le_trans (Heap.le_trans ld kf) g2) gw) g3) gv) fv) gc) gd) fb) er) ek)
 replace ij := ij.mono (Heap.le_trans (Heap.le_trans (Heap.le_trans (Heap.le_trans (Heap.le_trans (Heap.le_trans (Heap.le_trans (Heap.le_trans (Heap.le_trans (Heap.le_trans kf g2) gw) g3) gv) fv) gc) gd) fb) er) ek)
 replace cm := cm.mono (Heap.le_trans (Heap.le_trans (Heap.le_trans (Heap.le_trans (Heap.le_trans (Heap.le_trans (Heap.le_trans g3 gv) fv) gc) gd) fb) er) ek)
 replace c4 := c4.mono (Heap.le_trans (Heap.le_trans (Heap.le_trans (Heap.le_trans (Heap.le_trans (Heap.le_trans (Heap.le_trans g3 gv) fv) gc) gd) fb) er) ek)
 replace fq := fq.mono (Heap.le_trans (Heap.le_trans (Heap.le_trans (Heap.le_trans (Heap.le_trans (Heap.le_trans gv fv) gc) gd) fb) er) ek)
 replace c1 := c1.mono (Heap.le_trans (Heap.le_trans (Heap.le_trans (Heap.le_trans gc gd) fb) er) ek)
 replace ck := ck.mono ek
 replace c2 := c2.mono ek
 replace cc := cc.mono (Heap.le_trans (Heap.le_trans (Heap.le_trans (Heap.le_trans (Heap.le_trans (Heap.le_trans (Heap.le_trans (Heap.le_trans (Heap.le_trans (Heap.le_trans (Heap.le_trans (Heap.le_trans ke ld) kf) g2) gw) g3) gv) fv) gc) gd) fb) er) ek)
 replace cd := cd.mono (Heap.le_trans (Heap.le_trans (Heap.le_trans (Heap.le_trans (Heap.le_trans (Heap.le_trans (Heap.le_trans (Heap.le_trans (Heap.le_trans (Heap.le_trans (Heap.le_trans ld kf) g2) gw) g3) gv) fv) gc) gd) fb) er) ek)
 replace ce := ce.mono (Heap.le_trans (Heap.le_trans (Heap.le_trans (Heap.le_trans (Heap.le_trans (Heap.le_trans (Heap.le_trans (Heap.le_trans gw g3) gv) fv) gc) gd) fb) er) ek)
 replace cf := cf.mono (Heap.le_trans (Heap.le_trans (Heap.le_trans (Heap.le_trans (Heap.le_trans (Heap.le_trans (Heap.le_trans g3 gv) fv) gc) gd) fb) er) ek)
 replace b8 := b8.mono (Heap.le_trans (Heap.le_trans (Heap.le_trans (Heap.le_trans gc gd) fb) er) ek)
 replace cb := cb.mono (Heap.le_trans er ek)
 replace b9 := b9.mono ek
 replace ca := ca.mono (Heap.le_trans (Heap.le_trans fb er) ek)
 obtain ⟨_, _, _, rfl, ⟨ai, ak, rfl, gk⟩, rfl, rfl⟩ := vz
 refine ⟨.tup [.c (.slice ai x56.1.length ak), .c (.int .i64 x56.2.1), .c (.int .i64 x56.2.2)], rfl, fun ahh (aan : Kn 280 [(a, 0)] ((56, .tup [.c (.slice ai x56.1.length ak), .c (.int .i64 x56.2.1), .c (.int .i64 x56.2.2)]) :: (tA 55 (K13c9 g x52 l d x48 f)) :: (K13m33 x43 x37 ae ag x30 cn co)) ahh) => hK _ _ ?_⟩
 refine Rk 2 7 ((tI 12 x56.2.2) :: (tI 11 x56.2.1) :: (tS 10 ai x56.1.length ak) :: (K13m33 x43 x37 ae ag x30 cn co)) aan hv fun alz aao => ?_
 refine wf (wp_seq (wp_seq ?_))
 obtain ⟨ix, z, H⟩ := bnd H
 refine wp_mid' (fun a' w' => ∃ (pq : Array Value) (nd : Heap), a' = ⟨pq, []⟩ ∧ Kn 280 [(a, 0)] [(tB 147 ix)] pq ∧ Mem ⟨w, h, noX⟩ nd [(a, 0)] [⟨(K13c9 g x52 l d x48 f), some 33⟩] (K13r30 aq av ay a1 a7 g x52 l m d x48 f p bd) w' ∧ Heap.le nc nd) ?_ ?_
 ·
  as_aux_lemma =>
   refine wp_region_G (by kernel_rfl) ?_
   replace hv := hv.drew
   refine wpG_of_D [] [(a, 0)] [⟨(K13c9 g x52 l d x48 f), some 33⟩] ?_
   refine Df [0, 1, 2] [2, 1, 0] [(tB 62 (x30.2 != 0)), (tI 12 x56.2.2), (tI 11 x56.2.1), (tS 10 ai x56.1.length ak), (tI 8 x43.2.2.2), (tI 7 x43.2.2.1), (tI 4 x37.2), (tS 3 ae x37.1.length ag), (tS 1 cn x30.1.length co)] aao hv fun ut rn => ?_
   rcases Bool.eq_false_or_eq_true ((x30.2 != 0)) with jy | jy
   ·
    rw [jy, cond_true] at z
    have aap : Kn 280 [(a, 0)] [(tB 62 true), (tI 12 x56.2.2), (tI 11 x56.2.1), (tS 10 ai x56.1.length ak), (tI 8 x43.2.2.2), (tI 7 x43.2.2.1), (tI 4 x37.2), (tS 3 ae x37.1.length ag), (tS 1 cn x30.1.length co)] ut := (rn.setB 62 true (by rfl) jy).kp
    refine Df [3, 4, 5, 6, 7, 8, 9, 10, 11, 12, 13, 14, 15, 16, 17, 18, 19, 20, 21, 22, 23, 24, 25, 26, 27, 28, 29, 30, 31, 32, 33, 34, 35, 36, 37, 38, 39, 40, 41, 42, 43, 44, 45, 46, 47, 48, 49, 50, 51, 52, 53, 54, 55, 56, 57, 58, 59, 60, 61, 62, 63, 64, 65, 66, 67, 68, 69, 70, 71, 72, 73, 74, 75, 76, 77, 78, 79, 80, 81, 82, 83, 84, 85, 86, 87] (dn 87) [(tB 147 true)] aap hv fun al0 aaq => ?_
    refine wpD_end (by kernel_rfl) ?_
    obtain rfl := Option.some.inj z
    exact Exists.intro _ ⟨_, rfl, aaq.kp, hv, (Heap.le_refl _)⟩
   ·
    rw [jy, cond_false] at z
    have aar : Kn 280 [(a, 0)] [(tB 62 false), (tI 12 x56.2.2), (tI 11 x56.2.1), (tS 10 ai x56.1.length ak), (tI 8 x43.2.2.2), (tI 7 x43.2.2.1), (tI 4 x37.2), (tS 3 ae x37.1.length ag), (tS 1 cn x30.1.length co)] ut := (rn.setB 62 false (by rfl) jy).kp
    refine Df [3] (dn 3) ((tS 63 cn x30.1.length co) :: (tB 62 false) :: (K13m35 x56 ai ak x43 x37 ae ag)) aar hv fun al1 ro => ?_
    refine D_loud 4 rfl (by kernel_rfl) (by decide) (wantedS_sound ro (by kernel_rfl)) fun K hK => ?_
    refine wS 3 1 [.int .i64 2] ro hv fun d9 ahi ajd (rp : Kn 280 [(a, 0)] ((tS 64 d9 1 1) :: (tS 63 cn x30.1.length co) :: (tB 62 false) :: (K13m35 x56 ai ak x43 x37 ae ag)) ahi) og => ?_
    have ej : Cells nc ([2] : List Int) ([.int .i64 2] : List Value) := ⟨_, _, rfl, (rep_int : rep nc (2 : Int) _), rfl⟩
    refine hK _ _ og.plOk ?_
    obtain ⟨qn, b3, afj, lx⟩ := og.settle (i := 8) rfl
    replace ij := ij.mono b3
    replace ej := ej.mono b3
    replace lx : Mem ⟨w, h, noX⟩ qn [(a, 0)] [⟨(K13c9 g x52 l d x48 f), some 33⟩] [⟨aq, 4, 4, 3, 1, ([.int .i64 0, .int .i64 0, .int .i64 1, .int .i64 1] : List Value), (([.int .i64 0, .int .i64 0, .int .i64 1, .int .i64 1] : List Value) : List Value).length⟩, ⟨av, 4, 4, 3, 1, ([.int .i64 1, .int .i64 0, .int .i64 2, .int .i64 3] : List Value), (([.int .i64 1, .int .i64 0, .int .i64 2, .int .i64 3] : List Value) : List Value).length⟩, ⟨ay, 4, 4, 3, 1, ([.int .i64 0, .int .i64 0, .int .i64 1, .int .i64 1] : List Value), (([.int .i64 0, .int .i64 0, .int .i64 1, .int .i64 1] : List Value) : List Value).length⟩, ⟨a1, 4, 4, 3, 1, ([.int .i64 0, .int .i64 1, .int .i64 2, .int .i64 3] : List Value), (([.int .i64 0, .int .i64 1, .int .i64 2, .int .i64 3] : List Value) : List Value).length⟩, ⟨a7, 4, 4, 3, 1, ([.int .i64 0, .int .i64 0, .int .i64 1, .int .i64 1] : List Value), (([.int .i64 0, .int .i64 0, .int .i64 1, .int .i64 1] : List Value) : List Value).length⟩, ⟨g, x52.length, l, 3, 1, (m ++ ([.int .i64 2] : List Value)), ((m ++ ([.int .i64 2] : List Value)) : List Value).length⟩, ⟨d, x48.buses.length, f, 70, 3, p, (p : List Value).length⟩, ⟨bd, 1, 1, 3, 1, ([.int .i64 2] : List Value), 0⟩, ⟨d9, 1, 1, 3, 1, ([.int .i64 2] : List Value), (([.int .i64 2] : List Value) : List Value).length⟩] ajd := lx
    have fi : RepS qn d9 1 ([2] : List Int) := ⟨_, ej, afj, og.rowCap (i := 8) rfl⟩
    obtain ⟨x65, ex65, z⟩ := bnd z
    refine D_loud 5 rfl (by kernel_rfl) (by decide) (wantedS_sound rp (by kernel_rfl)) fun K hK => ?_
    refine wc [.c (.slice cn x30.1.length co), .c (.slice d9 1 1)] rp lx (law_ints_ok n lx.has x30.1 ij ([2] : List Int) fi ex65) fun anc qo aoz v0 b4 fw => ?_
    replace cl := cl.mono (Heap.le_trans b3 b4)
    replace c3 := c3.mono (Heap.le_trans b3 b4)
    replace cm := cm.mono (Heap.le_trans b3 b4)
    replace c4 := c4.mono (Heap.le_trans b3 b4)
    replace fq := fq.mono (Heap.le_trans b3 b4)
    replace c1 := c1.mono (Heap.le_trans b3 b4)
    replace ck := ck.mono (Heap.le_trans b3 b4)
    replace c2 := c2.mono (Heap.le_trans b3 b4)
    replace gk := gk.mono (Heap.le_trans b3 b4)
    replace fi := fi.mono b4
    replace cc := cc.mono (Heap.le_trans b3 b4)
    replace cd := cd.mono (Heap.le_trans b3 b4)
    replace ce := ce.mono (Heap.le_trans b3 b4)
    replace cf := cf.mono (Heap.le_trans b3 b4)
    replace b8 := b8.mono (Heap.le_trans b3 b4)
    replace cb := cb.mono (Heap.le_trans b3 b4)
    replace b9 := b9.mono (Heap.le_trans b3 b4)
    replace ca := ca.mono (Heap.le_trans b3 b4)
    replace ej := ej.mono b4
    obtain rfl := v0
    refine ⟨.one (.c (.bool x65)), rfl, fun ahk (aas : Kn 280 [(a, 0)] ((tB 65 x65) :: (tS 64 d9 1 1) :: (tS 63 cn x30.1.length co) :: (tB 62 false) :: (K13m35 x56 ai ak x43 x37 ae ag)) ahk) => hK _ _ fw.plOk ?_⟩
    refine Df [6, 7, 8] (dn 8) ((tB 68 (!x65)) :: (K13m35 x56 ai ak x43 x37 ae ag)) aas fw fun uu rq => ?_
    rcases Bool.eq_false_or_eq_true ((!x65)) with jz | jz
    ·
     rw [jz, cond_true] at z
     have aat : Kn 280 [(a, 0)] ((tB 68 true) :: (K13m35 x56 ai ak x43 x37 ae ag)) uu := (rq.setB 68 true (by rfl) jz).kp
     refine Df [9, 10, 11, 12, 13, 14, 15, 16, 17, 18, 19, 20, 21, 22, 23, 24, 25, 26, 27, 28, 29, 30, 31, 32, 33, 34, 35, 36, 37, 38, 39, 40, 41, 42, 43, 44, 45, 46, 47, 48, 49, 50, 51, 52, 53, 54, 55, 56, 57, 58, 59, 60, 61, 62, 63, 64, 65, 66, 67, 68, 69, 70, 71, 72, 73, 74, 75, 76, 77, 78, 79, 80, 81, 82, 83, 84, 85, 86, 87] (dn 87) [(tB 147 true)] aat fw fun al2 aau => ?_
     refine wpD_end (by kernel_rfl) ?_
     obtain rfl := Option.some.inj z
     exact Exists.intro _ ⟨_, rfl, aau.kp, (fw.cutRw 8), (Heap.le_trans b3 b4)⟩
    ·
     rw [jz, cond_false] at z
     have aav : Kn 280 [(a, 0)] ((tB 68 false) :: (K13m35 x56 ai ak x43 x37 ae ag)) uu := (rq.setB 68 false (by rfl) jz).kp
     refine Df [9, 10, 11, 12] (dn 12) ((tB 72 (x37.2 != 0)) :: (K13m31 x56 ai ak x43 ae x37 ag)) aav fw fun uv rr => ?_
     rcases Bool.eq_false_or_eq_true ((x37.2 != 0)) with j0 | j0
     ·
      rw [j0, cond_true] at z
      have aax : Kn 280 [(a, 0)] ((tB 72 true) :: (K13m31 x56 ai ak x43 ae x37 ag)) uv := (rr.setB 72 true (by rfl) j0).kp
      refine Df [13, 14, 15, 16, 17, 18, 19, 20, 21, 22, 23, 24, 25, 26, 27, 28, 29, 30, 31, 32, 33, 34, 35, 36, 37, 38, 39, 40, 41, 42, 43, 44, 45, 46, 47, 48, 49, 50, 51, 52, 53, 54, 55, 56, 57, 58, 59, 60, 61, 62, 63, 64, 65, 66, 67, 68, 69, 70, 71, 72, 73, 74, 75, 76, 77, 78, 79, 80, 81, 82, 83, 84, 85, 86, 87] (dn 87) [(tB 147 true)] aax fw fun al3 aay => ?_
      refine wpD_end (by kernel_rfl) ?_
      obtain rfl := Option.some.inj z
      exact Exists.intro _ ⟨_, rfl, aay.kp, (fw.cutRw 8), (Heap.le_trans b3 b4)⟩
     ·
      rw [j0, cond_false] at z
      have aaz : Kn 280 [(a, 0)] ((tB 72 false) :: (K13m31 x56 ai ak x43 ae x37 ag)) uv := (rr.setB 72 false (by rfl) j0).kp
      refine Df [13, 14, 15, 16, 17] (dn 17) ((tB 77 (((x37.1.length : Nat) : Int) != 4)) :: (K13m31 x56 ai ak x43 ae x37 ag)) aaz fw fun uw rs => ?_
      rcases Bool.eq_false_or_eq_true ((((x37.1.length : Nat) : Int) != 4)) with j1 | j1
      ·
       rw [j1, cond_true] at z
       have aa0 : Kn 280 [(a, 0)] ((tB 77 true) :: (K13m31 x56 ai ak x43 ae x37 ag)) uw := (rs.setB 77 true (by rfl) j1).kp
       refine Df [18, 19, 20, 21, 22, 23, 24, 25, 26, 27, 28, 29, 30, 31, 32, 33, 34, 35, 36, 37, 38, 39, 40, 41, 42, 43, 44, 45, 46, 47, 48, 49, 50, 51, 52, 53, 54, 55, 56, 57, 58, 59, 60, 61, 62, 63, 64, 65, 66, 67, 68, 69, 70, 71, 72, 73, 74, 75, 76, 77, 78, 79, 80, 81, 82, 83, 84, 85, 86, 87] (dn 87) [(tB 147 true)] aa0 fw fun al4 aa1 => ?_
       refine wpD_end (by kernel_rfl) ?_
       obtain rfl := Option.some.inj z
       exact Exists.intro _ ⟨_, rfl, aa1.kp, (fw.cutRw 8), (Heap.le_trans b3 b4)⟩
      ·
       rw [j1, cond_false] at z
       have aa2 : Kn 280 [(a, 0)] ((tB 77 false) :: (K13m31 x56 ai ak x43 ae x37 ag)) uw := (rs.setB 77 false (by rfl) j1).kp
       refine Df [18] (dn 18) ((tS 78 ae x37.1.length ag) :: (tB 77 false) :: (K13m31 x56 ai ak x43 ae x37 ag)) aa2 fw fun al5 ru => ?_
       obtain ⟨x79, ex79, z⟩ := bnd z
       obtain ⟨aef, aek, agb⟩ := idx_some ex79
       obtain ⟨s, u, ajs, wz, af5, w6⟩ := fq.get (by decide) agb
       obtain ⟨di, dl, rfl, fj⟩ := af5
       have tb := fw.addPlc (b := s) (o := u + (0 : Int).toNat * 1) (cs := [.slice di x79.length dl]) (fun j c hj => w6 j _ (map_get hj)) rfl (by kernel_rfl) (by kernel_rfl)
       refine D_index 19 (0) [.slice di x79.length dl] (fun _ _ _ _ _ h => h) rfl rfl (wantedS_sound ru (by kernel_rfl)) rfl (by decide) (by kernel_rfl) (by kernel_rfl) ru fw.plOk (by rfl) (by rfl) (by rfl) wz (by rfl) aef aek (by kernel_rfl) fun ahl (aa3 : Kn 280 [(a, 0), (s, u + (0 : Int).toNat * 1)] ((tP 79 1 0) :: (tS 78 ae x37.1.length ag) :: (tB 77 false) :: (K13m31 x56 ai ak x43 ae x37 ag)) ahl) => ?_
       refine Df [20] (dn 20) ((tS 80 di x79.length dl) :: (tB 77 false) :: (K13m31 x56 ai ak x43 ae x37 ag)) aa3 tb fun al6 rv => ?_
       refine D_loud 21 rfl (by kernel_rfl) (by decide) (wantedS_sound rv (by kernel_rfl)) fun K hK => ?_
       refine wS 3 1 [.int .i64 2] rv tb fun ec ahm aje (rx : Kn 280 [(a, 0), (s, u + (0 : Int).toNat * 1)] ((tS 81 ec 1 1) :: (tS 80 di x79.length dl) :: (tB 77 false) :: (K13m31 x56 ai ak x43 ae x37 ag)) ahm) oh => ?_
       have e2 : Cells qo ([2] : List Int) ([.int .i64 2] : List Value) := ⟨_, _, rfl, (rep_int : rep qo (2 : Int) _), rfl⟩
       refine hK _ _ oh.plOk ?_
       obtain ⟨qq, ch, afk, ly⟩ := oh.settle (i := 9) rfl
       replace fj := fj.mono ch
       replace e2 := e2.mono ch
       replace ly : Mem ⟨w, h, noX⟩ qq [(a, 0), (s, u + (0 : Int).toNat * 1)] [⟨(K13c9 g x52 l d x48 f), some 33⟩, ⟨[.slice di x79.length dl], none⟩] [⟨aq, 4, 4, 3, 1, ([.int .i64 0, .int .i64 0, .int .i64 1, .int .i64 1] : List Value), (([.int .i64 0, .int .i64 0, .int .i64 1, .int .i64 1] : List Value) : List Value).length⟩, ⟨av, 4, 4, 3, 1, ([.int .i64 1, .int .i64 0, .int .i64 2, .int .i64 3] : List Value), (([.int .i64 1, .int .i64 0, .int .i64 2, .int .i64 3] : List Value) : List Value).length⟩, ⟨ay, 4, 4, 3, 1, ([.int .i64 0, .int .i64 0, .int .i64 1, .int .i64 1] : List Value), (([.int .i64 0, .int .i64 0, .int .i64 1, .int .i64 1] : List Value) : List Value).length⟩, ⟨a1, 4, 4, 3, 1, ([.int .i64 0, .int .i64 1, .int .i64 2, .int .i64 3] : List Value), (([.int .i64 0, .int .i64 1, .int .i64 2, .int .i64 3] : List Value) : List Value).length⟩, ⟨a7, 4, 4, 3, 1, ([.int .i64 0, .int .i64 0, .int .i64 1, .int .i64 1] : List Value), (([.int .i64 0, .int .i64 0, .int .i64 1, .int .i64 1] : List Value) : List Value).length⟩, ⟨g, x52.length, l, 3, 1, (m ++ ([.int .i64 2] : List Value)), ((m ++ ([.int .i64 2] : List Value)) : List Value).length⟩, ⟨d, x48.buses.length, f, 70, 3, p, (p : List Value).length⟩, ⟨bd, 1, 1, 3, 1, ([.int .i64 2] : List Value), 0⟩, ⟨d9, 1, 1, 3, 1, ([.int .i64 2] : List Value), (([.int .i64 2] : List Value) : List Value).length⟩, ⟨ec, 1, 1, 3, 1, ([.int .i64 2] : List Value), (([.int .i64 2] : List Value) : List Value).length⟩] aje := ly
       have f0 : RepS qq ec 1 ([2] : List Int) := ⟨_, e2, afk, oh.rowCap (i := 9) rfl⟩
       obtain ⟨x82, ex82, z⟩ := bnd z
       refine D_loud 22 rfl (by kernel_rfl) (by decide) (wantedS_sound rx (by kernel_rfl)) fun K hK => ?_
       refine wc [.c (.slice di x79.length dl), .c (.slice ec 1 1)] rx ly (law_ints_ok n ly.has x79 fj ([2] : List Int) f0 ex82) fun anf qr ao0 v1 b5 ie => ?_
       replace cl := cl.mono (Heap.le_trans ch b5)
       replace c3 := c3.mono (Heap.le_trans ch b5)
       replace cm := cm.mono (Heap.le_trans ch b5)
       replace c4 := c4.mono (Heap.le_trans ch b5)
       replace fq := fq.mono (Heap.le_trans ch b5)
       replace c1 := c1.mono (Heap.le_trans ch b5)
       replace ck := ck.mono (Heap.le_trans ch b5)
       replace c2 := c2.mono (Heap.le_trans ch b5)
       replace gk := gk.mono (Heap.le_trans ch b5)
       replace fi := fi.mono (Heap.le_trans ch b5)
       replace fj := fj.mono b5
       replace f0 := f0.mono b5
       replace cc := cc.mono (Heap.le_trans ch b5)
       replace cd := cd.mono (Heap.le_trans ch b5)
       replace ce := ce.mono (Heap.le_trans ch b5)
       replace cf := cf.mono (Heap.le_trans ch b5)
       replace b8 := b8.mono (Heap.le_trans ch b5)
       replace cb := cb.mono (Heap.le_trans ch b5)
       replace b9 := b9.mono (Heap.le_trans ch b5)
       replace ca := ca.mono (Heap.le_trans ch b5)
       replace ej := ej.mono (Heap.le_trans ch b5)
       replace e2 := e2.mono b5
       obtain rfl := v1
       refine ⟨.one (.c (.bool x82)), rfl, fun ahn (aa4 : Kn 280 [(a, 0), (s, u + (0 : Int).toNat * 1)] ((tB 82 x82) :: (tS 81 ec 1 1) :: (tS 80 di x79.length dl) :: (tB 77 false) :: (K13m31 x56 ai ak x43 ae x37 ag)) ahn) => hK _ _ ie.plOk ?_⟩
       refine Df [23, 24, 25] (dn 25) ((tB 85 (!x82)) :: (K13m31 x56 ai ak x43 ae x37 ag)) aa4 ie fun ux ry => ?_
       rcases Bool.eq_false_or_eq_true ((!x82)) with j2 | j2
       ·
        rw [j2, cond_true] at z
        have aa5 : Kn 280 [(a, 0), (s, u + (0 : Int).toNat * 1)] ((tB 85 true) :: (K13m31 x56 ai ak x43 ae x37 ag)) ux := (ry.setB 85 true (by rfl) j2).kp
        refine Df [26, 27, 28, 29, 30, 31, 32, 33, 34, 35, 36, 37, 38, 39, 40, 41, 42, 43, 44, 45, 46, 47, 48, 49, 50, 51, 52, 53, 54, 55, 56, 57, 58, 59, 60, 61, 62, 63, 64, 65, 66, 67, 68, 69, 70, 71, 72, 73, 74, 75, 76, 77, 78, 79, 80, 81, 82, 83, 84, 85, 86, 87] (dn 87) [(tB 147 true)] aa5 ie fun al7 aa6 => ?_
        refine wpD_end (by kernel_rfl) ?_
        obtain rfl := Option.some.inj z
        exact Exists.intro _ ⟨_, rfl, ((aa6.keep [147] (by rfl)).cut 1 (by kernel_rfl)), ((ie.cutRw 8).cutPl 1 (by kernel_rfl)), (Heap.le_trans b3 (Heap.le_trans b4 (Heap.le_trans ch b5)))⟩
       ·
        rw [j2, cond_false] at z
        have aa7 : Kn 280 [(a, 0), (s, u + (0 : Int).toNat * 1)] ((tB 85 false) :: (K13m31 x56 ai ak x43 ae x37 ag)) ux := (ry.setB 85 false (by rfl) j2).kp
        refine Df [26] (dn 26) ((tS 86 ae x37.1.length ag) :: (tB 85 false) :: (K13m31 x56 ai ak x43 ae x37 ag)) aa7 ie fun al8 rz => ?_
        obtain ⟨x87, ex87, z⟩ := bnd z
        obtain ⟨aeg, ael, agc⟩ := idx_some ex87
        obtain ⟨aa, ab, ajt, w0, af6, w7⟩ := fq.get (by decide) agc
        obtain ⟨dm, dr, rfl, f1⟩ := af6
        have tc := ie.addPlc (b := aa) (o := ab + (1 : Int).toNat * 1) (cs := [.slice dm x87.length dr]) (fun j c hj => w7 j _ (map_get hj)) rfl (by kernel_rfl) (by kernel_rfl)
        refine D_index 27 (1) [.slice dm x87.length dr] (fun _ _ _ _ _ h => h) rfl rfl (wantedS_sound rz (by kernel_rfl)) rfl (by decide) (by kernel_rfl) (by kernel_rfl) rz ie.plOk (by rfl) (by rfl) (by rfl) w0 (by rfl) aeg ael (by kernel_rfl) fun aho (aa8 : Kn 280 (K13e10 a s u aa ab) ((tP 87 2 0) :: (tS 86 ae x37.1.length ag) :: (tB 85 false) :: (K13m31 x56 ai ak x43 ae x37 ag)) aho) => ?_
        refine Df [28] (dn 28) ((tS 88 dm x87.length dr) :: (tB 85 false) :: (K13m31 x56 ai ak x43 ae x37 ag)) aa8 tc fun al9 r0 => ?_
        refine D_loud 29 rfl (by kernel_rfl) (by decide) (wantedS_sound r0 (by kernel_rfl)) fun K hK => ?_
        refine wS 3 1 [.int .i64 0] r0 tc fun eg ahp ajf (r1 : Kn 280 (K13e10 a s u aa ab) ((tS 89 eg 1 1) :: (tS 88 dm x87.length dr) :: (tB 85 false) :: (K13m31 x56 ai ak x43 ae x37 ag)) ahp) oi => ?_
        have fu : Cells qr ([0] : List Int) ([.int .i64 0] : List Value) := ⟨_, _, rfl, (rep_int : rep qr (0 : Int) _), rfl⟩
        refine hK _ _ oi.plOk ?_
        obtain ⟨qs, bw, afm, l0⟩ := oi.settle (i := 10) rfl
        replace f1 := f1.mono bw
        replace fu := fu.mono bw
        replace l0 : Mem ⟨w, h, noX⟩ qs (K13e10 a s u aa ab) [⟨(K13c9 g x52 l d x48 f), some 33⟩, ⟨[.slice di x79.length dl], none⟩, ⟨[.slice dm x87.length dr], none⟩] [⟨aq, 4, 4, 3, 1, ([.int .i64 0, .int .i64 0, .int .i64 1, .int .i64 1] : List Value), (([.int .i64 0, .int .i64 0, .int .i64 1, .int .i64 1] : List Value) : List Value).length⟩, ⟨av, 4, 4, 3, 1, ([.int .i64 1, .int .i64 0, .int .i64 2, .int .i64 3] : List Value), (([.int .i64 1, .int .i64 0, .int .i64 2, .int .i64 3] : List Value) : List Value).length⟩, ⟨ay, 4, 4, 3, 1, ([.int .i64 0, .int .i64 0, .int .i64 1, .int .i64 1] : List Value), (([.int .i64 0, .int .i64 0, .int .i64 1, .int .i64 1] : List Value) : List Value).length⟩, ⟨a1, 4, 4, 3, 1, ([.int .i64 0, .int .i64 1, .int .i64 2, .int .i64 3] : List Value), (([.int .i64 0, .int .i64 1, .int .i64 2, .int .i64 3] : List Value) : List Value).length⟩, ⟨a7, 4, 4, 3, 1, ([.int .i64 0, .int .i64 0, .int .i64 1, .int .i64 1] : List Value), (([.int .i64 0, .int .i64 0, .int .i64 1, .int .i64 1] : List Value) : List Value).length⟩, ⟨g, x52.length, l, 3, 1, (m ++ ([.int .i64 2] : List Value)), ((m ++ ([.int .i64 2] : List Value)) : List Value).length⟩, ⟨d, x48.buses.length, f, 70, 3, p, (p : List Value).length⟩, ⟨bd, 1, 1, 3, 1, ([.int .i64 2] : List Value), 0⟩, ⟨d9, 1, 1, 3, 1, ([.int .i64 2] : List Value), (([.int .i64 2] : List Value) : List Value).length⟩, ⟨ec, 1, 1, 3, 1, ([.int .i64 2] : List Value), (([.int .i64 2] : List Value) : List Value).length⟩, ⟨eg, 1, 1, 3, 1, ([.int .i64 0] : List Value), (([.int .i64 0] : List Value) : List Value).length⟩] ajf := l0
        have gl : RepS qs eg 1 ([0] : List Int) := ⟨_, fu, afm, oi.rowCap (i := 10) rfl⟩
        obtain ⟨x90, ex90, z⟩ := bnd z
        refine D_loud 30 rfl (by kernel_rfl) (by decide) (wantedS_sound r1 (by kernel_rfl)) fun K hK => ?_
        refine wc [.c (.slice dm x87.length dr), .c (.slice eg 1 1)] r1 l0 (law_ints_ok n l0.has x87 f1 ([0] : List Int) gl ex90) fun ang jf ao1 v2 bu ig => ?_
        replace cl := cl.mono (Heap.le_trans bw bu)
        replace c3 := c3.mono (Heap.le_trans bw bu)
        replace cm := cm.mono (Heap.le_trans bw bu)
        replace c4 := c4.mono (Heap.le_trans bw bu)
        replace fq := fq.mono (Heap.le_trans bw bu)
        replace c1 := c1.mono (Heap.le_trans bw bu)
        replace ck := ck.mono (Heap.le_trans bw bu)
        replace c2 := c2.mono (Heap.le_trans bw bu)
        replace gk := gk.mono (Heap.le_trans bw bu)
        replace fi := fi.mono (Heap.le_trans bw bu)
        replace fj := fj.mono (Heap.le_trans bw bu)
        replace f0 := f0.mono (Heap.le_trans bw bu)
        replace f1 := f1.mono bu
        replace gl := gl.mono bu
        replace cc := cc.mono (Heap.le_trans bw bu)
        replace cd := cd.mono (Heap.le_trans bw bu)
        replace ce := ce.mono (Heap.le_trans bw bu)
        replace cf := cf.mono (Heap.le_trans bw bu)
        replace b8 := b8.mono (Heap.le_trans bw bu)
        replace cb := cb.mono (Heap.le_trans bw bu)
        replace b9 := b9.mono (Heap.le_trans bw bu)
        replace ca := ca.mono (Heap.le_trans bw bu)
        replace ej := ej.mono (Heap.le_trans bw bu)
        replace e2 := e2.mono (Heap.le_trans bw bu)
        replace fu := fu.mono bu
        obtain rfl := v2
        refine ⟨.one (.c (.bool x90)), rfl, fun ahq (aa9 : Kn 280 (K13e10 a s u aa ab) ((tB 90 x90) :: (tS 89 eg 1 1) :: (tS 88 dm x87.length dr) :: (tB 85 false) :: (K13m31 x56 ai ak x43 ae x37 ag)) ahq) => hK _ _ ig.plOk ?_⟩
        refine Df [31, 32, 33] (dn 33) ((tB 93 (!x90)) :: (K13m31 x56 ai ak x43 ae x37 ag)) aa9 ig fun uy r2 => ?_
        rcases Bool.eq_false_or_eq_true ((!x90)) with j3 | j3
        ·
         rw [j3, cond_true] at z
         have aba : Kn 280 (K13e10 a s u aa ab) ((tB 93 true) :: (K13m31 x56 ai ak x43 ae x37 ag)) uy := (r2.setB 93 true (by rfl) j3).kp
         refine Df [34, 35, 36, 37, 38, 39, 40, 41, 42, 43, 44, 45, 46, 47, 48, 49, 50, 51, 52, 53, 54, 55, 56, 57, 58, 59, 60, 61, 62, 63, 64, 65, 66, 67, 68, 69, 70, 71, 72, 73, 74, 75, 76, 77, 78, 79, 80, 81, 82, 83, 84, 85, 86, 87] (dn 87) [(tB 147 true)] aba ig fun ama abb => ?_
         refine wpD_end (by kernel_rfl) ?_
         obtain rfl := Option.some.inj z
         exact Exists.intro _ ⟨_, rfl, ((abb.keep [147] (by rfl)).cut 1 (by kernel_rfl)), ((ig.cutRw 8).cutPl 1 (by kernel_rfl)), (Heap.le_trans b3 (Heap.le_trans b4 (Heap.le_trans ch (Heap.le_trans b5 (Heap.le_trans bw bu)))))⟩
        ·
         rw [j3, cond_false] at z
         have abc : Kn 280 (K13e10 a s u aa ab) ((tB 93 false) :: (K13m31 x56 ai ak x43 ae x37 ag)) uy := (r2.setB 93 false (by rfl) j3).kp
         refine Df [34] (dn 34) ((tS 94 ae x37.1.length ag) :: (tB 93 false) :: (K13m31 x56 ai ak x43 ae x37 ag)) abc ig fun amb r3 => ?_
         obtain ⟨x95, ex95, z⟩ := bnd z
         obtain ⟨aeh, aem, agd⟩ := idx_some ex95
         obtain ⟨ac, ad, aju, w1, af7, w8⟩ := fq.get (by decide) agd
         obtain ⟨d2, d5, rfl, hx⟩ := af7
         have oj := ig.addPlc (b := ac) (o := ad + (2 : Int).toNat * 1) (cs := [.slice d2 x95.length d5]) (fun j c hj => w8 j _ (map_get hj)) rfl (by kernel_rfl) (by kernel_rfl)
         refine D_index 35 (2) [.slice d2 x95.length d5] (fun _ _ _ _ _ h => h) rfl rfl (wantedS_sound r3 (by kernel_rfl)) rfl (by decide) (by kernel_rfl) (by kernel_rfl) r3 ig.plOk (by rfl) (by rfl) (by rfl) w1 (by rfl) aeh aem (by kernel_rfl) fun ahr (abd : Kn 280 [(a, 0), (s, u + (0 : Int).toNat * 1), (aa, ab + (1 : Int).toNat * 1), (ac, ad + (2 : Int).toNat * 1)] ((tP 95 3 0) :: (tS 94 ae x37.1.length ag) :: (tB 93 false) :: (K13m31 x56 ai ak x43 ae x37 ag)) ahr) => ?_
         refine Df [36, 37, 38] (dn 38) [(tS 98 ae x37.1.length ag), (tI 97 ((x95.length : Nat) : Int)), (tB 93 false), (tI 12 x56.2.2), (tI 11 x56.2.1), (tS 10 ai x56.1.length ak), (tI 8 x43.2.2.2), (tI 7 x43.2.2.1)] abd oj fun amc r4 => ?_
         obtain ⟨x99, ex99, z⟩ := bnd z
         obtain ⟨aei, aen, age⟩ := idx_some ex99
         obtain ⟨af, ah, ajv, w2, af8, w9⟩ := fq.get (by decide) age
         obtain ⟨d3, d6, rfl, hy⟩ := af8
         have el := oj.addPlc (b := af) (o := ah + (3 : Int).toNat * 1) (cs := [.slice d3 x99.length d6]) (fun j c hj => w9 j _ (map_get hj)) rfl (by kernel_rfl) (by kernel_rfl)
         refine D_index 39 (3) [.slice d3 x99.length d6] (fun _ _ _ _ _ h => h) rfl rfl (wantedS_sound r4 (by kernel_rfl)) rfl (by decide) (by kernel_rfl) (by kernel_rfl) r4 oj.plOk (by rfl) (by rfl) (by rfl) w2 (by rfl) aei aen (by kernel_rfl) fun ahs (abe : Kn 280 (K13e28 a s u aa ab ac ad af ah) [(tP 99 4 0), (tS 98 ae x37.1.length ag), (tI 97 ((x95.length : Nat) : Int)), (tB 93 false), (tI 12 x56.2.2), (tI 11 x56.2.1), (tS 10 ai x56.1.length ak), (tI 8 x43.2.2.2), (tI 7 x43.2.2.1)] ahs) => ?_
         refine Df [40, 41, 42, 43, 44, 45] (dn 45) [(tB 105 ((IntKind.i64.wrap (((x95.length : Nat) : Int) + ((x99.length : Nat) : Int))) != 0)), (tI 12 x56.2.2), (tI 11 x56.2.1), (tS 10 ai x56.1.length ak), (tI 8 x43.2.2.2), (tI 7 x43.2.2.1)] abe el fun uz r5 => ?_
         rcases Bool.eq_false_or_eq_true (((IntKind.i64.wrap (((x95.length : Nat) : Int) + ((x99.length : Nat) : Int))) != 0)) with j4 | j4
         ·
          rw [j4, cond_true] at z
          have abf : Kn 280 (K13e28 a s u aa ab ac ad af ah) [(tB 105 true), (tI 12 x56.2.2), (tI 11 x56.2.1), (tS 10 ai x56.1.length ak), (tI 8 x43.2.2.2), (tI 7 x43.2.2.1)] uz := (r5.setB 105 true (by rfl) j4).kp
          refine Df [46, 47, 48, 49, 50, 51, 52, 53, 54, 55, 56, 57, 58, 59, 60, 61, 62, 63, 64, 65, 66, 67, 68, 69, 70, 71, 72, 73, 74, 75, 76, 77, 78, 79, 80, 81, 82, 83, 84, 85, 86, 87] (dn 87) [(tB 147 true)] abf el fun amd abg => ?_
          refine wpD_end (by kernel_rfl) ?_
          obtain rfl := Option.some.inj z
          exact Exists.intro _ ⟨_, rfl, ((abg.keep [147] (by rfl)).cut 1 (by kernel_rfl)), ((el.cutRw 8).cutPl 1 (by kernel_rfl)), (Heap.le_trans b3 (Heap.le_trans b4 (Heap.le_trans ch (Heap.le_trans b5 (Heap.le_trans bw bu)))))⟩
         ·
          rw [j4, cond_false] at z
          have abh : Kn 280 (K13e28 a s u aa ab ac ad af ah) [(tB 105 false), (tI 12 x56.2.2), (tI 11 x56.2.1), (tS 10 ai x56.1.length ak), (tI 8 x43.2.2.2), (tI 7 x43.2.2.1)] uz := (r5.setB 105 false (by rfl) j4).kp
          refine Df [46, 47, 48, 49] (dn 49) [(tB 109 (x43.2.2.2 != 0)), (tI 12 x56.2.2), (tI 11 x56.2.1), (tS 10 ai x56.1.length ak), (tI 7 x43.2.2.1)] abh el fun u0 r6 => ?_
          rcases Bool.eq_false_or_eq_true ((x43.2.2.2 != 0)) with j5 | j5
          ·
           rw [j5, cond_true] at z
           have abi : Kn 280 (K13e28 a s u aa ab ac ad af ah) [(tB 109 true), (tI 12 x56.2.2), (tI 11 x56.2.1), (tS 10 ai x56.1.length ak), (tI 7 x43.2.2.1)] u0 := (r6.setB 109 true (by rfl) j5).kp
           refine Df [50, 51, 52, 53, 54, 55, 56, 57, 58, 59, 60, 61, 62, 63, 64, 65, 66, 67, 68, 69, 70, 71, 72, 73, 74, 75, 76, 77, 78, 79, 80, 81, 82, 83, 84, 85, 86, 87] (dn 87) [(tB 147 true)] abi el fun ame abj => ?_
           refine wpD_end (by kernel_rfl) ?_
           obtain rfl := Option.some.inj z
           exact Exists.intro _ ⟨_, rfl, ((abj.keep [147] (by rfl)).cut 1 (by kernel_rfl)), ((el.cutRw 8).cutPl 1 (by kernel_rfl)), (Heap.le_trans b3 (Heap.le_trans b4 (Heap.le_trans ch (Heap.le_trans b5 (Heap.le_trans bw bu)))))⟩
          ·
           rw [j5, cond_false] at z
           have abk : Kn 280 (K13e28 a s u aa ab ac ad af ah) [(tB 109 false), (tI 12 x56.2.2), (tI 11 x56.2.1), (tS 10 ai x56.1.length ak), (tI 7 x43.2.2.1)] u0 := (r6.setB 109 false (by rfl) j5).kp
           refine Df [50, 51, 52, 53] (dn 53) [(tB 113 (x43.2.2.1 != 2)), (tI 12 x56.2.2), (tI 11 x56.2.1), (tS 10 ai x56.1.length ak)] abk el fun u1 r7 => ?_
           rcases Bool.eq_false_or_eq_true ((x43.2.2.1 != 2)) with j6 | j6
           ·
            rw [j6, cond_true] at z
            have abl : Kn 280 (K13e28 a s u aa ab ac ad af ah) [(tB 113 true), (tI 12 x56.2.2), (tI 11 x56.2.1), (tS 10 ai x56.1.length ak)] u1 := (r7.setB 113 true (by rfl) j6).kp
            refine Df [54, 55, 56, 57, 58, 59, 60, 61, 62, 63, 64, 65, 66, 67, 68, 69, 70, 71, 72, 73, 74, 75, 76, 77, 78, 79, 80, 81, 82, 83, 84, 85, 86, 87] (dn 87) [(tB 147 true)] abl el fun amf abm => ?_
            refine wpD_end (by kernel_rfl) ?_
            obtain rfl := Option.some.inj z
            exact Exists.intro _ ⟨_, rfl, ((abm.keep [147] (by rfl)).cut 1 (by kernel_rfl)), ((el.cutRw 8).cutPl 1 (by kernel_rfl)), (Heap.le_trans b3 (Heap.le_trans b4 (Heap.le_trans ch (Heap.le_trans b5 (Heap.le_trans bw bu)))))⟩
           ·
            rw [j6, cond_false] at z
            have abn : Kn 280 (K13e28 a s u aa ab ac ad af ah) [(tB 113 false), (tI 12 x56.2.2), (tI 11 x56.2.1), (tS 10 ai x56.1.length ak)] u1 := (r7.setB 113 false (by rfl) j6).kp
            refine Df [54, 55, 56, 57] (dn 57) [(tB 117 (x56.2.2 != 0)), (tI 11 x56.2.1), (tS 10 ai x56.1.length ak)] abn el fun u2 r8 => ?_
            rcases Bool.eq_false_or_eq_true ((x56.2.2 != 0)) with j7 | j7
            ·
             rw [j7, cond_true] at z
             have abo : Kn 280 (K13e28 a s u aa ab ac ad af ah) [(tB 117 true), (tI 11 x56.2.1), (tS 10 ai x56.1.length ak)] u2 := (r8.setB 117 true (by rfl) j7).kp
             refine Df [58, 59, 60, 61, 62, 63, 64, 65, 66, 67, 68, 69, 70, 71, 72, 73, 74, 75, 76, 77, 78, 79, 80, 81, 82, 83, 84, 85, 86, 87] (dn 87) [(tB 147 true)] abo el fun amg abp => ?_
             refine wpD_end (by kernel_rfl) ?_
             obtain rfl := Option.some.inj z
             exact Exists.intro _ ⟨_, rfl, ((abp.keep [147] (by rfl)).cut 1 (by kernel_rfl)), ((el.cutRw 8).cutPl 1 (by kernel_rfl)), (Heap.le_trans b3 (Heap.le_trans b4 (Heap.le_trans ch (Heap.le_trans b5 (Heap.le_trans bw bu)))))⟩
            ·
             rw [j7, cond_false] at z
             have abq : Kn 280 (K13e28 a s u aa ab ac ad af ah) [(tB 117 false), (tI 11 x56.2.1), (tS 10 ai x56.1.length ak)] u2 := (r8.setB 117 false (by rfl) j7).kp
             refine Df [58, 59, 60, 61] (dn 61) [(tB 121 (x56.2.1 != 1)), (tS 10 ai x56.1.length ak)] abq el fun u3 r9 => ?_
             rcases Bool.eq_false_or_eq_true ((x56.2.1 != 1)) with j8 | j8
             ·
              rw [j8, cond_true] at z
              have abr : Kn 280 (K13e28 a s u aa ab ac ad af ah) [(tB 121 true), (tS 10 ai x56.1.length ak)] u3 := (r9.setB 121 true (by rfl) j8).kp
              refine Df [62, 63, 64, 65, 66, 67, 68, 69, 70, 71, 72, 73, 74, 75, 76, 77, 78, 79, 80, 81, 82, 83, 84, 85, 86, 87] (dn 87) [(tB 147 true)] abr el fun amh abs => ?_
              refine wpD_end (by kernel_rfl) ?_
              obtain rfl := Option.some.inj z
              exact Exists.intro _ ⟨_, rfl, ((abs.keep [147] (by rfl)).cut 1 (by kernel_rfl)), ((el.cutRw 8).cutPl 1 (by kernel_rfl)), (Heap.le_trans b3 (Heap.le_trans b4 (Heap.le_trans ch (Heap.le_trans b5 (Heap.le_trans bw bu)))))⟩
             ·
              rw [j8, cond_false] at z
              have abt : Kn 280 (K13e28 a s u aa ab ac ad af ah) [(tB 121 false), (tS 10 ai x56.1.length ak)] u3 := (r9.setB 121 false (by rfl) j8).kp
              refine Df [62] (dn 62) [(tS 122 ai x56.1.length ak), (tB 121 false)] abt el fun ami sa => ?_
              refine D_loud 63 rfl (by kernel_rfl) (by decide) (wantedS_sound sa (by kernel_rfl)) fun K hK => ?_
              refine wS 3 1 [.int .i64 0, .int .i64 0, .int .i64 1, .int .i64 2] sa el fun ei aht ajg (sb : Kn 280 (K13e28 a s u aa ab ac ad af ah) [(tS 123 ei 4 4), (tS 122 ai x56.1.length ak), (tB 121 false)] aht) ok => ?_
              have gi : Cells jf ([0, 0, 1, 2] : List Int) ([.int .i64 0, .int .i64 0, .int .i64 1, .int .i64 2] : List Value) := ⟨_, _, rfl, (rep_int : rep jf (0 : Int) _), ⟨_, _, rfl, (rep_int : rep jf (0 : Int) _), ⟨_, _, rfl, (rep_int : rep jf (1 : Int) _), ⟨_, _, rfl, (rep_int : rep jf (2 : Int) _), rfl⟩⟩⟩⟩
              refine hK _ _ ok.plOk ?_
              obtain ⟨qt, cp, afo, l2⟩ := ok.settle (i := 11) rfl
              replace gk := gk.mono cp
              replace gi := gi.mono cp
              replace l2 : Mem ⟨w, h, noX⟩ qt (K13e28 a s u aa ab ac ad af ah) (K13p29 g x52 l d x48 f di x79 dl dm x87 dr d2 x95 d5 d3 x99 d6) [⟨aq, 4, 4, 3, 1, ([.int .i64 0, .int .i64 0, .int .i64 1, .int .i64 1] : List Value), (([.int .i64 0, .int .i64 0, .int .i64 1, .int .i64 1] : List Value) : List Value).length⟩, ⟨av, 4, 4, 3, 1, ([.int .i64 1, .int .i64 0, .int .i64 2, .int .i64 3] : List Value), (([.int .i64 1, .int .i64 0, .int .i64 2, .int .i64 3] : List Value) : List Value).length⟩, ⟨ay, 4, 4, 3, 1, ([.int .i64 0, .int .i64 0, .int .i64 1, .int .i64 1] : List Value), (([.int .i64 0, .int .i64 0, .int .i64 1, .int .i64 1] : List Value) : List Value).length⟩, ⟨a1, 4, 4, 3, 1, ([.int .i64 0, .int .i64 1, .int .i64 2, .int .i64 3] : List Value), (([.int .i64 0, .int .i64 1, .int .i64 2, .int .i64 3] : List Value) : List Value).length⟩, ⟨a7, 4, 4, 3, 1, ([.int .i64 0, .int .i64 0, .int .i64 1, .int .i64 1] : List Value), (([.int .i64 0, .int .i64 0, .int .i64 1, .int .i64 1] : List Value) : List Value).length⟩, ⟨g, x52.length, l, 3, 1, (m ++ ([.int .i64 2] : List Value)), ((m ++ ([.int .i64 2] : List Value)) : List Value).length⟩, ⟨d, x48.buses.length, f, 70, 3, p, (p : List Value).length⟩, ⟨bd, 1, 1, 3, 1, ([.int .i64 2] : List Value), 0⟩, ⟨d9, 1, 1, 3, 1, ([.int .i64 2] : List Value), (([.int .i64 2] : List Value) : List Value).length⟩, ⟨ec, 1, 1, 3, 1, ([.int .i64 2] : List Value), (([.int .i64 2] : List Value) : List Value).length⟩, ⟨eg, 1, 1, 3, 1, ([.int .i64 0] : List Value), (([.int .i64 0] : List Value) : List Value).length⟩, ⟨ei, 4, 4, 3, 1, ([.int .i64 0, .int .i64 0, .int .i64 1, .int .i64 2] : List Value), (([.int .i64 0, .int .i64 0, .int .i64 1, .int .i64 2] : List Value) : List Value).length⟩] ajg := l2
              have g6 : RepS qt ei 4 ([0, 0, 1, 2] : List Int) := ⟨_, gi, afo, ok.rowCap (i := 11) rfl⟩
              obtain ⟨x124, ex124, z⟩ := bnd z
              refine D_loud 64 rfl (by kernel_rfl) (by decide) (wantedS_sound sb (by kernel_rfl)) fun K hK => ?_
              refine wc [.c (.slice ai x56.1.length ak), .c (.slice ei 4 4)] sb l2 (law_ints_ok n l2.has x56.1 gk ([0, 0, 1, 2] : List Int) g6 ex124) fun ani hs ajh v4 cq kg => ?_
              replace cl := cl.mono (Heap.le_trans cp cq)
              replace c3 := c3.mono (Heap.le_trans cp cq)
              replace cm := cm.mono (Heap.le_trans cp cq)
              replace c4 := c4.mono (Heap.le_trans cp cq)
              replace c1 := c1.mono (Heap.le_trans cp cq)
              replace ck := ck.mono (Heap.le_trans cp cq)
              replace c2 := c2.mono (Heap.le_trans cp cq)
              replace fi := fi.mono (Heap.le_trans cp cq)
              replace fj := fj.mono (Heap.le_trans cp cq)
              replace f0 := f0.mono (Heap.le_trans cp cq)
              replace f1 := f1.mono (Heap.le_trans cp cq)
              replace gl := gl.mono (Heap.le_trans cp cq)
              replace hx := hx.mono (Heap.le_trans cp cq)
              replace hy := hy.mono (Heap.le_trans cp cq)
              replace g6 := g6.mono cq
              replace cc := cc.mono (Heap.le_trans cp cq)
              replace cd := cd.mono (Heap.le_trans cp cq)
              replace ce := ce.mono (Heap.le_trans cp cq)
              replace cf := cf.mono (Heap.le_trans cp cq)
              replace b8 := b8.mono (Heap.le_trans cp cq)
              replace cb := cb.mono (Heap.le_trans cp cq)
              replace b9 := b9.mono (Heap.le_trans cp cq)
              replace ca := ca.mono (Heap.le_trans cp cq)
              replace ej := ej.mono (Heap.le_trans cp cq)
              replace e2 := e2.mono (Heap.le_trans cp cq)
              replace fu := fu.mono (Heap.le_trans cp cq)
              replace gi := gi.mono cq
              obtain rfl := v4
              refine ⟨.one (.c (.bool x124)), rfl, fun ahu (abu : Kn 280 (K13e28 a s u aa ab ac ad af ah) [(tB 124 x124), (tS 123 ei 4 4), (tS 122 ai x56.1.length ak), (tB 121 false)] ahu) => hK _ _ kg.plOk ?_⟩
              refine Df [65, 66, 67] (dn 67) [(tB 127 (!x124))] abu kg fun u4 sc => ?_
              rcases Bool.eq_false_or_eq_true ((!x124)) with j9 | j9
              ·
               rw [j9, cond_true] at z
               have abv : Kn 280 (K13e28 a s u aa ab ac ad af ah) [(tB 127 true)] u4 := (sc.setB 127 true (by rfl) j9).kp
               refine Df [68, 69, 70, 71, 72, 73, 74, 75, 76, 77, 78, 79, 80, 81, 82, 83, 84, 85, 86, 87] (dn 87) [(tB 147 true)] abv kg fun amj abw => ?_
               refine wpD_end (by kernel_rfl) ?_
               obtain rfl := Option.some.inj z
               exact Exists.intro _ ⟨_, rfl, ((abw.keep [147] (by rfl)).cut 1 (by kernel_rfl)), ((kg.cutRw 8).cutPl 1 (by kernel_rfl)), (Heap.le_trans b3 (Heap.le_trans b4 (Heap.le_trans ch (Heap.le_trans b5 (Heap.le_trans bw (Heap.le_trans bu (Heap.le_trans cp cq)))))))⟩
              ·
               rw [j9, cond_false] at z
               have k8 : Kn 280 (K13e28 a s u aa ab ac ad af ah) [(tB 127 false)] u4 := (sc.setB 127 false (by rfl) j9).kp
               obtain ⟨x128, ex128, z⟩ := bnd z
               have om : Mem ⟨w, h, noX⟩ hs (K13e28 a s u aa ab ac ad af ah) (K13p29 g x52 l d x48 f di x79 dl dm x87 dr d2 x95 d5 d3 x99 d6) [⟨aq, 4, 4, 3, 1, ([.int .i64 0, .int .i64 0, .int .i64 1, .int .i64 1] : List Value), (([.int .i64 0, .int .i64 0, .int .i64 1, .int .i64 1] : List Value) : List Value).length⟩, ⟨av, 4, 4, 3, 1, ([.int .i64 1, .int .i64 0, .int .i64 2, .int .i64 3] : List Value), (([.int .i64 1, .int .i64 0, .int .i64 2, .int .i64 3] : List Value) : List Value).length⟩, ⟨ay, 4, 4, 3, 1, ([.int .i64 0, .int .i64 0, .int .i64 1, .int .i64 1] : List Value), (([.int .i64 0, .int .i64 0, .int .i64 1, .int .i64 1] : List Value) : List Value).length⟩, ⟨a1, 4, 4, 3, 1, ([.int .i64 0, .int .i64 1, .int .i64 2, .int .i64 3] : List Value), (([.int .i64 0, .int .i64 1, .int .i64 2, .int .i64 3] : List Value) : List Value).length⟩, ⟨a7, 4, 4, 3, 1, ([.int .i64 0, .int .i64 0, .int .i64 1, .int .i64 1] : List Value), (([.int .i64 0, .int .i64 0, .int .i64 1, .int .i64 1] : List Value) : List Value).length⟩, ⟨g, x52.length, l, 3, 1, (m ++ ([.int .i64 2] : List Value)), ((m ++ ([.int .i64 2] : List Value)) : List Value).length⟩, ⟨d, x48.buses.length, f, 70, 3, p, (p : List Value).length⟩, ⟨bd, 1, 1, 3, 1, ([.int .i64 2] : List Value), 0⟩, ⟨d9, 1, 1, 3, 1, ([.int .i64 2] : List Value), (([.int .i64 2] : List Value) : List Value).length⟩, ⟨ec, 1, 1, 3, 1, ([.int .i64 2] : List Value), (([.int .i64 2] : List Value) : List Value).length⟩, ⟨eg, 1, 1, 3, 1, ([.int .i64 0] : List Value), (([.int .i64 0] : List Value) : List Value).length⟩, ⟨ei, 4, 4, 3, 1, ([.int .i64 0, .int .i64 0, .int .i64 1, .int .i64 2] : List Value), (([.int .i64 0, .int .i64 0, .int .i64 1, .int .i64 2] : List Value) : List Value).length⟩, ⟨none, 0, 0, 3, 1, [], 0⟩] ajh := kg.nilRow 3 1
               have akg : Cells hs ([] : List Int) [] := Cells.nil
               refine D_share (fun W => ∀ (en : Option Addr), ∀ (eo : Nat), ∀ (d0 : List Value), ∀ (iy : Option Addr), ∀ (i6 : Nat), ∀ (iz : Option Addr), ∀ (i7 : Nat), ∀ a' w', (∃ (pr : Array Value) (il : Heap), a' = ⟨pr, []⟩ ∧ Kn 280 (K13e28 a s u aa ab ac ad af ah) [(tS 129 en 4 eo), (tA 128 [.slice iy x128.room.length i6, .slice iz x128.buses.length i7, .int .i64 x128.broken]), (tB 127 false)] pr ∧ Mem ⟨w, h, noX⟩ il (K13e28 a s u aa ab ac ad af ah) (K13p29 g x52 l d x48 f di x79 dl dm x87 dr d2 x95 d5 d3 x99 d6) [⟨aq, 4, 4, 3, 1, ([.int .i64 0, .int .i64 0, .int .i64 1, .int .i64 1] : List Value), (([.int .i64 0, .int .i64 0, .int .i64 1, .int .i64 1] : List Value) : List Value).length⟩, ⟨av, 4, 4, 3, 1, ([.int .i64 1, .int .i64 0, .int .i64 2, .int .i64 3] : List Value), (([.int .i64 1, .int .i64 0, .int .i64 2, .int .i64 3] : List Value) : List Value).length⟩, ⟨ay, 4, 4, 3, 1, ([.int .i64 0, .int .i64 0, .int .i64 1, .int .i64 1] : List Value), (([.int .i64 0, .int .i64 0, .int .i64 1, .int .i64 1] : List Value) : List Value).length⟩, ⟨a1, 4, 4, 3, 1, ([.int .i64 0, .int .i64 1, .int .i64 2, .int .i64 3] : List Value), (([.int .i64 0, .int .i64 1, .int .i64 2, .int .i64 3] : List Value) : List Value).length⟩, ⟨a7, 4, 4, 3, 1, ([.int .i64 0, .int .i64 0, .int .i64 1, .int .i64 1] : List Value), (([.int .i64 0, .int .i64 0, .int .i64 1, .int .i64 1] : List Value) : List Value).length⟩, ⟨g, x52.length, l, 3, 1, (m ++ ([.int .i64 2] : List Value)), ((m ++ ([.int .i64 2] : List Value)) : List Value).length⟩, ⟨d, x48.buses.length, f, 70, 3, p, (p : List Value).length⟩, ⟨bd, 1, 1, 3, 1, ([.int .i64 2] : List Value), 0⟩, ⟨d9, 1, 1, 3, 1, ([.int .i64 2] : List Value), (([.int .i64 2] : List Value) : List Value).length⟩, ⟨ec, 1, 1, 3, 1, ([.int .i64 2] : List Value), (([.int .i64 2] : List Value) : List Value).length⟩, ⟨eg, 1, 1, 3, 1, ([.int .i64 0] : List Value), (([.int .i64 0] : List Value) : List Value).length⟩, ⟨ei, 4, 4, 3, 1, ([.int .i64 0, .int .i64 0, .int .i64 1, .int .i64 2] : List Value), (([.int .i64 0, .int .i64 0, .int .i64 1, .int .i64 2] : List Value) : List Value).length⟩, ⟨en, 4, eo, 3, 1, d0, 0⟩] w' ∧ Heap.le hs il ∧ Cells il ([1, 0, 2, 3] : List Int) d0 ∧ RepS il iy i6 x128.room ∧ RepS il iz i7 x128.buses) → W (K13e28 a s u aa ab ac ad af ah) (K13p29 g x52 l d x48 f di x79 dl dm x87 dr d2 x95 d5 d3 x99 d6) [68, 69, 67, 66, 65, 64, 63, 62, 61, 60, 59, 58, 57, 56, 55, 54, 53, 52, 51, 50, 49, 48, 47, 46, 45, 44, 43, 42, 41, 40, 39, 38, 37, 36, 35, 34, 33, 32, 31, 30, 29, 28, 27, 26, 25, 24, 23, 22, 21, 20, 19, 18, 17, 16, 15, 14, 13, 12, 11, 10, 9, 8, 7, 6, 5, 4, 3, 2, 1, 0] a' w') ?_ (fun t6 => ?_)
               ·
                as_aux_lemma =>
                 intro en eo d0 iy i6 iz i7
                 rintro _ aji ⟨pr, il, rfl, sd, td, cy, g1, o6, o7⟩
                 obtain ⟨ng, b6, afp, l3⟩ := td.settle (i := 12) rfl
                 replace o6 := o6.mono b6
                 replace o7 := o7.mono b6
                 replace g1 := g1.mono b6
                 replace l3 : Mem ⟨w, h, noX⟩ ng (K13e28 a s u aa ab ac ad af ah) (K13p29 g x52 l d x48 f di x79 dl dm x87 dr d2 x95 d5 d3 x99 d6) [⟨aq, 4, 4, 3, 1, ([.int .i64 0, .int .i64 0, .int .i64 1, .int .i64 1] : List Value), (([.int .i64 0, .int .i64 0, .int .i64 1, .int .i64 1] : List Value) : List Value).length⟩, ⟨av, 4, 4, 3, 1, ([.int .i64 1, .int .i64 0, .int .i64 2, .int .i64 3] : List Value), (([.int .i64 1, .int .i64 0, .int .i64 2, .int .i64 3] : List Value) : List Value).length⟩, ⟨ay, 4, 4, 3, 1, ([.int .i64 0, .int .i64 0, .int .i64 1, .int .i64 1] : List Value), (([.int .i64 0, .int .i64 0, .int .i64 1, .int .i64 1] : List Value) : List Value).length⟩, ⟨a1, 4, 4, 3, 1, ([.int .i64 0, .int .i64 1, .int .i64 2, .int .i64 3] : List Value), (([.int .i64 0, .int .i64 1, .int .i64 2, .int .i64 3] : List Value) : List Value).length⟩, ⟨a7, 4, 4, 3, 1, ([.int .i64 0, .int .i64 0, .int .i64 1, .int .i64 1] : List Value), (([.int .i64 0, .int .i64 0, .int .i64 1, .int .i64 1] : List Value) : List Value).length⟩, ⟨g, x52.length, l, 3, 1, (m ++ ([.int .i64 2] : List Value)), ((m ++ ([.int .i64 2] : List Value)) : List Value).length⟩, ⟨d, x48.buses.length, f, 70, 3, p, (p : List Value).length⟩, ⟨bd, 1, 1, 3, 1, ([.int .i64 2] : List Value), 0⟩, ⟨d9, 1, 1, 3, 1, ([.int .i64 2] : List Value), (([.int .i64 2] : List Value) : List Value).length⟩, ⟨ec, 1, 1, 3, 1, ([.int .i64 2] : List Value), (([.int .i64 2] : List Value) : List Value).length⟩, ⟨eg, 1, 1, 3, 1, ([.int .i64 0] : List Value), (([.int .i64 0] : List Value) : List Value).length⟩, ⟨ei, 4, 4, 3, 1, ([.int .i64 0, .int .i64 0, .int .i64 1, .int .i64 2] : List Value), (([.int .i64 0, .int .i64 0, .int .i64 1, .int .i64 2] : List Value) : List Value).length⟩, ⟨en, 4, eo, 3, 1, d0, (d0 : List Value).length⟩] aji := l3
                 have ik : RepS ng en eo ([1, 0, 2, 3] : List Int) := ⟨_, g1, afp, td.rowCap (i := 12) rfl⟩
                 obtain ⟨x130, ex130, z⟩ := bnd z
                 refine D_loud 70 rfl (by kernel_rfl) (by decide) (wantedS_sound sd (by kernel_rfl)) fun K hK => ?_
                 refine wc [.agg [.slice iy x128.room.length i6, .slice iz x128.buses.length i7, .int .i64 x128.broken], .c (.slice en 4 eo)] sd l3 (lane_ProveOrder_ok n l3.has x128 ((rep_pair (rep_slice o6) (rep_pair (rep_slice o7) rep_int)) : rep ng x128 _) ([1, 0, 2, 3] : List Int) ik ex130) fun anj ht ajj v5 ci kh => ?_
                 replace cl := cl.mono (Heap.le_trans (Heap.le_trans cy b6) ci)
                 replace c3 := c3.mono (Heap.le_trans (Heap.le_trans cy b6) ci)
                 replace cm := cm.mono (Heap.le_trans (Heap.le_trans cy b6) ci)
                 replace c4 := c4.mono (Heap.le_trans (Heap.le_trans cy b6) ci)
                 replace c1 := c1.mono (Heap.le_trans (Heap.le_trans cy b6) ci)
                 replace ck := ck.mono (Heap.le_trans (Heap.le_trans cy b6) ci)
                 replace c2 := c2.mono (Heap.le_trans (Heap.le_trans cy b6) ci)
                 replace fi := fi.mono (Heap.le_trans (Heap.le_trans cy b6) ci)
                 replace fj := fj.mono (Heap.le_trans (Heap.le_trans cy b6) ci)
                 replace f0 := f0.mono (Heap.le_trans (Heap.le_trans cy b6) ci)
                 replace f1 := f1.mono (Heap.le_trans (Heap.le_trans cy b6) ci)
                 replace gl := gl.mono (Heap.le_trans (Heap.le_trans cy b6) ci)
                 replace hx := hx.mono (Heap.le_trans (Heap.le_trans cy b6) ci)
                 replace hy := hy.mono (Heap.le_trans (Heap.le_trans cy b6) ci)
                 replace g6 := g6.mono (Heap.le_trans (Heap.le_trans cy b6) ci)
                 replace ik := ik.mono ci
                 replace cc := cc.mono (Heap.le_trans (Heap.le_trans cy b6) ci)
                 replace cd := cd.mono (Heap.le_trans (Heap.le_trans cy b6) ci)
                 replace ce := ce.mono (Heap.le_trans (Heap.le_trans cy b6) ci)
                 replace cf := cf.mono (Heap.le_trans (Heap.le_trans cy b6) ci)
                 replace b8 := b8.mono (Heap.le_trans (Heap.le_trans cy b6) ci)
                 replace cb := cb.mono (Heap.le_trans (Heap.le_trans cy b6) ci)
                 replace b9 := b9.mono (Heap.le_trans (Heap.le_trans cy b6) ci)
                 replace ca := ca.mono (Heap.le_trans (Heap.le_trans cy b6) ci)
                 replace ej := ej.mono (Heap.le_trans (Heap.le_trans cy b6) ci)
                 replace e2 := e2.mono (Heap.le_trans (Heap.le_trans cy b6) ci)
                 replace fu := fu.mono (Heap.le_trans (Heap.le_trans cy b6) ci)
                 replace gi := gi.mono (Heap.le_trans (Heap.le_trans cy b6) ci)
                 replace g1 := g1.mono ci
                 obtain rfl := v5
                 refine ⟨.one (.c (.bool x130)), rfl, fun ahw (abx : Kn 280 (K13e28 a s u aa ab ac ad af ah) [(tB 130 x130), (tS 129 en 4 eo), (tA 128 [.slice iy x128.room.length i6, .slice iz x128.buses.length i7, .int .i64 x128.broken]), (tB 127 false)] ahw) => hK _ _ kh.plOk ?_⟩
                 refine Df [71, 72, 73] [73, 72, 71, 70, 68, 69, 67, 66, 65, 64, 63, 62, 61, 60, 59, 58, 57, 56, 55, 54, 53, 52, 51, 50, 49, 48, 47, 46, 45, 44, 43, 42, 41, 40, 39, 38, 37, 36, 35, 34, 33, 32, 31, 30, 29, 28, 27, 26, 25, 24, 23, 22, 21, 20, 19, 18, 17, 16, 15, 14, 13, 12, 11, 10, 9, 8, 7, 6, 5, 4, 3, 2, 1, 0] [(tB 133 (!x130))] abx kh fun u5 se => ?_
                 rcases Bool.eq_false_or_eq_true ((!x130)) with ka | ka
                 ·
                  rw [ka, cond_true] at z
                  have abz : Kn 280 (K13e28 a s u aa ab ac ad af ah) [(tB 133 true)] u5 := (se.setB 133 true (by rfl) ka).kp
                  refine Df [74, 75, 76, 77, 78, 79, 80, 81, 82, 83, 84, 85, 86, 87] [87, 86, 85, 84, 83, 82, 81, 80, 79, 78, 77, 76, 75, 74, 73, 72, 71, 70, 68, 69, 67, 66, 65, 64, 63, 62, 61, 60, 59, 58, 57, 56, 55, 54, 53, 52, 51, 50, 49, 48, 47, 46, 45, 44, 43, 42, 41, 40, 39, 38, 37, 36, 35, 34, 33, 32, 31, 30, 29, 28, 27, 26, 25, 24, 23, 22, 21, 20, 19, 18, 17, 16, 15, 14, 13, 12, 11, 10, 9, 8, 7, 6, 5, 4, 3, 2, 1, 0] [(tB 147 true)] abz kh fun amk ab0 => ?_
                  refine wpD_end (by kernel_rfl) ?_
                  obtain rfl := Option.some.inj z
                  exact Exists.intro _ ⟨_, rfl, ((ab0.keep [147] (by rfl)).cut 1 (by kernel_rfl)), ((kh.cutRw 8).cutPl 1 (by kernel_rfl)), (Heap.le_trans b3 (Heap.le_trans b4 (Heap.le_trans ch (Heap.le_trans b5 (Heap.le_trans bw (Heap.le_trans bu (Heap.le_trans cp (Heap.le_trans cq (Heap.le_trans cy (Heap.le_trans b6 ci))))))))))⟩
                 ·
                  rw [ka, cond_false] at z
                  have k9 : Kn 280 (K13e28 a s u aa ab ac ad af ah) [(tB 133 false)] u5 := (se.setB 133 false (by rfl) ka).kp
                  obtain ⟨x134, ex134, z⟩ := bnd z
                  have oo : Mem ⟨w, h, noX⟩ ht (K13e28 a s u aa ab ac ad af ah) (K13p29 g x52 l d x48 f di x79 dl dm x87 dr d2 x95 d5 d3 x99 d6) [⟨aq, 4, 4, 3, 1, ([.int .i64 0, .int .i64 0, .int .i64 1, .int .i64 1] : List Value), (([.int .i64 0, .int .i64 0, .int .i64 1, .int .i64 1] : List Value) : List Value).length⟩, ⟨av, 4, 4, 3, 1, ([.int .i64 1, .int .i64 0, .int .i64 2, .int .i64 3] : List Value), (([.int .i64 1, .int .i64 0, .int .i64 2, .int .i64 3] : List Value) : List Value).length⟩, ⟨ay, 4, 4, 3, 1, ([.int .i64 0, .int .i64 0, .int .i64 1, .int .i64 1] : List Value), (([.int .i64 0, .int .i64 0, .int .i64 1, .int .i64 1] : List Value) : List Value).length⟩, ⟨a1, 4, 4, 3, 1, ([.int .i64 0, .int .i64 1, .int .i64 2, .int .i64 3] : List Value), (([.int .i64 0, .int .i64 1, .int .i64 2, .int .i64 3] : List Value) : List Value).length⟩, ⟨a7, 4, 4, 3, 1, ([.int .i64 0, .int .i64 0, .int .i64 1, .int .i64 1] : List Value), (([.int .i64 0, .int .i64 0, .int .i64 1, .int .i64 1] : List Value) : List Value).length⟩, ⟨g, x52.length, l, 3, 1, (m ++ ([.int .i64 2] : List Value)), ((m ++ ([.int .i64 2] : List Value)) : List Value).length⟩, ⟨d, x48.buses.length, f, 70, 3, p, (p : List Value).length⟩, ⟨bd, 1, 1, 3, 1, ([.int .i64 2] : List Value), 0⟩, ⟨d9, 1, 1, 3, 1, ([.int .i64 2] : List Value), (([.int .i64 2] : List Value) : List Value).length⟩, ⟨ec, 1, 1, 3, 1, ([.int .i64 2] : List Value), (([.int .i64 2] : List Value) : List Value).length⟩, ⟨eg, 1, 1, 3, 1, ([.int .i64 0] : List Value), (([.int .i64 0] : List Value) : List Value).length⟩, ⟨ei, 4, 4, 3, 1, ([.int .i64 0, .int .i64 0, .int .i64 1, .int .i64 2] : List Value), (([.int .i64 0, .int .i64 0, .int .i64 1, .int .i64 2] : List Value) : List Value).length⟩, ⟨en, 4, eo, 3, 1, d0, (d0 : List Value).length⟩, ⟨none, 0, 0, 3, 1, [], 0⟩] ajj := kh.nilRow 3 1
                  have akh : Cells ht ([] : List Int) [] := Cells.nil
                  refine D_share (fun W => ∀ (fr : Option Addr), ∀ (fs : Nat), ∀ (em : List Value), ∀ (i0 : Option Addr), ∀ (i8 : Nat), ∀ (i1 : Option Addr), ∀ (i9 : Nat), ∀ a' w', (∃ (ps : Array Value) (im : Heap), a' = ⟨ps, []⟩ ∧ Kn 280 (K13e28 a s u aa ab ac ad af ah) [(tS 135 fr 4 fs), (tA 134 [.slice i0 x134.room.length i8, .slice i1 x134.buses.length i9, .int .i64 x134.broken]), (tB 133 false)] ps ∧ Mem ⟨w, h, noX⟩ im (K13e28 a s u aa ab ac ad af ah) (K13p29 g x52 l d x48 f di x79 dl dm x87 dr d2 x95 d5 d3 x99 d6) [⟨aq, 4, 4, 3, 1, ([.int .i64 0, .int .i64 0, .int .i64 1, .int .i64 1] : List Value), (([.int .i64 0, .int .i64 0, .int .i64 1, .int .i64 1] : List Value) : List Value).length⟩, ⟨av, 4, 4, 3, 1, ([.int .i64 1, .int .i64 0, .int .i64 2, .int .i64 3] : List Value), (([.int .i64 1, .int .i64 0, .int .i64 2, .int .i64 3] : List Value) : List Value).length⟩, ⟨ay, 4, 4, 3, 1, ([.int .i64 0, .int .i64 0, .int .i64 1, .int .i64 1] : List Value), (([.int .i64 0, .int .i64 0, .int .i64 1, .int .i64 1] : List Value) : List Value).length⟩, ⟨a1, 4, 4, 3, 1, ([.int .i64 0, .int .i64 1, .int .i64 2, .int .i64 3] : List Value), (([.int .i64 0, .int .i64 1, .int .i64 2, .int .i64 3] : List Value) : List Value).length⟩, ⟨a7, 4, 4, 3, 1, ([.int .i64 0, .int .i64 0, .int .i64 1, .int .i64 1] : List Value), (([.int .i64 0, .int .i64 0, .int .i64 1, .int .i64 1] : List Value) : List Value).length⟩, ⟨g, x52.length, l, 3, 1, (m ++ ([.int .i64 2] : List Value)), ((m ++ ([.int .i64 2] : List Value)) : List Value).length⟩, ⟨d, x48.buses.length, f, 70, 3, p, (p : List Value).length⟩, ⟨bd, 1, 1, 3, 1, ([.int .i64 2] : List Value), 0⟩, ⟨d9, 1, 1, 3, 1, ([.int .i64 2] : List Value), (([.int .i64 2] : List Value) : List Value).length⟩, ⟨ec, 1, 1, 3, 1, ([.int .i64 2] : List Value), (([.int .i64 2] : List Value) : List Value).length⟩, ⟨eg, 1, 1, 3, 1, ([.int .i64 0] : List Value), (([.int .i64 0] : List Value) : List Value).length⟩, ⟨ei, 4, 4, 3, 1, ([.int .i64 0, .int .i64 0, .int .i64 1, .int .i64 2] : List Value), (([.int .i64 0, .int .i64 0, .int .i64 1, .int .i64 2] : List Value) : List Value).length⟩, ⟨en, 4, eo, 3, 1, d0, (d0 : List Value).length⟩, ⟨fr, 4, fs, 3, 1, em, 0⟩] w' ∧ Heap.le ht im ∧ Cells im ([2, 0, 1, 3] : List Int) em ∧ RepS im i0 i8 x134.room ∧ RepS im i1 i9 x134.buses) → W (K13e28 a s u aa ab ac ad af ah) (K13p29 g x52 l d x48 f di x79 dl dm x87 dr d2 x95 d5 d3 x99 d6) [74, 75, 73, 72, 71, 70, 68, 69, 67, 66, 65, 64, 63, 62, 61, 60, 59, 58, 57, 56, 55, 54, 53, 52, 51, 50, 49, 48, 47, 46, 45, 44, 43, 42, 41, 40, 39, 38, 37, 36, 35, 34, 33, 32, 31, 30, 29, 28, 27, 26, 25, 24, 23, 22, 21, 20, 19, 18, 17, 16, 15, 14, 13, 12, 11, 10, 9, 8, 7, 6, 5, 4, 3, 2, 1, 0] a' w') ?_ (fun t7 => ?_)
                  ·
                   as_aux_lemma =>
                    intro fr fs em i0 i8 i1 i9
                    rintro _ ajk ⟨ps, im, rfl, sf, te, cr, ic, o8, o9⟩
                    obtain ⟨nh, bx, afq, l4⟩ := te.settle (i := 13) rfl
                    replace o8 := o8.mono bx
                    replace o9 := o9.mono bx
                    replace ic := ic.mono bx
                    replace l4 : Mem ⟨w, h, noX⟩ nh (K13e28 a s u aa ab ac ad af ah) (K13p29 g x52 l d x48 f di x79 dl dm x87 dr d2 x95 d5 d3 x99 d6) [⟨aq, 4, 4, 3, 1, ([.int .i64 0, .int .i64 0, .int .i64 1, .int .i64 1] : List Value), (([.int .i64 0, .int .i64 0, .int .i64 1, .int .i64 1] : List Value) : List Value).length⟩, ⟨av, 4, 4, 3, 1, ([.int .i64 1, .int .i64 0, .int .i64 2, .int .i64 3] : List Value), (([.int .i64 1, .int .i64 0, .int .i64 2, .int .i64 3] : List Value) : List Value).length⟩, ⟨ay, 4, 4, 3, 1, ([.int .i64 0, .int .i64 0, .int .i64 1, .int .i64 1] : List Value), (([.int .i64 0, .int .i64 0, .int .i64 1, .int .i64 1] : List Value) : List Value).length⟩, ⟨a1, 4, 4, 3, 1, ([.int .i64 0, .int .i64 1, .int .i64 2, .int .i64 3] : List Value), (([.int .i64 0, .int .i64 1, .int .i64 2, .int .i64 3] : List Value) : List Value).length⟩, ⟨a7, 4, 4, 3, 1, ([.int .i64 0, .int .i64 0, .int .i64 1, .int .i64 1] : List Value), (([.int .i64 0, .int .i64 0, .int .i64 1, .int .i64 1] : List Value) : List Value).length⟩, ⟨g, x52.length, l, 3, 1, (m ++ ([.int .i64 2] : List Value)), ((m ++ ([.int .i64 2] : List Value)) : List Value).length⟩, ⟨d, x48.buses.length, f, 70, 3, p, (p : List Value).length⟩, ⟨bd, 1, 1, 3, 1, ([.int .i64 2] : List Value), 0⟩, ⟨d9, 1, 1, 3, 1, ([.int .i64 2] : List Value), (([.int .i64 2] : List Value) : List Value).length⟩, ⟨ec, 1, 1, 3, 1, ([.int .i64 2] : List Value), (([.int .i64 2] : List Value) : List Value).length⟩, ⟨eg, 1, 1, 3, 1, ([.int .i64 0] : List Value), (([.int .i64 0] : List Value) : List Value).length⟩, ⟨ei, 4, 4, 3, 1, ([.int .i64 0, .int .i64 0, .int .i64 1, .int .i64 2] : List Value), (([.int .i64 0, .int .i64 0, .int .i64 1, .int .i64 2] : List Value) : List Value).length⟩, ⟨en, 4, eo, 3, 1, d0, (d0 : List Value).length⟩, ⟨fr, 4, fs, 3, 1, em, (em : List Value).length⟩] ajk := l4
                    have km : RepS nh fr fs ([2, 0, 1, 3] : List Int) := ⟨_, ic, afq, te.rowCap (i := 13) rfl⟩
                    obtain ⟨x136, ex136, z⟩ := bnd z
                    refine D_loud 76 rfl (by kernel_rfl) (by decide) (wantedS_sound sf (by kernel_rfl)) fun K hK => ?_
                    refine wc [.agg [.slice i0 x134.room.length i8, .slice i1 x134.buses.length i9, .int .i64 x134.broken], .c (.slice fr 4 fs)] sf l4 (lane_ProveOrder_ok n l4.has x134 ((rep_pair (rep_slice o8) (rep_pair (rep_slice o9) rep_int)) : rep nh x134 _) ([2, 0, 1, 3] : List Int) km ex136) fun anl ib ajl v6 b7 ki => ?_
                    replace cl := cl.mono (Heap.le_trans (Heap.le_trans cr bx) b7)
                    replace c3 := c3.mono (Heap.le_trans (Heap.le_trans cr bx) b7)
                    replace cm := cm.mono (Heap.le_trans (Heap.le_trans cr bx) b7)
                    replace c4 := c4.mono (Heap.le_trans (Heap.le_trans cr bx) b7)
                    replace c1 := c1.mono (Heap.le_trans (Heap.le_trans cr bx) b7)
                    replace ck := ck.mono (Heap.le_trans (Heap.le_trans cr bx) b7)
                    replace c2 := c2.mono (Heap.le_trans (Heap.le_trans cr bx) b7)
                    replace fi := fi.mono (Heap.le_trans (Heap.le_trans cr bx) b7)
                    replace fj := fj.mono (Heap.le_trans (Heap.le_trans cr bx) b7)
                    replace f0 := f0.mono (Heap.le_trans (Heap.le_trans cr bx) b7)
                    replace f1 := f1.mono (Heap.le_trans (Heap.le_trans cr bx) b7)
                    replace gl := gl.mono (Heap.le_trans (Heap.le_trans cr bx) b7)
                    replace hx := hx.mono (Heap.le_trans (Heap.le_trans cr bx) b7)
                    replace hy := hy.mono (Heap.le_trans (Heap.le_trans cr bx) b7)
                    replace g6 := g6.mono (Heap.le_trans (Heap.le_trans cr bx) b7)
                    replace ik := ik.mono (Heap.le_trans (Heap.le_trans cr bx) b7)
                    replace km := km.mono b7
                    replace cc := cc.mono (Heap.le_trans (Heap.le_trans cr bx) b7)
                    replace cd := cd.mono (Heap.le_trans (Heap.le_trans cr bx) b7)
                    replace ce := ce.mono (Heap.le_trans (Heap.le_trans cr bx) b7)
                    replace cf := cf.mono (Heap.le_trans (Heap.le_trans cr bx) b7)
                    replace b8 := b8.mono (Heap.le_trans (Heap.le_trans cr bx) b7)
                    replace cb := cb.mono (Heap.le_trans (Heap.le_trans cr bx) b7)
                    replace b9 := b9.mono (Heap.le_trans (Heap.le_trans cr bx) b7)
                    replace ca := ca.mono (Heap.le_trans (Heap.le_trans cr bx) b7)
                    replace ej := ej.mono (Heap.le_trans (Heap.le_trans cr bx) b7)
                    replace e2 := e2.mono (Heap.le_trans (Heap.le_trans cr bx) b7)
                    replace fu := fu.mono (Heap.le_trans (Heap.le_trans cr bx) b7)
                    replace gi := gi.mono (Heap.le_trans (Heap.le_trans cr bx) b7)
                    replace g1 := g1.mono (Heap.le_trans (Heap.le_trans cr bx) b7)
                    replace ic := ic.mono b7
                    obtain rfl := v6
                    refine ⟨.one (.c (.bool x136)), rfl, fun ahx (ab2 : Kn 280 (K13e28 a s u aa ab ac ad af ah) [(tB 136 x136), (tS 135 fr 4 fs), (tA 134 [.slice i0 x134.room.length i8, .slice i1 x134.buses.length i9, .int .i64 x134.broken]), (tB 133 false)] ahx) => hK _ _ ki.plOk ?_⟩
                    refine Df [77, 78] [78, 77, 76, 74, 75, 73, 72, 71, 70, 68, 69, 67, 66, 65, 64, 63, 62, 61, 60, 59, 58, 57, 56, 55, 54, 53, 52, 51, 50, 49, 48, 47, 46, 45, 44, 43, 42, 41, 40, 39, 38, 37, 36, 35, 34, 33, 32, 31, 30, 29, 28, 27, 26, 25, 24, 23, 22, 21, 20, 19, 18, 17, 16, 15, 14, 13, 12, 11, 10, 9, 8, 7, 6, 5, 4, 3, 2, 1, 0] [(tB 138 x136)] ab2 ki fun u6 sg => ?_
                    rcases Bool.eq_false_or_eq_true (x136) with kb | kb
                    ·
                     rw [cond_t kb] at z
                     have ab3 : Kn 280 (K13e28 a s u aa ab ac ad af ah) [(tB 138 true)] u6 := (sg.setB 138 true (by rfl) kb).kp
                     refine Df [79, 80, 81, 82, 83, 84, 85, 86, 87] [87, 86, 85, 84, 83, 82, 81, 80, 79, 78, 77, 76, 74, 75, 73, 72, 71, 70, 68, 69, 67, 66, 65, 64, 63, 62, 61, 60, 59, 58, 57, 56, 55, 54, 53, 52, 51, 50, 49, 48, 47, 46, 45, 44, 43, 42, 41, 40, 39, 38, 37, 36, 35, 34, 33, 32, 31, 30, 29, 28, 27, 26, 25, 24, 23, 22, 21, 20, 19, 18, 17, 16, 15, 14, 13, 12, 11, 10, 9, 8, 7, 6, 5, 4, 3, 2, 1, 0] [(tB 147 true)] ab3 ki fun amm ab4 => ?_
                     refine wpD_end (by kernel_rfl) ?_
                     obtain rfl := Option.some.inj z
                     exact Exists.intro _ ⟨_, rfl, ((ab4.keep [147] (by rfl)).cut 1 (by kernel_rfl)), ((ki.cutRw 8).cutPl 1 (by kernel_rfl)), (Heap.le_trans b3 (Heap.le_trans b4 (Heap.le_trans ch (Heap.le_trans b5 (Heap.le_trans bw (Heap.le_trans bu (Heap.le_trans cp (Heap.le_trans cq (Heap.le_trans cy (Heap.le_trans b6 (Heap.le_trans ci (Heap.le_trans cr (Heap.le_trans bx b7)))))))))))))⟩
                    ·
                     rw [cond_f kb] at z
                     have la : Kn 280 (K13e28 a s u aa ab ac ad af ah) [(tB 138 false)] u6 := (sg.setB 138 false (by rfl) kb).kp
                     obtain ⟨x139, ex139, z⟩ := bnd z
                     have op : Mem ⟨w, h, noX⟩ ib (K13e28 a s u aa ab ac ad af ah) (K13p29 g x52 l d x48 f di x79 dl dm x87 dr d2 x95 d5 d3 x99 d6) [⟨aq, 4, 4, 3, 1, ([.int .i64 0, .int .i64 0, .int .i64 1, .int .i64 1] : List Value), (([.int .i64 0, .int .i64 0, .int .i64 1, .int .i64 1] : List Value) : List Value).length⟩, ⟨av, 4, 4, 3, 1, ([.int .i64 1, .int .i64 0, .int .i64 2, .int .i64 3] : List Value), (([.int .i64 1, .int .i64 0, .int .i64 2, .int .i64 3] : List Value) : List Value).length⟩, ⟨ay, 4, 4, 3, 1, ([.int .i64 0, .int .i64 0, .int .i64 1, .int .i64 1] : List Value), (([.int .i64 0, .int .i64 0, .int .i64 1, .int .i64 1] : List Value) : List Value).length⟩, ⟨a1, 4, 4, 3, 1, ([.int .i64 0, .int .i64 1, .int .i64 2, .int .i64 3] : List Value), (([.int .i64 0, .int .i64 1, .int .i64 2, .int .i64 3] : List Value) : List Value).length⟩, ⟨a7, 4, 4, 3, 1, ([.int .i64 0, .int .i64 0, .int .i64 1, .int .i64 1] : List Value), (([.int .i64 0, .int .i64 0, .int .i64 1, .int .i64 1] : List Value) : List Value).length⟩, ⟨g, x52.length, l, 3, 1, (m ++ ([.int .i64 2] : List Value)), ((m ++ ([.int .i64 2] : List Value)) : List Value).length⟩, ⟨d, x48.buses.length, f, 70, 3, p, (p : List Value).length⟩, ⟨bd, 1, 1, 3, 1, ([.int .i64 2] : List Value), 0⟩, ⟨d9, 1, 1, 3, 1, ([.int .i64 2] : List Value), (([.int .i64 2] : List Value) : List Value).length⟩, ⟨ec, 1, 1, 3, 1, ([.int .i64 2] : List Value), (([.int .i64 2] : List Value) : List Value).length⟩, ⟨eg, 1, 1, 3, 1, ([.int .i64 0] : List Value), (([.int .i64 0] : List Value) : List Value).length⟩, ⟨ei, 4, 4, 3, 1, ([.int .i64 0, .int .i64 0, .int .i64 1, .int .i64 2] : List Value), (([.int .i64 0, .int .i64 0, .int .i64 1, .int .i64 2] : List Value) : List Value).length⟩, ⟨en, 4, eo, 3, 1, d0, (d0 : List Value).length⟩, ⟨fr, 4, fs, 3, 1, em, (em : List Value).length⟩, ⟨none, 0, 0, 3, 1, [], 0⟩] ajl := ki.nilRow 3 1
                     have aki : Cells ib ([] : List Int) [] := Cells.nil
                     refine D_share (fun W => ∀ (go : Option Addr), ∀ (gp : Nat), ∀ (gm : List Value), ∀ (i2 : Option Addr), ∀ (ja : Nat), ∀ (i3 : Option Addr), ∀ (jb : Nat), ∀ a' w', (∃ (pt : Array Value) (io : Heap), a' = ⟨pt, []⟩ ∧ Kn 280 (K13e28 a s u aa ab ac ad af ah) [(tS 140 go 3 gp), (tA 139 [.slice i2 x139.room.length ja, .slice i3 x139.buses.length jb, .int .i64 x139.broken]), (tB 138 false)] pt ∧ Mem ⟨w, h, noX⟩ io (K13e28 a s u aa ab ac ad af ah) (K13p29 g x52 l d x48 f di x79 dl dm x87 dr d2 x95 d5 d3 x99 d6) [⟨aq, 4, 4, 3, 1, ([.int .i64 0, .int .i64 0, .int .i64 1, .int .i64 1] : List Value), (([.int .i64 0, .int .i64 0, .int .i64 1, .int .i64 1] : List Value) : List Value).length⟩, ⟨av, 4, 4, 3, 1, ([.int .i64 1, .int .i64 0, .int .i64 2, .int .i64 3] : List Value), (([.int .i64 1, .int .i64 0, .int .i64 2, .int .i64 3] : List Value) : List Value).length⟩, ⟨ay, 4, 4, 3, 1, ([.int .i64 0, .int .i64 0, .int .i64 1, .int .i64 1] : List Value), (([.int .i64 0, .int .i64 0, .int .i64 1, .int .i64 1] : List Value) : List Value).length⟩, ⟨a1, 4, 4, 3, 1, ([.int .i64 0, .int .i64 1, .int .i64 2, .int .i64 3] : List Value), (([.int .i64 0, .int .i64 1, .int .i64 2, .int .i64 3] : List Value) : List Value).length⟩, ⟨a7, 4, 4, 3, 1, ([.int .i64 0, .int .i64 0, .int .i64 1, .int .i64 1] : List Value), (([.int .i64 0, .int .i64 0, .int .i64 1, .int .i64 1] : List Value) : List Value).length⟩, ⟨g, x52.length, l, 3, 1, (m ++ ([.int .i64 2] : List Value)), ((m ++ ([.int .i64 2] : List Value)) : List Value).length⟩, ⟨d, x48.buses.length, f, 70, 3, p, (p : List Value).length⟩, ⟨bd, 1, 1, 3, 1, ([.int .i64 2] : List Value), 0⟩, ⟨d9, 1, 1, 3, 1, ([.int .i64 2] : List Value), (([.int .i64 2] : List Value) : List Value).length⟩, ⟨ec, 1, 1, 3, 1, ([.int .i64 2] : List Value), (([.int .i64 2] : List Value) : List Value).length⟩, ⟨eg, 1, 1, 3, 1, ([.int .i64 0] : List Value), (([.int .i64 0] : List Value) : List Value).length⟩, ⟨ei, 4, 4, 3, 1, ([.int .i64 0, .int .i64 0, .int .i64 1, .int .i64 2] : List Value), (([.int .i64 0, .int .i64 0, .int .i64 1, .int .i64 2] : List Value) : List Value).length⟩, ⟨en, 4, eo, 3, 1, d0, (d0 : List Value).length⟩, ⟨fr, 4, fs, 3, 1, em, (em : List Value).length⟩, ⟨go, 3, gp, 3, 1, gm, 0⟩] w' ∧ Heap.le ib io ∧ Cells io ([0, 1, 2] : List Int) gm ∧ RepS io i2 ja x139.room ∧ RepS io i3 jb x139.buses) → W (K13e28 a s u aa ab ac ad af ah) (K13p29 g x52 l d x48 f di x79 dl dm x87 dr d2 x95 d5 d3 x99 d6) [79, 80, 78, 77, 76, 74, 75, 73, 72, 71, 70, 68, 69, 67, 66, 65, 64, 63, 62, 61, 60, 59, 58, 57, 56, 55, 54, 53, 52, 51, 50, 49, 48, 47, 46, 45, 44, 43, 42, 41, 40, 39, 38, 37, 36, 35, 34, 33, 32, 31, 30, 29, 28, 27, 26, 25, 24, 23, 22, 21, 20, 19, 18, 17, 16, 15, 14, 13, 12, 11, 10, 9, 8, 7, 6, 5, 4, 3, 2, 1, 0] a' w') ?_ (fun t8 => ?_)
                     ·
                      as_aux_lemma =>
                       intro go gp gm i2 ja i3 jb
                       rintro _ ajm ⟨pt, io, rfl, sh, tf, cj, kd, pa, pb⟩
                       obtain ⟨ni, bv, afr, l5⟩ := tf.settle (i := 14) rfl
                       replace pa := pa.mono bv
                       replace pb := pb.mono bv
                       replace kd := kd.mono bv
                       replace l5 : Mem ⟨w, h, noX⟩ ni (K13e28 a s u aa ab ac ad af ah) (K13p29 g x52 l d x48 f di x79 dl dm x87 dr d2 x95 d5 d3 x99 d6) [⟨aq, 4, 4, 3, 1, ([.int .i64 0, .int .i64 0, .int .i64 1, .int .i64 1] : List Value), (([.int .i64 0, .int .i64 0, .int .i64 1, .int .i64 1] : List Value) : List Value).length⟩, ⟨av, 4, 4, 3, 1, ([.int .i64 1, .int .i64 0, .int .i64 2, .int .i64 3] : List Value), (([.int .i64 1, .int .i64 0, .int .i64 2, .int .i64 3] : List Value) : List Value).length⟩, ⟨ay, 4, 4, 3, 1, ([.int .i64 0, .int .i64 0, .int .i64 1, .int .i64 1] : List Value), (([.int .i64 0, .int .i64 0, .int .i64 1, .int .i64 1] : List Value) : List Value).length⟩, ⟨a1, 4, 4, 3, 1, ([.int .i64 0, .int .i64 1, .int .i64 2, .int .i64 3] : List Value), (([.int .i64 0, .int .i64 1, .int .i64 2, .int .i64 3] : List Value) : List Value).length⟩, ⟨a7, 4, 4, 3, 1, ([.int .i64 0, .int .i64 0, .int .i64 1, .int .i64 1] : List Value), (([.int .i64 0, .int .i64 0, .int .i64 1, .int .i64 1] : List Value) : List Value).length⟩, ⟨g, x52.length, l, 3, 1, (m ++ ([.int .i64 2] : List Value)), ((m ++ ([.int .i64 2] : List Value)) : List Value).length⟩, ⟨d, x48.buses.length, f, 70, 3, p, (p : List Value).length⟩, ⟨bd, 1, 1, 3, 1, ([.int .i64 2] : List Value), 0⟩, ⟨d9, 1, 1, 3, 1, ([.int .i64 2] : List Value), (([.int .i64 2] : List Value) : List Value).length⟩, ⟨ec, 1, 1, 3, 1, ([.int .i64 2] : List Value), (([.int .i64 2] : List Value) : List Value).length⟩, ⟨eg, 1, 1, 3, 1, ([.int .i64 0] : List Value), (([.int .i64 0] : List Value) : List Value).length⟩, ⟨ei, 4, 4, 3, 1, ([.int .i64 0, .int .i64 0, .int .i64 1, .int .i64 2] : List Value), (([.int .i64 0, .int .i64 0, .int .i64 1, .int .i64 2] : List Value) : List Value).length⟩, ⟨en, 4, eo, 3, 1, d0, (d0 : List Value).length⟩, ⟨fr, 4, fs, 3, 1, em, (em : List Value).length⟩, ⟨go, 3, gp, 3, 1, gm, (gm : List Value).length⟩] ajm := l5
                       have pc : RepS ni go gp ([0, 1, 2] : List Int) := ⟨_, kd, afr, tf.rowCap (i := 14) rfl⟩
                       obtain ⟨x141, ex141, z⟩ := bnd z
                       refine D_loud 81 rfl (by kernel_rfl) (by decide) (wantedS_sound sh (by kernel_rfl)) fun K hK => ?_
                       refine wc [.agg [.slice i2 x139.room.length ja, .slice i3 x139.buses.length jb, .int .i64 x139.broken], .c (.slice go 3 gp)] sh l5 (lane_ProveOrder_ok n l5.has x139 ((rep_pair (rep_slice pa) (rep_pair (rep_slice pb) rep_int)) : rep ni x139 _) ([0, 1, 2] : List Int) pc ex141) fun anm hu ajn v8 bz kj => ?_
                       replace cl := cl.mono (Heap.le_trans (Heap.le_trans cj bv) bz)
                       replace c3 := c3.mono (Heap.le_trans (Heap.le_trans cj bv) bz)
                       replace cm := cm.mono (Heap.le_trans (Heap.le_trans cj bv) bz)
                       replace c4 := c4.mono (Heap.le_trans (Heap.le_trans cj bv) bz)
                       replace c1 := c1.mono (Heap.le_trans (Heap.le_trans cj bv) bz)
                       replace ck := ck.mono (Heap.le_trans (Heap.le_trans cj bv) bz)
                       replace c2 := c2.mono (Heap.le_trans (Heap.le_trans cj bv) bz)
                       replace fi := fi.mono (Heap.le_trans (Heap.le_trans cj bv) bz)
                       replace fj := fj.mono (Heap.le_trans (Heap.le_trans cj bv) bz)
                       replace f0 := f0.mono (Heap.le_trans (Heap.le_trans cj bv) bz)
                       replace f1 := f1.mono (Heap.le_trans (Heap.le_trans cj bv) bz)
                       replace gl := gl.mono (Heap.le_trans (Heap.le_trans cj bv) bz)
                       replace hx := hx.mono (Heap.le_trans (Heap.le_trans cj bv) bz)
                       replace hy := hy.mono (Heap.le_trans (Heap.le_trans cj bv) bz)
                       replace g6 := g6.mono (Heap.le_trans (Heap.le_trans cj bv) bz)
                       replace ik := ik.mono (Heap.le_trans (Heap.le_trans cj bv) bz)
                       replace km := km.mono (Heap.le_trans (Heap.le_trans cj bv) bz)
                       replace pc := pc.mono bz
                       replace cc := cc.mono (Heap.le_trans (Heap.le_trans cj bv) bz)
                       replace cd := cd.mono (Heap.le_trans (Heap.le_trans cj bv) bz)
                       replace ce := ce.mono (Heap.le_trans (Heap.le_trans cj bv) bz)
                       replace cf := cf.mono (Heap.le_trans (Heap.le_trans cj bv) bz)
                       replace b8 := b8.mono (Heap.le_trans (Heap.le_trans cj bv) bz)
                       replace cb := cb.mono (Heap.le_trans (Heap.le_trans cj bv) bz)
                       replace b9 := b9.mono (Heap.le_trans (Heap.le_trans cj bv) bz)
                       replace ca := ca.mono (Heap.le_trans (Heap.le_trans cj bv) bz)
                       replace ej := ej.mono (Heap.le_trans (Heap.le_trans cj bv) bz)
                       replace e2 := e2.mono (Heap.le_trans (Heap.le_trans cj bv) bz)
                       replace fu := fu.mono (Heap.le_trans (Heap.le_trans cj bv) bz)
                       replace gi := gi.mono (Heap.le_trans (Heap.le_trans cj bv) bz)
                       replace g1 := g1.mono (Heap.le_trans (Heap.le_trans cj bv) bz)
                       replace ic := ic.mono (Heap.le_trans (Heap.le_trans cj bv) bz)
                       replace kd := kd.mono bz
                       obtain rfl := v8
                       refine ⟨.one (.c (.bool x141)), rfl, fun ahy (ab5 : Kn 280 (K13e28 a s u aa ab ac ad af ah) [(tB 141 x141), (tS 140 go 3 gp), (tA 139 [.slice i2 x139.room.length ja, .slice i3 x139.buses.length jb, .int .i64 x139.broken]), (tB 138 false)] ahy) => hK _ _ kj.plOk ?_⟩
                       refine Df [82, 83] [83, 82, 81, 79, 80, 78, 77, 76, 74, 75, 73, 72, 71, 70, 68, 69, 67, 66, 65, 64, 63, 62, 61, 60, 59, 58, 57, 56, 55, 54, 53, 52, 51, 50, 49, 48, 47, 46, 45, 44, 43, 42, 41, 40, 39, 38, 37, 36, 35, 34, 33, 32, 31, 30, 29, 28, 27, 26, 25, 24, 23, 22, 21, 20, 19, 18, 17, 16, 15, 14, 13, 12, 11, 10, 9, 8, 7, 6, 5, 4, 3, 2, 1, 0] [(tB 143 x141)] ab5 kj fun u7 si => ?_
                       rcases Bool.eq_false_or_eq_true (x141) with kc | kc
                       ·
                        rw [cond_t kc] at z
                        have ab6 : Kn 280 (K13e28 a s u aa ab ac ad af ah) [(tB 143 true)] u7 := (si.setB 143 true (by rfl) kc).kp
                        refine Df [84, 85, 86, 87] [87, 86, 85, 84, 83, 82, 81, 79, 80, 78, 77, 76, 74, 75, 73, 72, 71, 70, 68, 69, 67, 66, 65, 64, 63, 62, 61, 60, 59, 58, 57, 56, 55, 54, 53, 52, 51, 50, 49, 48, 47, 46, 45, 44, 43, 42, 41, 40, 39, 38, 37, 36, 35, 34, 33, 32, 31, 30, 29, 28, 27, 26, 25, 24, 23, 22, 21, 20, 19, 18, 17, 16, 15, 14, 13, 12, 11, 10, 9, 8, 7, 6, 5, 4, 3, 2, 1, 0] [(tB 147 true)] ab6 kj fun amn ab7 => ?_
                        refine wpD_end (by kernel_rfl) ?_
                        obtain rfl := Option.some.inj z
                        exact Exists.intro _ ⟨_, rfl, ((ab7.keep [147] (by rfl)).cut 1 (by kernel_rfl)), ((kj.cutRw 8).cutPl 1 (by kernel_rfl)), (Heap.le_trans b3 (Heap.le_trans b4 (Heap.le_trans ch (Heap.le_trans b5 (Heap.le_trans bw (Heap.le_trans bu (Heap.le_trans cp (Heap.le_trans cq (Heap.le_trans cy (Heap.le_trans b6 (Heap.le_trans ci (Heap.le_trans cr (Heap.le_trans bx (Heap.le_trans b7 (Heap.le_trans cj (Heap.le_trans bv bz))))))))))))))))⟩
                       ·
                        rw [cond_f kc] at z
                        have lb : Kn 280 (K13e28 a s u aa ab ac ad af ah) [(tB 143 false)] u7 := (si.setB 143 false (by rfl) kc).kp
                        obtain ⟨x144, ex144, z⟩ := bnd z
                        have oq : Mem ⟨w, h, noX⟩ hu (K13e28 a s u aa ab ac ad af ah) (K13p29 g x52 l d x48 f di x79 dl dm x87 dr d2 x95 d5 d3 x99 d6) [⟨aq, 4, 4, 3, 1, ([.int .i64 0, .int .i64 0, .int .i64 1, .int .i64 1] : List Value), (([.int .i64 0, .int .i64 0, .int .i64 1, .int .i64 1] : List Value) : List Value).length⟩, ⟨av, 4, 4, 3, 1, ([.int .i64 1, .int .i64 0, .int .i64 2, .int .i64 3] : List Value), (([.int .i64 1, .int .i64 0, .int .i64 2, .int .i64 3] : List Value) : List Value).length⟩, ⟨ay, 4, 4, 3, 1, ([.int .i64 0, .int .i64 0, .int .i64 1, .int .i64 1] : List Value), (([.int .i64 0, .int .i64 0, .int .i64 1, .int .i64 1] : List Value) : List Value).length⟩, ⟨a1, 4, 4, 3, 1, ([.int .i64 0, .int .i64 1, .int .i64 2, .int .i64 3] : List Value), (([.int .i64 0, .int .i64 1, .int .i64 2, .int .i64 3] : List Value) : List Value).length⟩, ⟨a7, 4, 4, 3, 1, ([.int .i64 0, .int .i64 0, .int .i64 1, .int .i64 1] : List Value), (([.int .i64 0, .int .i64 0, .int .i64 1, .int .i64 1] : List Value) : List Value).length⟩, ⟨g, x52.length, l, 3, 1, (m ++ ([.int .i64 2] : List Value)), ((m ++ ([.int .i64 2] : List Value)) : List Value).length⟩, ⟨d, x48.buses.length, f, 70, 3, p, (p : List Value).length⟩, ⟨bd, 1, 1, 3, 1, ([.int .i64 2] : List Value), 0⟩, ⟨d9, 1, 1, 3, 1, ([.int .i64 2] : List Value), (([.int .i64 2] : List Value) : List Value).length⟩, ⟨ec, 1, 1, 3, 1, ([.int .i64 2] : List Value), (([.int .i64 2] : List Value) : List Value).length⟩, ⟨eg, 1, 1, 3, 1, ([.int .i64 0] : List Value), (([.int .i64 0] : List Value) : List Value).length⟩, ⟨ei, 4, 4, 3, 1, ([.int .i64 0, .int .i64 0, .int .i64 1, .int .i64 2] : List Value), (([.int .i64 0, .int .i64 0, .int .i64 1, .int .i64 2] : List Value) : List Value).length⟩, ⟨en, 4, eo, 3, 1, d0, (d0 : List Value).length⟩, ⟨fr, 4, fs, 3, 1, em, (em : List Value).length⟩, ⟨go, 3, gp, 3, 1, gm, (gm : List Value).length⟩, ⟨none, 0, 0, 3, 1, [], 0⟩] ajn := kj.nilRow 3 1
                        have akj : Cells hu ([] : List Int) [] := Cells.nil
                        refine D_share (fun W => ∀ (h1 : Option Addr), ∀ (h7 : Nat), ∀ (kn : List Value), ∀ (i4 : Option Addr), ∀ (jc : Nat), ∀ (i5 : Option Addr), ∀ (jd : Nat), ∀ a' w', (∃ (pu : Array Value) (ip : Heap), a' = ⟨pu, []⟩ ∧ Kn 280 (K13e28 a s u aa ab ac ad af ah) [(tS 145 h1 4 h7), (tA 144 [.slice i4 x144.room.length jc, .slice i5 x144.buses.length jd, .int .i64 x144.broken]), (tB 143 false)] pu ∧ Mem ⟨w, h, noX⟩ ip (K13e28 a s u aa ab ac ad af ah) (K13p29 g x52 l d x48 f di x79 dl dm x87 dr d2 x95 d5 d3 x99 d6) [⟨aq, 4, 4, 3, 1, ([.int .i64 0, .int .i64 0, .int .i64 1, .int .i64 1] : List Value), (([.int .i64 0, .int .i64 0, .int .i64 1, .int .i64 1] : List Value) : List Value).length⟩, ⟨av, 4, 4, 3, 1, ([.int .i64 1, .int .i64 0, .int .i64 2, .int .i64 3] : List Value), (([.int .i64 1, .int .i64 0, .int .i64 2, .int .i64 3] : List Value) : List Value).length⟩, ⟨ay, 4, 4, 3, 1, ([.int .i64 0, .int .i64 0, .int .i64 1, .int .i64 1] : List Value), (([.int .i64 0, .int .i64 0, .int .i64 1, .int .i64 1] : List Value) : List Value).length⟩, ⟨a1, 4, 4, 3, 1, ([.int .i64 0, .int .i64 1, .int .i64 2, .int .i64 3] : List Value), (([.int .i64 0, .int .i64 1, .int .i64 2, .int .i64 3] : List Value) : List Value).length⟩, ⟨a7, 4, 4, 3, 1, ([.int .i64 0, .int .i64 0, .int .i64 1, .int .i64 1] : List Value), (([.int .i64 0, .int .i64 0, .int .i64 1, .int .i64 1] : List Value) : List Value).length⟩, ⟨g, x52.length, l, 3, 1, (m ++ ([.int .i64 2] : List Value)), ((m ++ ([.int .i64 2] : List Value)) : List Value).length⟩, ⟨d, x48.buses.length, f, 70, 3, p, (p : List Value).length⟩, ⟨bd, 1, 1, 3, 1, ([.int .i64 2] : List Value), 0⟩, ⟨d9, 1, 1, 3, 1, ([.int .i64 2] : List Value), (([.int .i64 2] : List Value) : List Value).length⟩, ⟨ec, 1, 1, 3, 1, ([.int .i64 2] : List Value), (([.int .i64 2] : List Value) : List Value).length⟩, ⟨eg, 1, 1, 3, 1, ([.int .i64 0] : List Value), (([.int .i64 0] : List Value) : List Value).length⟩, ⟨ei, 4, 4, 3, 1, ([.int .i64 0, .int .i64 0, .int .i64 1, .int .i64 2] : List Value), (([.int .i64 0, .int .i64 0, .int .i64 1, .int .i64 2] : List Value) : List Value).length⟩, ⟨en, 4, eo, 3, 1, d0, (d0 : List Value).length⟩, ⟨fr, 4, fs, 3, 1, em, (em : List Value).length⟩, ⟨go, 3, gp, 3, 1, gm, (gm : List Value).length⟩, ⟨h1, 4, h7, 3, 1, kn, 0⟩] w' ∧ Heap.le hu ip ∧ Cells ip ([0, 1, 2, 2] : List Int) kn ∧ RepS ip i4 jc x144.room ∧ RepS ip i5 jd x144.buses) → W (K13e28 a s u aa ab ac ad af ah) (K13p29 g x52 l d x48 f di x79 dl dm x87 dr d2 x95 d5 d3 x99 d6) [84, 85, 83, 82, 81, 79, 80, 78, 77, 76, 74, 75, 73, 72, 71, 70, 68, 69, 67, 66, 65, 64, 63, 62, 61, 60, 59, 58, 57, 56, 55, 54, 53, 52, 51, 50, 49, 48, 47, 46, 45, 44, 43, 42, 41, 40, 39, 38, 37, 36, 35, 34, 33, 32, 31, 30, 29, 28, 27, 26, 25, 24, 23, 22, 21, 20, 19, 18, 17, 16, 15, 14, 13, 12, 11, 10, 9, 8, 7, 6, 5, 4, 3, 2, 1, 0] a' w') ?_ (fun t9 => ?_)
                        ·
                         as_aux_lemma =>
                          intro h1 h7 kn i4 jc i5 jd
                          rintro _ ajo ⟨pu, ip, rfl, sj, tg, adc, nu, pd, pe⟩
                          obtain ⟨nj, lf, afs, l6⟩ := tg.settle (i := 15) rfl
                          replace pd := pd.mono lf
                          replace pe := pe.mono lf
                          replace nu := nu.mono lf
                          replace l6 : Mem ⟨w, h, noX⟩ nj (K13e28 a s u aa ab ac ad af ah) (K13p29 g x52 l d x48 f di x79 dl dm x87 dr d2 x95 d5 d3 x99 d6) [⟨aq, 4, 4, 3, 1, ([.int .i64 0, .int .i64 0, .int .i64 1, .int .i64 1] : List Value), (([.int .i64 0, .int .i64 0, .int .i64 1, .int .i64 1] : List Value) : List Value).length⟩, ⟨av, 4, 4, 3, 1, ([.int .i64 1, .int .i64 0, .int .i64 2, .int .i64 3] : List Value), (([.int .i64 1, .int .i64 0, .int .i64 2, .int .i64 3] : List Value) : List Value).length⟩, ⟨ay, 4, 4, 3, 1, ([.int .i64 0, .int .i64 0, .int .i64 1, .int .i64 1] : List Value), (([.int .i64 0, .int .i64 0, .int .i64 1, .int .i64 1] : List Value) : List Value).length⟩, ⟨a1, 4, 4, 3, 1, ([.int .i64 0, .int .i64 1, .int .i64 2, .int .i64 3] : List Value), (([.int .i64 0, .int .i64 1, .int .i64 2, .int .i64 3] : List Value) : List Value).length⟩, ⟨a7, 4, 4, 3, 1, ([.int .i64 0, .int .i64 0, .int .i64 1, .int .i64 1] : List Value), (([.int .i64 0, .int .i64 0, .int .i64 1, .int .i64 1] : List Value) : List Value).length⟩, ⟨g, x52.length, l, 3, 1, (m ++ ([.int .i64 2] : List Value)), ((m ++ ([.int .i64 2] : List Value)) : List Value).length⟩, ⟨d, x48.buses.length, f, 70, 3, p, (p : List Value).length⟩, ⟨bd, 1, 1, 3, 1, ([.int .i64 2] : List Value), 0⟩, ⟨d9, 1, 1, 3, 1, ([.int .i64 2] : List Value), (([.int .i64 2] : List Value) : List Value).length⟩, ⟨ec, 1, 1, 3, 1, ([.int .i64 2] : List Value), (([.int .i64 2] : List Value) : List Value).length⟩, ⟨eg, 1, 1, 3, 1, ([.int .i64 0] : List Value), (([.int .i64 0] : List Value) : List Value).length⟩, ⟨ei, 4, 4, 3, 1, ([.int .i64 0, .int .i64 0, .int .i64 1, .int .i64 2] : List Value), (([.int .i64 0, .int .i64 0, .int .i64 1, .int .i64 2] : List Value) : List Value).length⟩, ⟨en, 4, eo, 3, 1, d0, (d0 : List Value).length⟩, ⟨fr, 4, fs, 3, 1, em, (em : List Value).length⟩, ⟨go, 3, gp, 3, 1, gm, (gm : List Value).length⟩, ⟨h1, 4, h7, 3, 1, kn, (kn : List Value).length⟩] ajo := l6
                          have aeo : RepS nj h1 h7 ([0, 1, 2, 2] : List Int) := ⟨_, nu, afs, tg.rowCap (i := 15) rfl⟩
                          obtain ⟨x146, ex146, z⟩ := bnd z
                          refine D_loud 86 rfl (by kernel_rfl) (by decide) (wantedS_sound sj (by kernel_rfl)) fun K hK => ?_
                          refine wc [.agg [.slice i4 x144.room.length jc, .slice i5 x144.buses.length jd, .int .i64 x144.broken], .c (.slice h1 4 h7)] sj l6 (lane_ProveOrder_ok n l6.has x144 ((rep_pair (rep_slice pd) (rep_pair (rep_slice pe) rep_int)) : rep nj x144 _) ([0, 1, 2, 2] : List Int) aeo ex146) fun ann aj6 ao5 wb add os => ?_
                          obtain rfl := wb
                          refine ⟨.one (.c (.bool x146)), rfl, fun ahz (ab8 : Kn 280 (K13e28 a s u aa ab ac ad af ah) [(tB 146 x146), (tS 145 h1 4 h7), (tA 144 [.slice i4 x144.room.length jc, .slice i5 x144.buses.length jd, .int .i64 x144.broken]), (tB 143 false)] ahz) => hK _ _ os.plOk ?_⟩
                          refine Df [87] [87, 86, 84, 85, 83, 82, 81, 79, 80, 78, 77, 76, 74, 75, 73, 72, 71, 70, 68, 69, 67, 66, 65, 64, 63, 62, 61, 60, 59, 58, 57, 56, 55, 54, 53, 52, 51, 50, 49, 48, 47, 46, 45, 44, 43, 42, 41, 40, 39, 38, 37, 36, 35, 34, 33, 32, 31, 30, 29, 28, 27, 26, 25, 24, 23, 22, 21, 20, 19, 18, 17, 16, 15, 14, 13, 12, 11, 10, 9, 8, 7, 6, 5, 4, 3, 2, 1, 0] [(tB 147 x146)] ab8 os fun amo ab9 => ?_
                          refine wpD_end (by kernel_rfl) ?_
                          obtain rfl := Option.some.inj z
                          exact Exists.intro _ ⟨_, rfl, ((ab9.keep [147] (by rfl)).cut 1 (by kernel_rfl)), ((os.cutRw 8).cutPl 1 (by kernel_rfl)), (Heap.le_trans b3 (Heap.le_trans b4 (Heap.le_trans ch (Heap.le_trans b5 (Heap.le_trans bw (Heap.le_trans bu (Heap.le_trans cp (Heap.le_trans cq (Heap.le_trans cy (Heap.le_trans b6 (Heap.le_trans ci (Heap.le_trans cr (Heap.le_trans bx (Heap.le_trans b7 (Heap.le_trans cj (Heap.le_trans bv (Heap.le_trans bz (Heap.le_trans adc (Heap.le_trans lf add)))))))))))))))))))⟩
                        refine D_two 84 85 rfl rfl (by kernel_rfl) (by decide) (wantedS_sound lb (by kernel_rfl)) (wantedS_sound lb (by kernel_rfl)) (fun K hK => ?_) (fun K hK => ?_)
                        ·
                         refine wc [] lb oq (law_night_ok n oq.has  ex144) fun ano jg ao6 wd ade th => ?_
                         obtain ⟨_, rfl, ⟨_, _, rfl, ⟨ko, kx, rfl, aep⟩, ⟨_, _, rfl, ⟨kq, ky, rfl, aeq⟩, rfl⟩⟩⟩ := wd
                         refine ⟨.one (.agg [.slice ko x144.room.length kx, .slice kq x144.buses.length ky, .int .i64 x144.broken]), rfl, fun ah0 (sk : Kn 280 (K13e28 a s u aa ab ac ad af ah) [(tA 144 [.slice ko x144.room.length kx, .slice kq x144.buses.length ky, .int .i64 x144.broken]), (tB 143 false)] ah0) => hK _ _ th.plOk ?_⟩
                         refine D_loud 85 rfl (by kernel_rfl) (by decide) (wantedS_sound sk (by kernel_rfl)) fun K hK => ?_
                         refine wp_buildSlice_at 15 rfl rfl 3 1 [.int .i64 0, .int .i64 1, .int .i64 2, .int .i64 2] sk th rfl rfl (by decide) (by kernel_rfl) (by rfl) (by rfl) rfl (by decide) fun p0 ah1 ao7 (aca : Kn 280 (K13e28 a s u aa ab ac ad af ah) [(tS 145 p0 4 4), (tA 144 [.slice ko x144.room.length kx, .slice kq x144.buses.length ky, .int .i64 x144.broken]), (tB 143 false)] ah1) ti => ?_
                         have xa : Cells jg ([0, 1, 2, 2] : List Int) ([.int .i64 0, .int .i64 1, .int .i64 2, .int .i64 2] : List Value) := ⟨_, _, rfl, (rep_int : rep jg (0 : Int) _), ⟨_, _, rfl, (rep_int : rep jg (1 : Int) _), ⟨_, _, rfl, (rep_int : rep jg (2 : Int) _), ⟨_, _, rfl, (rep_int : rep jg (2 : Int) _), rfl⟩⟩⟩⟩
                         refine hK _ _ ti.plOk ?_
                         refine D_perm [84, 85, 83, 82, 81, 79, 80, 78, 77, 76, 74, 75, 73, 72, 71, 70, 68, 69, 67, 66, 65, 64, 63, 62, 61, 60, 59, 58, 57, 56, 55, 54, 53, 52, 51, 50, 49, 48, 47, 46, 45, 44, 43, 42, 41, 40, 39, 38, 37, 36, 35, 34, 33, 32, 31, 30, 29, 28, 27, 26, 25, 24, 23, 22, 21, 20, 19, 18, 17, 16, 15, 14, 13, 12, 11, 10, 9, 8, 7, 6, 5, 4, 3, 2, 1, 0] (by kernel_rfl) (by rfl) (t9 p0 4 ([.int .i64 0, .int .i64 1, .int .i64 2, .int .i64 2] : List Value) ko kx kq ky _ _ ?_)
                         exact Exists.intro _ ⟨_, rfl, aca.kp, ti, ade, xa, aep, aeq⟩
                        ·
                         refine wp_buildSlice_at 15 rfl rfl 3 1 [.int .i64 0, .int .i64 1, .int .i64 2, .int .i64 2] lb oq rfl rfl (by decide) (by kernel_rfl) (by rfl) (by rfl) rfl (by decide) fun mi ah2 ao8 (sl : Kn 280 (K13e28 a s u aa ab ac ad af ah) [(tS 145 mi 4 4), (tB 143 false)] ah2) ot => ?_
                         have nv : Cells hu ([0, 1, 2, 2] : List Int) ([.int .i64 0, .int .i64 1, .int .i64 2, .int .i64 2] : List Value) := ⟨_, _, rfl, (rep_int : rep hu (0 : Int) _), ⟨_, _, rfl, (rep_int : rep hu (1 : Int) _), ⟨_, _, rfl, (rep_int : rep hu (2 : Int) _), ⟨_, _, rfl, (rep_int : rep hu (2 : Int) _), rfl⟩⟩⟩⟩
                         refine hK _ _ ot.plOk ?_
                         refine D_loud 84 rfl (by kernel_rfl) (by decide) (wantedS_sound sl (by kernel_rfl)) fun K hK => ?_
                         refine wc [] sl ot (law_night_ok n ot.has  ex144) fun anp aj7 ao9 we su tj => ?_
                         replace nv := nv.mono su
                         obtain ⟨_, rfl, ⟨_, _, rfl, ⟨mj, mv, rfl, aer⟩, ⟨_, _, rfl, ⟨ml, mw, rfl, aes⟩, rfl⟩⟩⟩ := we
                         refine ⟨.one (.agg [.slice mj x144.room.length mv, .slice ml x144.buses.length mw, .int .i64 x144.broken]), rfl, fun ah4 (acb : Kn 280 (K13e28 a s u aa ab ac ad af ah) [(tA 144 [.slice mj x144.room.length mv, .slice ml x144.buses.length mw, .int .i64 x144.broken]), (tS 145 mi 4 4), (tB 143 false)] ah4) => hK _ _ tj.plOk ?_⟩
                         refine D_perm [84, 85, 83, 82, 81, 79, 80, 78, 77, 76, 74, 75, 73, 72, 71, 70, 68, 69, 67, 66, 65, 64, 63, 62, 61, 60, 59, 58, 57, 56, 55, 54, 53, 52, 51, 50, 49, 48, 47, 46, 45, 44, 43, 42, 41, 40, 39, 38, 37, 36, 35, 34, 33, 32, 31, 30, 29, 28, 27, 26, 25, 24, 23, 22, 21, 20, 19, 18, 17, 16, 15, 14, 13, 12, 11, 10, 9, 8, 7, 6, 5, 4, 3, 2, 1, 0] (by kernel_rfl) (by rfl) (t9 mi 4 ([.int .i64 0, .int .i64 1, .int .i64 2, .int .i64 2] : List Value) mj mv ml mw _ _ ?_)
                         exact Exists.intro _ ⟨_, rfl, acb.kp, tj, su, nv, aer, aes⟩
                     refine D_two 79 80 rfl rfl (by kernel_rfl) (by decide) (wantedS_sound la (by kernel_rfl)) (wantedS_sound la (by kernel_rfl)) (fun K hK => ?_) (fun K hK => ?_)
                     ·
                      refine wc [] la op (law_night_ok n op.has  ex139) fun anq k6 apa wg adf tk => ?_
                      obtain ⟨_, rfl, ⟨_, _, rfl, ⟨kr, kz, rfl, aet⟩, ⟨_, _, rfl, ⟨ks, k0, rfl, aeu⟩, rfl⟩⟩⟩ := wg
                      refine ⟨.one (.agg [.slice kr x139.room.length kz, .slice ks x139.buses.length k0, .int .i64 x139.broken]), rfl, fun ah5 (sm : Kn 280 (K13e28 a s u aa ab ac ad af ah) [(tA 139 [.slice kr x139.room.length kz, .slice ks x139.buses.length k0, .int .i64 x139.broken]), (tB 138 false)] ah5) => hK _ _ tk.plOk ?_⟩
                      refine D_loud 80 rfl (by kernel_rfl) (by decide) (wantedS_sound sm (by kernel_rfl)) fun K hK => ?_
                      refine wp_buildSlice_at 14 rfl rfl 3 1 [.int .i64 0, .int .i64 1, .int .i64 2] sm tk rfl rfl (by decide) (by kernel_rfl) (by rfl) (by rfl) rfl (by decide) fun p1 ah6 apb (acd : Kn 280 (K13e28 a s u aa ab ac ad af ah) [(tS 140 p1 3 3), (tA 139 [.slice kr x139.room.length kz, .slice ks x139.buses.length k0, .int .i64 x139.broken]), (tB 138 false)] ah6) tl => ?_
                      have xb : Cells k6 ([0, 1, 2] : List Int) ([.int .i64 0, .int .i64 1, .int .i64 2] : List Value) := ⟨_, _, rfl, (rep_int : rep k6 (0 : Int) _), ⟨_, _, rfl, (rep_int : rep k6 (1 : Int) _), ⟨_, _, rfl, (rep_int : rep k6 (2 : Int) _), rfl⟩⟩⟩
                      refine hK _ _ tl.plOk ?_
                      refine D_perm [79, 80, 78, 77, 76, 74, 75, 73, 72, 71, 70, 68, 69, 67, 66, 65, 64, 63, 62, 61, 60, 59, 58, 57, 56, 55, 54, 53, 52, 51, 50, 49, 48, 47, 46, 45, 44, 43, 42, 41, 40, 39, 38, 37, 36, 35, 34, 33, 32, 31, 30, 29, 28, 27, 26, 25, 24, 23, 22, 21, 20, 19, 18, 17, 16, 15, 14, 13, 12, 11, 10, 9, 8, 7, 6, 5, 4, 3, 2, 1, 0] (by kernel_rfl) (by rfl) (t8 p1 3 ([.int .i64 0, .int .i64 1, .int .i64 2] : List Value) kr kz ks k0 _ _ ?_)
                      exact Exists.intro _ ⟨_, rfl, acd.kp, tl, adf, xb, aet, aeu⟩
                     ·
                      refine wp_buildSlice_at 14 rfl rfl 3 1 [.int .i64 0, .int .i64 1, .int .i64 2] la op rfl rfl (by decide) (by kernel_rfl) (by rfl) (by rfl) rfl (by decide) fun mm ah8 apc (sn : Kn 280 (K13e28 a s u aa ab ac ad af ah) [(tS 140 mm 3 3), (tB 138 false)] ah8) ou => ?_
                      have nw : Cells ib ([0, 1, 2] : List Int) ([.int .i64 0, .int .i64 1, .int .i64 2] : List Value) := ⟨_, _, rfl, (rep_int : rep ib (0 : Int) _), ⟨_, _, rfl, (rep_int : rep ib (1 : Int) _), ⟨_, _, rfl, (rep_int : rep ib (2 : Int) _), rfl⟩⟩⟩
                      refine hK _ _ ou.plOk ?_
                      refine D_loud 79 rfl (by kernel_rfl) (by decide) (wantedS_sound sn (by kernel_rfl)) fun K hK => ?_
                      refine wc [] sn ou (law_night_ok n ou.has  ex139) fun anr aj8 apd wh sv tm => ?_
                      replace nw := nw.mono sv
                      obtain ⟨_, rfl, ⟨_, _, rfl, ⟨mn, mx, rfl, aev⟩, ⟨_, _, rfl, ⟨mo, my, rfl, aew⟩, rfl⟩⟩⟩ := wh
                      refine ⟨.one (.agg [.slice mn x139.room.length mx, .slice mo x139.buses.length my, .int .i64 x139.broken]), rfl, fun ah9 (ace : Kn 280 (K13e28 a s u aa ab ac ad af ah) [(tA 139 [.slice mn x139.room.length mx, .slice mo x139.buses.length my, .int .i64 x139.broken]), (tS 140 mm 3 3), (tB 138 false)] ah9) => hK _ _ tm.plOk ?_⟩
                      refine D_perm [79, 80, 78, 77, 76, 74, 75, 73, 72, 71, 70, 68, 69, 67, 66, 65, 64, 63, 62, 61, 60, 59, 58, 57, 56, 55, 54, 53, 52, 51, 50, 49, 48, 47, 46, 45, 44, 43, 42, 41, 40, 39, 38, 37, 36, 35, 34, 33, 32, 31, 30, 29, 28, 27, 26, 25, 24, 23, 22, 21, 20, 19, 18, 17, 16, 15, 14, 13, 12, 11, 10, 9, 8, 7, 6, 5, 4, 3, 2, 1, 0] (by kernel_rfl) (by rfl) (t8 mm 3 ([.int .i64 0, .int .i64 1, .int .i64 2] : List Value) mn mx mo my _ _ ?_)
                      exact Exists.intro _ ⟨_, rfl, ace.kp, tm, sv, nw, aev, aew⟩
                  refine D_two 74 75 rfl rfl (by kernel_rfl) (by decide) (wantedS_sound k9 (by kernel_rfl)) (wantedS_sound k9 (by kernel_rfl)) (fun K hK => ?_) (fun K hK => ?_)
                  ·
                   refine wc [] k9 oo (law_night_ok n oo.has  ex134) fun ans jh apf wi adg tn => ?_
                   obtain ⟨_, rfl, ⟨_, _, rfl, ⟨kt, k1, rfl, aex⟩, ⟨_, _, rfl, ⟨ku, k2, rfl, aey⟩, rfl⟩⟩⟩ := wi
                   refine ⟨.one (.agg [.slice kt x134.room.length k1, .slice ku x134.buses.length k2, .int .i64 x134.broken]), rfl, fun aia (sp : Kn 280 (K13e28 a s u aa ab ac ad af ah) [(tA 134 [.slice kt x134.room.length k1, .slice ku x134.buses.length k2, .int .i64 x134.broken]), (tB 133 false)] aia) => hK _ _ tn.plOk ?_⟩
                   refine D_loud 75 rfl (by kernel_rfl) (by decide) (wantedS_sound sp (by kernel_rfl)) fun K hK => ?_
                   refine wp_buildSlice_at 13 rfl rfl 3 1 K13c6 sp tn rfl rfl (by decide) (by kernel_rfl) (by rfl) (by rfl) rfl (by decide) fun p2 aib apg (acg : Kn 280 (K13e28 a s u aa ab ac ad af ah) [(tS 135 p2 4 4), (tA 134 [.slice kt x134.room.length k1, .slice ku x134.buses.length k2, .int .i64 x134.broken]), (tB 133 false)] aib) tp => ?_
                   have xc : Cells jh ([2, 0, 1, 3] : List Int) ([.int .i64 2, .int .i64 0, .int .i64 1, .int .i64 3] : List Value) := ⟨_, _, rfl, (rep_int : rep jh (2 : Int) _), ⟨_, _, rfl, (rep_int : rep jh (0 : Int) _), ⟨_, _, rfl, (rep_int : rep jh (1 : Int) _), ⟨_, _, rfl, (rep_int : rep jh (3 : Int) _), rfl⟩⟩⟩⟩
                   refine hK _ _ tp.plOk ?_
                   refine D_perm [74, 75, 73, 72, 71, 70, 68, 69, 67, 66, 65, 64, 63, 62, 61, 60, 59, 58, 57, 56, 55, 54, 53, 52, 51, 50, 49, 48, 47, 46, 45, 44, 43, 42, 41, 40, 39, 38, 37, 36, 35, 34, 33, 32, 31, 30, 29, 28, 27, 26, 25, 24, 23, 22, 21, 20, 19, 18, 17, 16, 15, 14, 13, 12, 11, 10, 9, 8, 7, 6, 5, 4, 3, 2, 1, 0] (by kernel_rfl) (by rfl) (t7 p2 4 ([.int .i64 2, .int .i64 0, .int .i64 1, .int .i64 3] : List Value) kt k1 ku k2 _ _ ?_)
                   exact Exists.intro _ ⟨_, rfl, acg.kp, tp, adg, xc, aex, aey⟩
                  ·
                   refine wp_buildSlice_at 13 rfl rfl 3 1 K13c6 k9 oo rfl rfl (by decide) (by kernel_rfl) (by rfl) (by rfl) rfl (by decide) fun mp aic aph (sq : Kn 280 (K13e28 a s u aa ab ac ad af ah) [(tS 135 mp 4 4), (tB 133 false)] aic) ov => ?_
                   have nx : Cells ht ([2, 0, 1, 3] : List Int) ([.int .i64 2, .int .i64 0, .int .i64 1, .int .i64 3] : List Value) := ⟨_, _, rfl, (rep_int : rep ht (2 : Int) _), ⟨_, _, rfl, (rep_int : rep ht (0 : Int) _), ⟨_, _, rfl, (rep_int : rep ht (1 : Int) _), ⟨_, _, rfl, (rep_int : rep ht (3 : Int) _), rfl⟩⟩⟩⟩
                   refine hK _ _ ov.plOk ?_
                   refine D_loud 74 rfl (by kernel_rfl) (by decide) (wantedS_sound sq (by kernel_rfl)) fun K hK => ?_
                   refine wc [] sq ov (law_night_ok n ov.has  ex134) fun ant aj9 api wj sw tq => ?_
                   replace nx := nx.mono sw
                   obtain ⟨_, rfl, ⟨_, _, rfl, ⟨mq, mz, rfl, aez⟩, ⟨_, _, rfl, ⟨mr, m0, rfl, ae0⟩, rfl⟩⟩⟩ := wj
                   refine ⟨.one (.agg [.slice mq x134.room.length mz, .slice mr x134.buses.length m0, .int .i64 x134.broken]), rfl, fun aid (ach : Kn 280 (K13e28 a s u aa ab ac ad af ah) [(tA 134 [.slice mq x134.room.length mz, .slice mr x134.buses.length m0, .int .i64 x134.broken]), (tS 135 mp 4 4), (tB 133 false)] aid) => hK _ _ tq.plOk ?_⟩
                   refine D_perm [74, 75, 73, 72, 71, 70, 68, 69, 67, 66, 65, 64, 63, 62, 61, 60, 59, 58, 57, 56, 55, 54, 53, 52, 51, 50, 49, 48, 47, 46, 45, 44, 43, 42, 41, 40, 39, 38, 37, 36, 35, 34, 33, 32, 31, 30, 29, 28, 27, 26, 25, 24, 23, 22, 21, 20, 19, 18, 17, 16, 15, 14, 13, 12, 11, 10, 9, 8, 7, 6, 5, 4, 3, 2, 1, 0] (by kernel_rfl) (by rfl) (t7 mp 4 ([.int .i64 2, .int .i64 0, .int .i64 1, .int .i64 3] : List Value) mq mz mr m0 _ _ ?_)
                   exact Exists.intro _ ⟨_, rfl, ach.kp, tq, sw, nx, aez, ae0⟩
               refine D_two 68 69 rfl rfl (by kernel_rfl) (by decide) (wantedS_sound k8 (by kernel_rfl)) (wantedS_sound k8 (by kernel_rfl)) (fun K hK => ?_) (fun K hK => ?_)
               ·
                refine wc [] k8 om (law_night_ok n om.has  ex128) fun anu ji apj wk adh tr => ?_
                obtain ⟨_, rfl, ⟨_, _, rfl, ⟨kv, k3, rfl, ae1⟩, ⟨_, _, rfl, ⟨kw, k4, rfl, ae2⟩, rfl⟩⟩⟩ := wk
                refine ⟨.one (.agg [.slice kv x128.room.length k3, .slice kw x128.buses.length k4, .int .i64 x128.broken]), rfl, fun aif (sr : Kn 280 (K13e28 a s u aa ab ac ad af ah) [(tA 128 [.slice kv x128.room.length k3, .slice kw x128.buses.length k4, .int .i64 x128.broken]), (tB 127 false)] aif) => hK _ _ tr.plOk ?_⟩
                refine D_loud 69 rfl (by kernel_rfl) (by decide) (wantedS_sound sr (by kernel_rfl)) fun K hK => ?_
                refine wp_buildSlice_at 12 rfl rfl 3 1 K13c4 sr tr rfl rfl (by decide) (by kernel_rfl) (by rfl) (by rfl) rfl (by decide) fun p3 aig apk (aci : Kn 280 (K13e28 a s u aa ab ac ad af ah) [(tS 129 p3 4 4), (tA 128 [.slice kv x128.room.length k3, .slice kw x128.buses.length k4, .int .i64 x128.broken]), (tB 127 false)] aig) ts => ?_
                have xd : Cells ji ([1, 0, 2, 3] : List Int) ([.int .i64 1, .int .i64 0, .int .i64 2, .int .i64 3] : List Value) := ⟨_, _, rfl, (rep_int : rep ji (1 : Int) _), ⟨_, _, rfl, (rep_int : rep ji (0 : Int) _), ⟨_, _, rfl, (rep_int : rep ji (2 : Int) _), ⟨_, _, rfl, (rep_int : rep ji (3 : Int) _), rfl⟩⟩⟩⟩
                refine hK _ _ ts.plOk ?_
                refine D_perm [68, 69, 67, 66, 65, 64, 63, 62, 61, 60, 59, 58, 57, 56, 55, 54, 53, 52, 51, 50, 49, 48, 47, 46, 45, 44, 43, 42, 41, 40, 39, 38, 37, 36, 35, 34, 33, 32, 31, 30, 29, 28, 27, 26, 25, 24, 23, 22, 21, 20, 19, 18, 17, 16, 15, 14, 13, 12, 11, 10, 9, 8, 7, 6, 5, 4, 3, 2, 1, 0] (by kernel_rfl) (by rfl) (t6 p3 4 ([.int .i64 1, .int .i64 0, .int .i64 2, .int .i64 3] : List Value) kv k3 kw k4 _ _ ?_)
                exact Exists.intro _ ⟨_, rfl, aci.kp, ts, adh, xd, ae1, ae2⟩
               ·
                refine wp_buildSlice_at 12 rfl rfl 3 1 K13c4 k8 om rfl rfl (by decide) (by kernel_rfl) (by rfl) (by rfl) rfl (by decide) fun ms aih apl (ss : Kn 280 (K13e28 a s u aa ab ac ad af ah) [(tS 129 ms 4 4), (tB 127 false)] aih) ow => ?_
                have ny : Cells hs ([1, 0, 2, 3] : List Int) ([.int .i64 1, .int .i64 0, .int .i64 2, .int .i64 3] : List Value) := ⟨_, _, rfl, (rep_int : rep hs (1 : Int) _), ⟨_, _, rfl, (rep_int : rep hs (0 : Int) _), ⟨_, _, rfl, (rep_int : rep hs (2 : Int) _), ⟨_, _, rfl, (rep_int : rep hs (3 : Int) _), rfl⟩⟩⟩⟩
                refine hK _ _ ow.plOk ?_
                refine D_loud 68 rfl (by kernel_rfl) (by decide) (wantedS_sound ss (by kernel_rfl)) fun K hK => ?_
                refine wc [] ss ow (law_night_ok n ow.has  ex128) fun anv aka apm wm sx tu => ?_
                replace ny := ny.mono sx
                obtain ⟨_, rfl, ⟨_, _, rfl, ⟨mt, m1, rfl, ae3⟩, ⟨_, _, rfl, ⟨mu, m2, rfl, ae4⟩, rfl⟩⟩⟩ := wm
                refine ⟨.one (.agg [.slice mt x128.room.length m1, .slice mu x128.buses.length m2, .int .i64 x128.broken]), rfl, fun aii (ack : Kn 280 (K13e28 a s u aa ab ac ad af ah) [(tA 128 [.slice mt x128.room.length m1, .slice mu x128.buses.length m2, .int .i64 x128.broken]), (tS 129 ms 4 4), (tB 127 false)] aii) => hK _ _ tu.plOk ?_⟩
                refine D_perm [68, 69, 67, 66, 65, 64, 63, 62, 61, 60, 59, 58, 57, 56, 55, 54, 53, 52, 51, 50, 49, 48, 47, 46, 45, 44, 43, 42, 41, 40, 39, 38, 37, 36, 35, 34, 33, 32, 31, 30, 29, 28, 27, 26, 25, 24, 23, 22, 21, 20, 19, 18, 17, 16, 15, 14, 13, 12, 11, 10, 9, 8, 7, 6, 5, 4, 3, 2, 1, 0] (by kernel_rfl) (by rfl) (t6 ms 4 ([.int .i64 1, .int .i64 0, .int .i64 2, .int .i64 3] : List Value) mt m1 mu m2 _ _ ?_)
                exact Exists.intro _ ⟨_, rfl, ack.kp, tu, sx, ny, ae3, ae4⟩
 ·
  as_aux_lemma =>
   rintro _ apn ⟨pq, nd, rfl, nz, l7, eh⟩
   replace cl := cl.mono eh
   replace c3 := c3.mono eh
   replace ij := ij.mono eh
   replace cm := cm.mono eh
   replace c4 := c4.mono eh
   replace fq := fq.mono eh
   replace c1 := c1.mono eh
   replace ck := ck.mono eh
   replace c2 := c2.mono eh
   replace gk := gk.mono eh
   replace cc := cc.mono eh
   replace cd := cd.mono eh
   replace ce := ce.mono eh
   replace cf := cf.mono eh
   replace b8 := b8.mono eh
   replace cb := cb.mono eh
   replace b9 := b9.mono eh
   replace ca := ca.mono eh
   refine wC (ix) nz (fun nt => ?_) (fun nt => ?_)
   ·
    rw [cond_t nt] at H
    refine wp_seq (wp_region_from (Rk 0 1 [(tB 0 false)] nz l7 fun amp acl => ?_))
    refine wf (wp_ret ?_)
    obtain rfl := Option.some.inj H
    exact rt (.one (.c (.bool false))) acl l7 rfl
   ·
    rw [cond_f nt] at H
    refine wp_skip (wp_seq (wp_region_from ?_))
    obtain ⟨x149, ex149, H⟩ := bnd H
    refine wl fun K hK => ?_
    refine wc [] nz l7 (law_night_ok n l7.has  ex149) fun anw gs apo wn fc ad0 => ?_
    obtain ⟨_, rfl, ⟨_, _, rfl, ⟨ha, ho, rfl, ph⟩, ⟨_, _, rfl, ⟨hb, hp, rfl, pi⟩, rfl⟩⟩⟩ := wn
    refine ⟨.one (.agg (K13c15 ha x149 ho hb hp)), rfl, fun aij (acm : Kn 280 [(a, 0)] [(tA 149 (K13c15 ha x149 ho hb hp)), (tB 147 ix)] aij) => hK _ _ ?_⟩
    refine wl fun K hK => ?_
    refine wS 3 1 [.int .i64 0, .int .i64 0, .int .i64 0, .int .i64 1] acm ad0 fun c8 aik app (acn : Kn 280 [(a, 0)] [(tS 150 c8 4 4), (tA 149 (K13c15 ha x149 ho hb hp)), (tB 147 ix)] aik) ad1 => ?_
    have e3 : Cells gs ([0, 0, 0, 1] : List Int) ([.int .i64 0, .int .i64 0, .int .i64 0, .int .i64 1] : List Value) := ⟨_, _, rfl, (rep_int : rep gs (0 : Int) _), ⟨_, _, rfl, (rep_int : rep gs (0 : Int) _), ⟨_, _, rfl, (rep_int : rep gs (0 : Int) _), ⟨_, _, rfl, (rep_int : rep gs (1 : Int) _), rfl⟩⟩⟩⟩
    refine hK _ _ ?_
    refine wl fun K hK => ?_
    refine wS 3 1 K13c5 acn ad1 fun de ail ve (aco : Kn 280 [(a, 0)] [(tS 151 de 4 4), (tS 150 c8 4 4), (tA 149 (K13c15 ha x149 ho hb hp)), (tB 147 ix)] ail) tv => ?_
    have e4 : Cells gs ([0, 1, 2, 3] : List Int) ([.int .i64 0, .int .i64 1, .int .i64 2, .int .i64 3] : List Value) := ⟨_, _, rfl, (rep_int : rep gs (0 : Int) _), ⟨_, _, rfl, (rep_int : rep gs (1 : Int) _), ⟨_, _, rfl, (rep_int : rep gs (2 : Int) _), ⟨_, _, rfl, (rep_int : rep gs (3 : Int) _), rfl⟩⟩⟩⟩
    refine hK _ _ ?_
    obtain ⟨qv, ed, afu, l8⟩ := tv.settle (i := 8) rfl
    replace e3 := e3.mono ed
    replace l8 : Mem ⟨w, h, noX⟩ qv [(a, 0)] [⟨(K13c9 g x52 l d x48 f), some 33⟩] [⟨aq, 4, 4, 3, 1, ([.int .i64 0, .int .i64 0, .int .i64 1, .int .i64 1] : List Value), (([.int .i64 0, .int .i64 0, .int .i64 1, .int .i64 1] : List Value) : List Value).length⟩, ⟨av, 4, 4, 3, 1, ([.int .i64 1, .int .i64 0, .int .i64 2, .int .i64 3] : List Value), (([.int .i64 1, .int .i64 0, .int .i64 2, .int .i64 3] : List Value) : List Value).length⟩, ⟨ay, 4, 4, 3, 1, ([.int .i64 0, .int .i64 0, .int .i64 1, .int .i64 1] : List Value), (([.int .i64 0, .int .i64 0, .int .i64 1, .int .i64 1] : List Value) : List Value).length⟩, ⟨a1, 4, 4, 3, 1, ([.int .i64 0, .int .i64 1, .int .i64 2, .int .i64 3] : List Value), (([.int .i64 0, .int .i64 1, .int .i64 2, .int .i64 3] : List Value) : List Value).length⟩, ⟨a7, 4, 4, 3, 1, ([.int .i64 0, .int .i64 0, .int .i64 1, .int .i64 1] : List Value), (([.int .i64 0, .int .i64 0, .int .i64 1, .int .i64 1] : List Value) : List Value).length⟩, ⟨g, x52.length, l, 3, 1, (m ++ ([.int .i64 2] : List Value)), ((m ++ ([.int .i64 2] : List Value)) : List Value).length⟩, ⟨d, x48.buses.length, f, 70, 3, p, (p : List Value).length⟩, ⟨bd, 1, 1, 3, 1, ([.int .i64 2] : List Value), 0⟩, ⟨c8, 4, 4, 3, 1, ([.int .i64 0, .int .i64 0, .int .i64 0, .int .i64 1] : List Value), (([.int .i64 0, .int .i64 0, .int .i64 0, .int .i64 1] : List Value) : List Value).length⟩, ⟨de, 4, 4, 3, 1, ([.int .i64 0, .int .i64 1, .int .i64 2, .int .i64 3] : List Value), 0⟩] ve := l8
    have fk : RepS qv c8 4 ([0, 0, 0, 1] : List Int) := ⟨_, e3, afu, tv.rowCap (i := 8) rfl⟩
    obtain ⟨nk, ea, afv, ma⟩ := l8.settle (i := 9) rfl
    replace ph := ph.mono (Heap.le_trans ed ea)
    replace pi := pi.mono (Heap.le_trans ed ea)
    replace fk := fk.mono ea
    replace e4 := e4.mono (Heap.le_trans ed ea)
    replace ma : Mem ⟨w, h, noX⟩ nk [(a, 0)] [⟨(K13c9 g x52 l d x48 f), some 33⟩] [⟨aq, 4, 4, 3, 1, ([.int .i64 0, .int .i64 0, .int .i64 1, .int .i64 1] : List Value), (([.int .i64 0, .int .i64 0, .int .i64 1, .int .i64 1] : List Value) : List Value).length⟩, ⟨av, 4, 4, 3, 1, ([.int .i64 1, .int .i64 0, .int .i64 2, .int .i64 3] : List Value), (([.int .i64 1, .int .i64 0, .int .i64 2, .int .i64 3] : List Value) : List Value).length⟩, ⟨ay, 4, 4, 3, 1, ([.int .i64 0, .int .i64 0, .int .i64 1, .int .i64 1] : List Value), (([.int .i64 0, .int .i64 0, .int .i64 1, .int .i64 1] : List Value) : List Value).length⟩, ⟨a1, 4, 4, 3, 1, ([.int .i64 0, .int .i64 1, .int .i64 2, .int .i64 3] : List Value), (([.int .i64 0, .int .i64 1, .int .i64 2, .int .i64 3] : List Value) : List Value).length⟩, ⟨a7, 4, 4, 3, 1, ([.int .i64 0, .int .i64 0, .int .i64 1, .int .i64 1] : List Value), (([.int .i64 0, .int .i64 0, .int .i64 1, .int .i64 1] : List Value) : List Value).length⟩, ⟨g, x52.length, l, 3, 1, (m ++ ([.int .i64 2] : List Value)), ((m ++ ([.int .i64 2] : List Value)) : List Value).length⟩, ⟨d, x48.buses.length, f, 70, 3, p, (p : List Value).length⟩, ⟨bd, 1, 1, 3, 1, ([.int .i64 2] : List Value), 0⟩, ⟨c8, 4, 4, 3, 1, ([.int .i64 0, .int .i64 0, .int .i64 0, .int .i64 1] : List Value), (([.int .i64 0, .int .i64 0, .int .i64 0, .int .i64 1] : List Value) : List Value).length⟩, ⟨de, 4, 4, 3, 1, ([.int .i64 0, .int .i64 1, .int .i64 2, .int .i64 3] : List Value), (([.int .i64 0, .int .i64 1, .int .i64 2, .int .i64 3] : List Value) : List Value).length⟩] ve := ma
    have f2 : RepS nk de 4 ([0, 1, 2, 3] : List Int) := ⟨_, e4, afv, l8.rowCap (i := 9) rfl⟩
    obtain ⟨x152, ex152, H⟩ := bnd H
    refine wl fun K hK => ?_
    refine wc [.agg (K13c15 ha x149 ho hb hp), .c (.slice c8 4 4), .c (.slice de 4 4), .c (.slice none 0 0)] aco ma (lane_Shunts_ok n ma.has x149 ((rep_pair (rep_slice ph) (rep_pair (rep_slice pi) rep_int)) : rep nk x149 _) ([0, 0, 0, 1] : List Int) fk ([0, 1, 2, 3] : List Int) f2 ([] : List Int) RepS.nil ex152) fun anx akb apq wo ee ox => ?_
    obtain ⟨_, _, rfl, ⟨p4, qc, rfl, aku⟩, rfl⟩ := wo
    refine ⟨.tup [.c (.slice p4 x152.1.length qc), .c (.int .i64 x152.2)], rfl, fun aim (acp : Kn 280 [(a, 0)] [(152, .tup [.c (.slice p4 x152.1.length qc), .c (.int .i64 x152.2)]), (tS 151 de 4 4), (tS 150 c8 4 4), (tA 149 (K13c15 ha x149 ho hb hp)), (tB 147 ix)] aim) => hK _ _ ?_⟩
    refine Rk 4 4 [(tI 2 x152.2)] acp ox fun amq acq => ?_
    refine wf (wp_seq (wp_region_from ?_))
    obtain ⟨x156, ex156, H⟩ := bnd H
    refine wl fun K hK => ?_
    refine wc [] acq ox (law_night_ok n ox.has  ex156) fun any gu apr wp ef ad3 => ?_
    obtain ⟨_, rfl, ⟨_, _, rfl, ⟨hc, hq, rfl, pj⟩, ⟨_, _, rfl, ⟨hd, hr, rfl, pk⟩, rfl⟩⟩⟩ := wp
    refine ⟨.one (.agg (K13c16 hc x156 hq hd hr)), rfl, fun ain (acr : Kn 280 [(a, 0)] [(tA 156 (K13c16 hc x156 hq hd hr)), (tI 2 x152.2)] ain) => hK _ _ ?_⟩
    refine wl fun K hK => ?_
    refine wS 3 1 K13c3 acr ad3 fun dj aio aps (acs : Kn 280 [(a, 0)] [(tS 157 dj 4 4), (tA 156 (K13c16 hc x156 hq hd hr)), (tI 2 x152.2)] aio) ad4 => ?_
    have e5 : Cells gu ([0, 0, 1, 1] : List Int) ([.int .i64 0, .int .i64 0, .int .i64 1, .int .i64 1] : List Value) := ⟨_, _, rfl, (rep_int : rep gu (0 : Int) _), ⟨_, _, rfl, (rep_int : rep gu (0 : Int) _), ⟨_, _, rfl, (rep_int : rep gu (1 : Int) _), ⟨_, _, rfl, (rep_int : rep gu (1 : Int) _), rfl⟩⟩⟩⟩
    refine hK _ _ ?_
    refine wl fun K hK => ?_
    refine wS 3 1 K13c6 acs ad4 fun dp aip vf (act : Kn 280 [(a, 0)] [(tS 158 dp 4 4), (tS 157 dj 4 4), (tA 156 (K13c16 hc x156 hq hd hr)), (tI 2 x152.2)] aip) tw => ?_
    have e6 : Cells gu ([2, 0, 1, 3] : List Int) ([.int .i64 2, .int .i64 0, .int .i64 1, .int .i64 3] : List Value) := ⟨_, _, rfl, (rep_int : rep gu (2 : Int) _), ⟨_, _, rfl, (rep_int : rep gu (0 : Int) _), ⟨_, _, rfl, (rep_int : rep gu (1 : Int) _), ⟨_, _, rfl, (rep_int : rep gu (3 : Int) _), rfl⟩⟩⟩⟩
    refine hK _ _ ?_
    obtain ⟨qw, dx, afx, mb⟩ := tw.settle (i := 10) rfl
    replace e5 := e5.mono dx
    replace mb : Mem ⟨w, h, noX⟩ qw [(a, 0)] [⟨(K13c9 g x52 l d x48 f), some 33⟩] [⟨aq, 4, 4, 3, 1, ([.int .i64 0, .int .i64 0, .int .i64 1, .int .i64 1] : List Value), (([.int .i64 0, .int .i64 0, .int .i64 1, .int .i64 1] : List Value) : List Value).length⟩, ⟨av, 4, 4, 3, 1, ([.int .i64 1, .int .i64 0, .int .i64 2, .int .i64 3] : List Value), (([.int .i64 1, .int .i64 0, .int .i64 2, .int .i64 3] : List Value) : List Value).length⟩, ⟨ay, 4, 4, 3, 1, ([.int .i64 0, .int .i64 0, .int .i64 1, .int .i64 1] : List Value), (([.int .i64 0, .int .i64 0, .int .i64 1, .int .i64 1] : List Value) : List Value).length⟩, ⟨a1, 4, 4, 3, 1, ([.int .i64 0, .int .i64 1, .int .i64 2, .int .i64 3] : List Value), (([.int .i64 0, .int .i64 1, .int .i64 2, .int .i64 3] : List Value) : List Value).length⟩, ⟨a7, 4, 4, 3, 1, ([.int .i64 0, .int .i64 0, .int .i64 1, .int .i64 1] : List Value), (([.int .i64 0, .int .i64 0, .int .i64 1, .int .i64 1] : List Value) : List Value).length⟩, ⟨g, x52.length, l, 3, 1, (m ++ ([.int .i64 2] : List Value)), ((m ++ ([.int .i64 2] : List Value)) : List Value).length⟩, ⟨d, x48.buses.length, f, 70, 3, p, (p : List Value).length⟩, ⟨bd, 1, 1, 3, 1, ([.int .i64 2] : List Value), 0⟩, ⟨c8, 4, 4, 3, 1, ([.int .i64 0, .int .i64 0, .int .i64 0, .int .i64 1] : List Value), (([.int .i64 0, .int .i64 0, .int .i64 0, .int .i64 1] : List Value) : List Value).length⟩, ⟨de, 4, 4, 3, 1, ([.int .i64 0, .int .i64 1, .int .i64 2, .int .i64 3] : List Value), (([.int .i64 0, .int .i64 1, .int .i64 2, .int .i64 3] : List Value) : List Value).length⟩, ⟨dj, 4, 4, 3, 1, ([.int .i64 0, .int .i64 0, .int .i64 1, .int .i64 1] : List Value), (([.int .i64 0, .int .i64 0, .int .i64 1, .int .i64 1] : List Value) : List Value).length⟩, ⟨dp, 4, 4, 3, 1, ([.int .i64 2, .int .i64 0, .int .i64 1, .int .i64 3] : List Value), 0⟩] vf := mb
    have fl : RepS qw dj 4 ([0, 0, 1, 1] : List Int) := ⟨_, e5, afx, tw.rowCap (i := 10) rfl⟩
    obtain ⟨nm, dv, afy, mc⟩ := mb.settle (i := 11) rfl
    replace pj := pj.mono (Heap.le_trans dx dv)
    replace pk := pk.mono (Heap.le_trans dx dv)
    replace fl := fl.mono dv
    replace e6 := e6.mono (Heap.le_trans dx dv)
    replace mc : Mem ⟨w, h, noX⟩ nm [(a, 0)] [⟨(K13c9 g x52 l d x48 f), some 33⟩] [⟨aq, 4, 4, 3, 1, ([.int .i64 0, .int .i64 0, .int .i64 1, .int .i64 1] : List Value), (([.int .i64 0, .int .i64 0, .int .i64 1, .int .i64 1] : List Value) : List Value).length⟩, ⟨av, 4, 4, 3, 1, ([.int .i64 1, .int .i64 0, .int .i64 2, .int .i64 3] : List Value), (([.int .i64 1, .int .i64 0, .int .i64 2, .int .i64 3] : List Value) : List Value).length⟩, ⟨ay, 4, 4, 3, 1, ([.int .i64 0, .int .i64 0, .int .i64 1, .int .i64 1] : List Value), (([.int .i64 0, .int .i64 0, .int .i64 1, .int .i64 1] : List Value) : List Value).length⟩, ⟨a1, 4, 4, 3, 1, ([.int .i64 0, .int .i64 1, .int .i64 2, .int .i64 3] : List Value), (([.int .i64 0, .int .i64 1, .int .i64 2, .int .i64 3] : List Value) : List Value).length⟩, ⟨a7, 4, 4, 3, 1, ([.int .i64 0, .int .i64 0, .int .i64 1, .int .i64 1] : List Value), (([.int .i64 0, .int .i64 0, .int .i64 1, .int .i64 1] : List Value) : List Value).length⟩, ⟨g, x52.length, l, 3, 1, (m ++ ([.int .i64 2] : List Value)), ((m ++ ([.int .i64 2] : List Value)) : List Value).length⟩, ⟨d, x48.buses.length, f, 70, 3, p, (p : List Value).length⟩, ⟨bd, 1, 1, 3, 1, ([.int .i64 2] : List Value), 0⟩, ⟨c8, 4, 4, 3, 1, ([.int .i64 0, .int .i64 0, .int .i64 0, .int .i64 1] : List Value), (([.int .i64 0, .int .i64 0, .int .i64 0, .int .i64 1] : List Value) : List Value).length⟩, ⟨de, 4, 4, 3, 1, ([.int .i64 0, .int .i64 1, .int .i64 2, .int .i64 3] : List Value), (([.int .i64 0, .int .i64 1, .int .i64 2, .int .i64 3] : List Value) : List Value).length⟩, ⟨dj, 4, 4, 3, 1, ([.int .i64 0, .int .i64 0, .int .i64 1, .int .i64 1] : List Value), (([.int .i64 0, .int .i64 0, .int .i64 1, .int .i64 1] : List Value) : List Value).length⟩, ⟨dp, 4, 4, 3, 1, ([.int .i64 2, .int .i64 0, .int .i64 1, .int .i64 3] : List Value), (([.int .i64 2, .int .i64 0, .int .i64 1, .int .i64 3] : List Value) : List Value).length⟩] vf := mc
    have f3 : RepS nm dp 4 ([2, 0, 1, 3] : List Int) := ⟨_, e6, afy, mb.rowCap (i := 11) rfl⟩
    obtain ⟨x159, ex159, H⟩ := bnd H
    refine wl fun K hK => ?_
    refine wc [.agg (K13c16 hc x156 hq hd hr), .c (.slice dj 4 4), .c (.slice dp 4 4), .c (.slice none 0 0)] act mc (lane_Shunts_ok n mc.has x156 ((rep_pair (rep_slice pj) (rep_pair (rep_slice pk) rep_int)) : rep nm x156 _) ([0, 0, 1, 1] : List Int) fl ([2, 0, 1, 3] : List Int) f3 ([] : List Int) RepS.nil ex159) fun anz akc apt wq dy oy => ?_
    obtain ⟨_, _, rfl, ⟨p5, qd, rfl, akv⟩, rfl⟩ := wq
    refine ⟨.tup [.c (.slice p5 x159.1.length qd), .c (.int .i64 x159.2)], rfl, fun aiq (acu : Kn 280 [(a, 0)] [(159, .tup [.c (.slice p5 x159.1.length qd), .c (.int .i64 x159.2)]), (tS 158 dp 4 4), (tS 157 dj 4 4), (tA 156 (K13c16 hc x156 hq hd hr)), (tI 2 x152.2)] aiq) => hK _ _ ?_⟩
    refine Rk 4 4 [(tI 4 x159.2), (tI 2 x152.2)] acu oy fun amr acv => ?_
    refine wf (wp_seq (wp_region_from ?_))
    obtain ⟨x163, ex163, H⟩ := bnd H
    refine wl fun K hK => ?_
    refine wc [] acv oy (law_night_ok n oy.has  ex163) fun an0 gb apu wr dz ad5 => ?_
    obtain ⟨_, rfl, ⟨_, _, rfl, ⟨gx, gz, rfl, pl⟩, ⟨_, _, rfl, ⟨gy, g0, rfl, pm⟩, rfl⟩⟩⟩ := wr
    refine ⟨.one (.agg (K13c17 gx x163 gz gy g0)), rfl, fun air (acw : Kn 280 [(a, 0)] [(tA 163 (K13c17 gx x163 gz gy g0)), (tI 4 x159.2), (tI 2 x152.2)] air) => hK _ _ ?_⟩
    refine wl fun K hK => ?_
    refine wS 3 1 K13c3 acw ad5 fun dq ais apv (acx : Kn 280 [(a, 0)] [(tS 164 dq 4 4), (tA 163 (K13c17 gx x163 gz gy g0)), (tI 4 x159.2), (tI 2 x152.2)] ais) ad6 => ?_
    have e7 : Cells gb ([0, 0, 1, 1] : List Int) ([.int .i64 0, .int .i64 0, .int .i64 1, .int .i64 1] : List Value) := ⟨_, _, rfl, (rep_int : rep gb (0 : Int) _), ⟨_, _, rfl, (rep_int : rep gb (0 : Int) _), ⟨_, _, rfl, (rep_int : rep gb (1 : Int) _), ⟨_, _, rfl, (rep_int : rep gb (1 : Int) _), rfl⟩⟩⟩⟩
    refine hK _ _ ?_
    refine wl fun K hK => ?_
    refine wS 3 1 K13c5 acx ad6 fun dt ait apw (acy : Kn 280 [(a, 0)] [(tS 165 dt 4 4), (tS 164 dq 4 4), (tA 163 (K13c17 gx x163 gz gy g0)), (tI 4 x159.2), (tI 2 x152.2)] ait) ad7 => ?_
    have e8 : Cells gb ([0, 1, 2, 3] : List Int) ([.int .i64 0, .int .i64 1, .int .i64 2, .int .i64 3] : List Value) := ⟨_, _, rfl, (rep_int : rep gb (0 : Int) _), ⟨_, _, rfl, (rep_int : rep gb (1 : Int) _), ⟨_, _, rfl, (rep_int : rep gb (2 : Int) _), ⟨_, _, rfl, (rep_int : rep gb (3 : Int) _), rfl⟩⟩⟩⟩
    refine hK _ _ ?_
    refine wl fun K hK => ?_
    refine wS 3 1 [.int .i64 0] acy ad7 fun du aiu pw (acz : Kn 280 [(a, 0)] [(tS 166 du 1 1), (tS 165 dt 4 4), (tS 164 dq 4 4), (tA 163 (K13c17 gx x163 gz gy g0)), (tI 4 x159.2), (tI 2 x152.2)] aiu) tx => ?_
    have e9 : Cells gb ([0] : List Int) ([.int .i64 0] : List Value) := ⟨_, _, rfl, (rep_int : rep gb (0 : Int) _), rfl⟩
    refine hK _ _ ?_
    obtain ⟨qx, df, afz, me⟩ := tx.settle (i := 12) rfl
    replace e7 := e7.mono df
    replace me : Mem ⟨w, h, noX⟩ qx [(a, 0)] [⟨(K13c9 g x52 l d x48 f), some 33⟩] [⟨aq, 4, 4, 3, 1, ([.int .i64 0, .int .i64 0, .int .i64 1, .int .i64 1] : List Value), (([.int .i64 0, .int .i64 0, .int .i64 1, .int .i64 1] : List Value) : List Value).length⟩, ⟨av, 4, 4, 3, 1, ([.int .i64 1, .int .i64 0, .int .i64 2, .int .i64 3] : List Value), (([.int .i64 1, .int .i64 0, .int .i64 2, .int .i64 3] : List Value) : List Value).length⟩, ⟨ay, 4, 4, 3, 1, ([.int .i64 0, .int .i64 0, .int .i64 1, .int .i64 1] : List Value), (([.int .i64 0, .int .i64 0, .int .i64 1, .int .i64 1] : List Value) : List Value).length⟩, ⟨a1, 4, 4, 3, 1, ([.int .i64 0, .int .i64 1, .int .i64 2, .int .i64 3] : List Value), (([.int .i64 0, .int .i64 1, .int .i64 2, .int .i64 3] : List Value) : List Value).length⟩, ⟨a7, 4, 4, 3, 1, ([.int .i64 0, .int .i64 0, .int .i64 1, .int .i64 1] : List Value), (([.int .i64 0, .int .i64 0, .int .i64 1, .int .i64 1] : List Value) : List Value).length⟩, ⟨g, x52.length, l, 3, 1, (m ++ ([.int .i64 2] : List Value)), ((m ++ ([.int .i64 2] : List Value)) : List Value).length⟩, ⟨d, x48.buses.length, f, 70, 3, p, (p : List Value).length⟩, ⟨bd, 1, 1, 3, 1, ([.int .i64 2] : List Value), 0⟩, ⟨c8, 4, 4, 3, 1, ([.int .i64 0, .int .i64 0, .int .i64 0, .int .i64 1] : List Value), (([.int .i64 0, .int .i64 0, .int .i64 0, .int .i64 1] : List Value) : List Value).length⟩, ⟨de, 4, 4, 3, 1, ([.int .i64 0, .int .i64 1, .int .i64 2, .int .i64 3] : List Value), (([.int .i64 0, .int .i64 1, .int .i64 2, .int .i64 3] : List Value) : List Value).length⟩, ⟨dj, 4, 4, 3, 1, ([.int .i64 0, .int .i64 0, .int .i64 1, .int .i64 1] : List Value), (([.int .i64 0, .int .i64 0, .int .i64 1, .int .i64 1] : List Value) : List Value).length⟩, ⟨dp, 4, 4, 3, 1, ([.int .i64 2, .int .i64 0, .int .i64 1, .int .i64 3] : List Value), (([.int .i64 2, .int .i64 0, .int .i64 1, .int .i64 3] : List Value) : List Value).length⟩, ⟨dq, 4, 4, 3, 1, ([.int .i64 0, .int .i64 0, .int .i64 1, .int .i64 1] : List Value), (([.int .i64 0, .int .i64 0, .int .i64 1, .int .i64 1] : List Value) : List Value).length⟩, ⟨dt, 4, 4, 3, 1, ([.int .i64 0, .int .i64 1, .int .i64 2, .int .i64 3] : List Value), 0⟩, ⟨du, 1, 1, 3, 1, ([.int .i64 0] : List Value), 0⟩] pw := me
    have fm : RepS qx dq 4 ([0, 0, 1, 1] : List Int) := ⟨_, e7, afz, tx.rowCap (i := 12) rfl⟩
    obtain ⟨qy, db, af0, mf⟩ := me.settle (i := 13) rfl
    replace e8 := e8.mono (Heap.le_trans df db)
    replace mf : Mem ⟨w, h, noX⟩ qy [(a, 0)] [⟨(K13c9 g x52 l d x48 f), some 33⟩] [⟨aq, 4, 4, 3, 1, ([.int .i64 0, .int .i64 0, .int .i64 1, .int .i64 1] : List Value), (([.int .i64 0, .int .i64 0, .int .i64 1, .int .i64 1] : List Value) : List Value).length⟩, ⟨av, 4, 4, 3, 1, ([.int .i64 1, .int .i64 0, .int .i64 2, .int .i64 3] : List Value), (([.int .i64 1, .int .i64 0, .int .i64 2, .int .i64 3] : List Value) : List Value).length⟩, ⟨ay, 4, 4, 3, 1, ([.int .i64 0, .int .i64 0, .int .i64 1, .int .i64 1] : List Value), (([.int .i64 0, .int .i64 0, .int .i64 1, .int .i64 1] : List Value) : List Value).length⟩, ⟨a1, 4, 4, 3, 1, ([.int .i64 0, .int .i64 1, .int .i64 2, .int .i64 3] : List Value), (([.int .i64 0, .int .i64 1, .int .i64 2, .int .i64 3] : List Value) : List Value).length⟩, ⟨a7, 4, 4, 3, 1, ([.int .i64 0, .int .i64 0, .int .i64 1, .int .i64 1] : List Value), (([.int .i64 0, .int .i64 0, .int .i64 1, .int .i64 1] : List Value) : List Value).length⟩, ⟨g, x52.length, l, 3, 1, (m ++ ([.int .i64 2] : List Value)), ((m ++ ([.int .i64 2] : List Value)) : List Value).length⟩, ⟨d, x48.buses.length, f, 70, 3, p, (p : List Value).length⟩, ⟨bd, 1, 1, 3, 1, ([.int .i64 2] : List Value), 0⟩, ⟨c8, 4, 4, 3, 1, ([.int .i64 0, .int .i64 0, .int .i64 0, .int .i64 1] : List Value), (([.int .i64 0, .int .i64 0, .int .i64 0, .int .i64 1] : List Value) : List Value).length⟩, ⟨de, 4, 4, 3, 1, ([.int .i64 0, .int .i64 1, .int .i64 2, .int .i64 3] : List Value), (([.int .i64 0, .int .i64 1, .int .i64 2, .int .i64 3] : List Value) : List Value).length⟩, ⟨dj, 4, 4, 3, 1, ([.int .i64 0, .int .i64 0, .int .i64 1, .int .i64 1] : List Value), (([.int .i64 0, .int .i64 0, .int .i64 1, .int .i64 1] : List Value) : List Value).length⟩, ⟨dp, 4, 4, 3, 1, ([.int .i64 2, .int .i64 0, .int .i64 1, .int .i64 3] : List Value), (([.int .i64 2, .int .i64 0, .int .i64 1, .int .i64 3] : List Value) : List Value).length⟩, ⟨dq, 4, 4, 3, 1, ([.int .i64 0, .int .i64 0, .int .i64 1, .int .i64 1] : List Value), (([.int .i64 0, .int .i64 0, .int .i64 1, .int .i64 1] : List Value) : List Value).length⟩, ⟨dt, 4, 4, 3, 1, ([.int .i64 0, .int .i64 1, .int .i64 2, .int .i64 3] : List Value), (([.int .i64 0, .int .i64 1, .int .i64 2, .int .i64 3] : List Value) : List Value).length⟩, ⟨du, 1, 1, 3, 1, ([.int .i64 0] : List Value), 0⟩] pw := mf
    have fn : RepS qy dt 4 ([0, 1, 2, 3] : List Int) := ⟨_, e8, af0, me.rowCap (i := 13) rfl⟩
    obtain ⟨nn, c5, af1, mg⟩ := mf.settle (i := 14) rfl
    replace pl := pl.mono (Heap.le_trans (Heap.le_trans df db) c5)
    replace pm := pm.mono (Heap.le_trans (Heap.le_trans df db) c5)
    replace fm := fm.mono (Heap.le_trans db c5)
    replace fn := fn.mono c5
    replace e9 := e9.mono (Heap.le_trans (Heap.le_trans df db) c5)
    replace mg : Mem ⟨w, h, noX⟩ nn [(a, 0)] [⟨(K13c9 g x52 l d x48 f), some 33⟩] [⟨aq, 4, 4, 3, 1, ([.int .i64 0, .int .i64 0, .int .i64 1, .int .i64 1] : List Value), (([.int .i64 0, .int .i64 0, .int .i64 1, .int .i64 1] : List Value) : List Value).length⟩, ⟨av, 4, 4, 3, 1, ([.int .i64 1, .int .i64 0, .int .i64 2, .int .i64 3] : List Value), (([.int .i64 1, .int .i64 0, .int .i64 2, .int .i64 3] : List Value) : List Value).length⟩, ⟨ay, 4, 4, 3, 1, ([.int .i64 0, .int .i64 0, .int .i64 1, .int .i64 1] : List Value), (([.int .i64 0, .int .i64 0, .int .i64 1, .int .i64 1] : List Value) : List Value).length⟩, ⟨a1, 4, 4, 3, 1, ([.int .i64 0, .int .i64 1, .int .i64 2, .int .i64 3] : List Value), (([.int .i64 0, .int .i64 1, .int .i64 2, .int .i64 3] : List Value) : List Value).length⟩, ⟨a7, 4, 4, 3, 1, ([.int .i64 0, .int .i64 0, .int .i64 1, .int .i64 1] : List Value), (([.int .i64 0, .int .i64 0, .int .i64 1, .int .i64 1] : List Value) : List Value).length⟩, ⟨g, x52.length, l, 3, 1, (m ++ ([.int .i64 2] : List Value)), ((m ++ ([.int .i64 2] : List Value)) : List Value).length⟩, ⟨d, x48.buses.length, f, 70, 3, p, (p : List Value).length⟩, ⟨bd, 1, 1, 3, 1, ([.int .i64 2] : List Value), 0⟩, ⟨c8, 4, 4, 3, 1, ([.int .i64 0, .int .i64 0, .int .i64 0, .int .i64 1] : List Value), (([.int .i64 0, .int .i64 0, .int .i64 0, .int .i64 1] : List Value) : List Value).length⟩, ⟨de, 4, 4, 3, 1, ([.int .i64 0, .int .i64 1, .int .i64 2, .int .i64 3] : List Value), (([.int .i64 0, .int .i64 1, .int .i64 2, .int .i64 3] : List Value) : List Value).length⟩, ⟨dj, 4, 4, 3, 1, ([.int .i64 0, .int .i64 0, .int .i64 1, .int .i64 1] : List Value), (([.int .i64 0, .int .i64 0, .int .i64 1, .int .i64 1] : List Value) : List Value).length⟩, ⟨dp, 4, 4, 3, 1, ([.int .i64 2, .int .i64 0, .int .i64 1, .int .i64 3] : List Value), (([.int .i64 2, .int .i64 0, .int .i64 1, .int .i64 3] : List Value) : List Value).length⟩, ⟨dq, 4, 4, 3, 1, ([.int .i64 0, .int .i64 0, .int .i64 1, .int .i64 1] : List Value), (([.int .i64 0, .int .i64 0, .int .i64 1, .int .i64 1] : List Value) : List Value).length⟩, ⟨dt, 4, 4, 3, 1, ([.int .i64 0, .int .i64 1, .int .i64 2, .int .i64 3] : List Value), (([.int .i64 0, .int .i64 1, .int .i64 2, .int .i64 3] : List Value) : List Value).length⟩, ⟨du, 1, 1, 3, 1, ([.int .i64 0] : List Value), (([.int .i64 0] : List Value) : List Value).length⟩] pw := mg
    have f4 : RepS nn du 1 ([0] : List Int) := ⟨_, e9, af1, mf.rowCap (i := 14) rfl⟩
    obtain ⟨x167, ex167, H⟩ := bnd H
    refine wl fun K hK => ?_
    refine wc [.agg (K13c17 gx x163 gz gy g0), .c (.slice dq 4 4), .c (.slice dt 4 4), .c (.slice du 1 1)] acz mg (lane_Shunts_ok n mg.has x163 ((rep_pair (rep_slice pl) (rep_pair (rep_slice pm) rep_int)) : rep nn x163 _) ([0, 0, 1, 1] : List Int) fm ([0, 1, 2, 3] : List Int) fn ([0] : List Int) f4 ex167) fun an2 ake apy wt dc oz => ?_
    obtain ⟨_, _, rfl, ⟨p6, qe, rfl, akw⟩, rfl⟩ := wt
    refine ⟨.tup [.c (.slice p6 x167.1.length qe), .c (.int .i64 x167.2)], rfl, fun aiv (ac0 : Kn 280 [(a, 0)] [(167, .tup [.c (.slice p6 x167.1.length qe), .c (.int .i64 x167.2)]), (tS 166 du 1 1), (tS 165 dt 4 4), (tS 164 dq 4 4), (tA 163 (K13c17 gx x163 gz gy g0)), (tI 4 x159.2), (tI 2 x152.2)] aiv) => hK _ _ ?_⟩
    refine Rk 5 4 [(tI 8 x167.2), (tI 4 x159.2), (tI 2 x152.2)] ac0 oz fun ams ac1 => ?_
    refine wf (wp_seq (wp_region_from ?_))
    obtain ⟨x171, ex171, H⟩ := bnd H
    refine wl fun K hK => ?_
    refine wc [] ac1 oz (law_night_ok n oz.has  ex171) fun an3 jj apz wu dd ad8 => ?_
    obtain ⟨_, rfl, ⟨_, _, rfl, ⟨h2, h8, rfl, pn⟩, ⟨_, _, rfl, ⟨h3, h9, rfl, po⟩, rfl⟩⟩⟩ := wu
    refine ⟨.one (.agg (K13c18 h2 x171 h8 h3 h9)), rfl, fun aiw (ac2 : Kn 280 [(a, 0)] [(tA 171 (K13c18 h2 x171 h8 h3 h9)), (tI 8 x167.2), (tI 4 x159.2), (tI 2 x152.2)] aiw) => hK _ _ ?_⟩
    refine wl fun K hK => ?_
    refine wS 3 1 [.int .i64 0, .int .i64 0, .int .i64 1, .int .i64 2] ac2 ad8 fun d4 aix ajp (ac3 : Kn 280 [(a, 0)] [(tS 172 d4 4 4), (tA 171 (K13c18 h2 x171 h8 h3 h9)), (tI 8 x167.2), (tI 4 x159.2), (tI 2 x152.2)] aix) ty => ?_
    have fa : Cells jj ([0, 0, 1, 2] : List Int) ([.int .i64 0, .int .i64 0, .int .i64 1, .int .i64 2] : List Value) := ⟨_, _, rfl, (rep_int : rep jj (0 : Int) _), ⟨_, _, rfl, (rep_int : rep jj (0 : Int) _), ⟨_, _, rfl, (rep_int : rep jj (1 : Int) _), ⟨_, _, rfl, (rep_int : rep jj (2 : Int) _), rfl⟩⟩⟩⟩
    refine hK _ _ ?_
    obtain ⟨np, ct, af2, mh⟩ := ty.settle (i := 15) rfl
    replace pn := pn.mono ct
    replace po := po.mono ct
    replace fa := fa.mono ct
    replace mh : Mem ⟨w, h, noX⟩ np [(a, 0)] [⟨(K13c9 g x52 l d x48 f), some 33⟩] [⟨aq, 4, 4, 3, 1, ([.int .i64 0, .int .i64 0, .int .i64 1, .int .i64 1] : List Value), (([.int .i64 0, .int .i64 0, .int .i64 1, .int .i64 1] : List Value) : List Value).length⟩, ⟨av, 4, 4, 3, 1, ([.int .i64 1, .int .i64 0, .int .i64 2, .int .i64 3] : List Value), (([.int .i64 1, .int .i64 0, .int .i64 2, .int .i64 3] : List Value) : List Value).length⟩, ⟨ay, 4, 4, 3, 1, ([.int .i64 0, .int .i64 0, .int .i64 1, .int .i64 1] : List Value), (([.int .i64 0, .int .i64 0, .int .i64 1, .int .i64 1] : List Value) : List Value).length⟩, ⟨a1, 4, 4, 3, 1, ([.int .i64 0, .int .i64 1, .int .i64 2, .int .i64 3] : List Value), (([.int .i64 0, .int .i64 1, .int .i64 2, .int .i64 3] : List Value) : List Value).length⟩, ⟨a7, 4, 4, 3, 1, ([.int .i64 0, .int .i64 0, .int .i64 1, .int .i64 1] : List Value), (([.int .i64 0, .int .i64 0, .int .i64 1, .int .i64 1] : List Value) : List Value).length⟩, ⟨g, x52.length, l, 3, 1, (m ++ ([.int .i64 2] : List Value)), ((m ++ ([.int .i64 2] : List Value)) : List Value).length⟩, ⟨d, x48.buses.length, f, 70, 3, p, (p : List Value).length⟩, ⟨bd, 1, 1, 3, 1, ([.int .i64 2] : List Value), 0⟩, ⟨c8, 4, 4, 3, 1, ([.int .i64 0, .int .i64 0, .int .i64 0, .int .i64 1] : List Value), (([.int .i64 0, .int .i64 0, .int .i64 0, .int .i64 1] : List Value) : List Value).length⟩, ⟨de, 4, 4, 3, 1, ([.int .i64 0, .int .i64 1, .int .i64 2, .int .i64 3] : List Value), (([.int .i64 0, .int .i64 1, .int .i64 2, .int .i64 3] : List Value) : List Value).length⟩, ⟨dj, 4, 4, 3, 1, ([.int .i64 0, .int .i64 0, .int .i64 1, .int .i64 1] : List Value), (([.int .i64 0, .int .i64 0, .int .i64 1, .int .i64 1] : List Value) : List Value).length⟩, ⟨dp, 4, 4, 3, 1, ([.int .i64 2, .int .i64 0, .int .i64 1, .int .i64 3] : List Value), (([.int .i64 2, .int .i64 0, .int .i64 1, .int .i64 3] : List Value) : List Value).length⟩, ⟨dq, 4, 4, 3, 1, ([.int .i64 0, .int .i64 0, .int .i64 1, .int .i64 1] : List Value), (([.int .i64 0, .int .i64 0, .int .i64 1, .int .i64 1] : List Value) : List Value).length⟩, ⟨dt, 4, 4, 3, 1, ([.int .i64 0, .int .i64 1, .int .i64 2, .int .i64 3] : List Value), (([.int .i64 0, .int .i64 1, .int .i64 2, .int .i64 3] : List Value) : List Value).length⟩, ⟨du, 1, 1, 3, 1, ([.int .i64 0] : List Value), (([.int .i64 0] : List Value) : List Value).length⟩, ⟨d4, 4, 4, 3, 1, ([.int .i64 0, .int .i64 0, .int .i64 1, .int .i64 2] : List Value), (([.int .i64 0, .int .i64 0, .int .i64 1, .int .i64 2] : List Value) : List Value).length⟩] ajp := mh
    have f5 : RepS np d4 4 ([0, 0, 1, 2] : List Int) := ⟨_, fa, af2, ty.rowCap (i := 15) rfl⟩
    obtain ⟨x173, ex173, H⟩ := bnd H
    refine wl fun K hK => ?_
    refine wc [.agg (K13c18 h2 x171 h8 h3 h9), .c (.slice d4 4 4)] ac3 mh (lane_Worst_ok n mh.has x171 ((rep_pair (rep_slice pn) (rep_pair (rep_slice po) rep_int)) : rep np x171 _) ([0, 0, 1, 2] : List Int) f5 ex173) fun an4 akf ap0 wv cz o1 => ?_
    obtain ⟨_, _, _, _, rfl, ⟨p7, qf, rfl, akx⟩, ⟨p8, qg, rfl, aky⟩, rfl, rfl⟩ := wv
    refine ⟨.tup [.c (.slice p7 x173.1.length qf), .c (.slice p8 x173.2.1.length qg), .c (.int .i64 x173.2.2.1), .c (.int .i64 x173.2.2.2)], rfl, fun aiz (ac4 : Kn 280 [(a, 0)] [(173, .tup [.c (.slice p7 x173.1.length qf), .c (.slice p8 x173.2.1.length qg), .c (.int .i64 x173.2.2.1), .c (.int .i64 x173.2.2.2)]), (tS 172 d4 4 4), (tA 171 (K13c18 h2 x171 h8 h3 h9)), (tI 8 x167.2), (tI 4 x159.2), (tI 2 x152.2)] aiz) => hK _ _ ?_⟩
    refine Rk 3 6 (K13m34 x173 x167 x159 x152) ac4 o1 fun amt ac5 => ?_
    refine wf (wp_seq (wp_region_from ?_))
    obtain ⟨x178, ex178, H⟩ := bnd H
    refine wl fun K hK => ?_
    refine wc [] ac5 o1 (law_night_ok n o1.has  ex178) fun an5 nq ap1 ww c0 ad9 => ?_
    obtain ⟨_, rfl, ⟨_, _, rfl, ⟨h4, ia, rfl, akz⟩, ⟨_, _, rfl, ⟨c9, da, rfl, fo⟩, rfl⟩⟩⟩ := ww
    refine ⟨.one (.agg (K13c19 h4 x178 ia c9 da)), rfl, fun ai0 (ac7 : Kn 280 [(a, 0)] ((tA 178 (K13c19 h4 x178 ia c9 da)) :: (K13m34 x173 x167 x159 x152)) ai0) => hK _ _ ?_⟩
    refine wl fun K hK => ?_
    refine wa K13c2 ac7 ad9 fun q u8 ap2 (ac8 : Kn 280 [(a, 0), (q, 0)] ((tP 13 1 0) :: (tA 178 (K13c19 h4 x178 ia c9 da)) :: (K13m34 x173 x167 x159 x152)) u8) aea => hK _ _ ?_
    refine wl fun K hK => ?_
    refine wst 1 0 (.agg (K13c19 h4 x178 ia c9 da)) (K13c19 h4 x178 ia c9 da) ac8 aea fun ap3 ac9 aeb => hK _ _ ?_
    have ada : Kn 280 [(a, 0), (q, 0)] ((tP 13 1 0) :: (K13m34 x173 x167 x159 x152)) u8 := ac9.kp
    refine wf (wp_seq (wp_region_from (wl fun K hK => ?_)))
    refine wS 3 1 [.int .i64 2, .int .i64 1] ada aeb fun bh ai1 an6 (xg : Kn 280 [(a, 0), (q, 0)] ((tS 179 bh 2 2) :: (tP 13 1 0) :: (K13m34 x173 x167 x159 x152)) ai1) sy => ?_
    have et : Cells nq ([2, 1] : List Int) ([.int .i64 2, .int .i64 1] : List Value) := ⟨_, _, rfl, (rep_int : rep nq (2 : Int) _), ⟨_, _, rfl, (rep_int : rep nq (1 : Int) _), rfl⟩⟩
    refine hK _ _ ?_
    refine Rk 1 1 ((tP 180 1 0) :: (tS 179 bh 2 2) :: (tP 13 1 0) :: (K13m34 x173 x167 x159 x152)) xg sy fun agf xh => ?_
    refine wl fun K hK => ?_
    refine wst 1 0 (.c (.slice bh 2 2)) (K13c7 bh c9 x178 da) xh sy fun ai2 xi n2 => hK _ _ ?_
    have xj : Kn 280 [(a, 0), (q, 0)] ((tP 13 1 0) :: (K13m34 x173 x167 x159 x152)) agf := xi.kp
    refine wf (wp_seq (wp_region_from (Rk 0 1 ((tA 182 (K13c7 bh c9 x178 da)) :: (K13m34 x173 x167 x159 x152)) xj n2 fun ak4 xk => ?_)))
    obtain ⟨m3, cg, ae5, lg⟩ := n2.settle (i := 16) rfl
    replace fo := fo.mono cg
    replace et := et.mono cg
    replace lg : Mem ⟨w, h, noX⟩ m3 [(a, 0), (q, 0)] [⟨(K13c9 g x52 l d x48 f), some 33⟩, ⟨(K13c7 bh c9 x178 da), some 33⟩] [⟨aq, 4, 4, 3, 1, ([.int .i64 0, .int .i64 0, .int .i64 1, .int .i64 1] : List Value), (([.int .i64 0, .int .i64 0, .int .i64 1, .int .i64 1] : List Value) : List Value).length⟩, ⟨av, 4, 4, 3, 1, ([.int .i64 1, .int .i64 0, .int .i64 2, .int .i64 3] : List Value), (([.int .i64 1, .int .i64 0, .int .i64 2, .int .i64 3] : List Value) : List Value).length⟩, ⟨ay, 4, 4, 3, 1, ([.int .i64 0, .int .i64 0, .int .i64 1, .int .i64 1] : List Value), (([.int .i64 0, .int .i64 0, .int .i64 1, .int .i64 1] : List Value) : List Value).length⟩, ⟨a1, 4, 4, 3, 1, ([.int .i64 0, .int .i64 1, .int .i64 2, .int .i64 3] : List Value), (([.int .i64 0, .int .i64 1, .int .i64 2, .int .i64 3] : List Value) : List Value).length⟩, ⟨a7, 4, 4, 3, 1, ([.int .i64 0, .int .i64 0, .int .i64 1, .int .i64 1] : List Value), (([.int .i64 0, .int .i64 0, .int .i64 1, .int .i64 1] : List Value) : List Value).length⟩, ⟨g, x52.length, l, 3, 1, (m ++ ([.int .i64 2] : List Value)), ((m ++ ([.int .i64 2] : List Value)) : List Value).length⟩, ⟨d, x48.buses.length, f, 70, 3, p, (p : List Value).length⟩, ⟨bd, 1, 1, 3, 1, ([.int .i64 2] : List Value), 0⟩, ⟨c8, 4, 4, 3, 1, ([.int .i64 0, .int .i64 0, .int .i64 0, .int .i64 1] : List Value), (([.int .i64 0, .int .i64 0, .int .i64 0, .int .i64 1] : List Value) : List Value).length⟩, ⟨de, 4, 4, 3, 1, ([.int .i64 0, .int .i64 1, .int .i64 2, .int .i64 3] : List Value), (([.int .i64 0, .int .i64 1, .int .i64 2, .int .i64 3] : List Value) : List Value).length⟩, ⟨dj, 4, 4, 3, 1, ([.int .i64 0, .int .i64 0, .int .i64 1, .int .i64 1] : List Value), (([.int .i64 0, .int .i64 0, .int .i64 1, .int .i64 1] : List Value) : List Value).length⟩, ⟨dp, 4, 4, 3, 1, ([.int .i64 2, .int .i64 0, .int .i64 1, .int .i64 3] : List Value), (([.int .i64 2, .int .i64 0, .int .i64 1, .int .i64 3] : List Value) : List Value).length⟩, ⟨dq, 4, 4, 3, 1, ([.int .i64 0, .int .i64 0, .int .i64 1, .int .i64 1] : List Value), (([.int .i64 0, .int .i64 0, .int .i64 1, .int .i64 1] : List Value) : List Value).length⟩, ⟨dt, 4, 4, 3, 1, ([.int .i64 0, .int .i64 1, .int .i64 2, .int .i64 3] : List Value), (([.int .i64 0, .int .i64 1, .int .i64 2, .int .i64 3] : List Value) : List Value).length⟩, ⟨du, 1, 1, 3, 1, ([.int .i64 0] : List Value), (([.int .i64 0] : List Value) : List Value).length⟩, ⟨d4, 4, 4, 3, 1, ([.int .i64 0, .int .i64 0, .int .i64 1, .int .i64 2] : List Value), (([.int .i64 0, .int .i64 0, .int .i64 1, .int .i64 2] : List Value) : List Value).length⟩, ⟨bh, 2, 2, 3, 1, ([.int .i64 2, .int .i64 1] : List Value), (([.int .i64 2, .int .i64 1] : List Value) : List Value).length⟩] ai2 := lg
    have fx : RepS m3 bh 2 ([2, 1] : List Int) := ⟨_, et, ae5, n2.rowCap (i := 16) rfl⟩
    obtain ⟨x183, ex183, H⟩ := bnd H
    refine wl fun K hK => ?_
    refine wc [.agg (K13c7 bh c9 x178 da)] xk lg (lane_Best_ok n lg.has (Yard.mk ([2, 1] : List Int) x178.buses x178.broken) ((rep_pair (rep_slice fx) (rep_pair (rep_slice fo) rep_int)) : rep m3 (Yard.mk ([2, 1] : List Int) x178.buses x178.broken) _) ex183) fun amw ajw an7 vj b1 n3 => ?_
    obtain ⟨_, _, _, rfl, ⟨px, p9, rfl, akq⟩, rfl, rfl⟩ := vj
    refine ⟨.tup [.c (.slice px x183.1.length p9), .c (.int .i64 x183.2.1), .c (.int .i64 x183.2.2)], rfl, fun agh (xl : Kn 280 [(a, 0), (q, 0)] ((183, .tup [.c (.slice px x183.1.length p9), .c (.int .i64 x183.2.1), .c (.int .i64 x183.2.2)]) :: (tA 182 (K13c7 bh c9 x178 da)) :: (K13m34 x173 x167 x159 x152)) agh) => hK _ _ ?_⟩
    refine Rk 2 7 ((tI 16 x183.2.2) :: (K13m34 x173 x167 x159 x152)) xl n3 fun ak5 xm => ?_
    refine wf (wp_seq (wp_region_from ?_))
    obtain ⟨x187, ex187, H⟩ := bnd H
    refine wl fun K hK => ?_
    refine wc [] xm n3 (law_night_ok n n3.has  ex187) fun amx ga an9 vk b2 adi => ?_
    obtain ⟨_, rfl, ⟨_, _, rfl, ⟨cu, cw, rfl, fd⟩, ⟨_, _, rfl, ⟨cv, cx, rfl, fe⟩, rfl⟩⟩⟩ := vk
    refine ⟨.one (.agg (K13c22 cu x187 cw cv cx)), rfl, fun agi (xn : Kn 280 [(a, 0), (q, 0)] ((tA 187 (K13c22 cu x187 cw cv cx)) :: (tI 16 x183.2.2) :: (K13m34 x173 x167 x159 x152)) agi) => hK _ _ ?_⟩
    refine wl fun K hK => ?_
    refine wa K13c2 xn adi fun y ua aoa (xo : Kn 280 (K13e1 a q y) ((tP 17 2 0) :: (tA 187 (K13c22 cu x187 cw cv cx)) :: (tI 16 x183.2.2) :: (K13m34 x173 x167 x159 x152)) ua) adj => hK _ _ ?_
    refine wl fun K hK => ?_
    refine wst 2 0 (.agg (K13c22 cu x187 cw cv cx)) (K13c22 cu x187 cw cv cx) xo adj fun aob xp s0 => hK _ _ ?_
    have xq : Kn 280 (K13e1 a q y) ((tP 17 2 0) :: (tI 16 x183.2.2) :: (K13m34 x173 x167 x159 x152)) ua := xp.kp
    refine wf (wp_seq (wp_region_from (Rk 0 1 ((tP 188 2 2) :: (tP 17 2 0) :: (tI 16 x183.2.2) :: (K13m34 x173 x167 x159 x152)) xq s0 fun agj xr => ?_)))
    refine wl fun K hK => ?_
    refine wst 2 2 (.c (.int .i64 1)) (K13c12 cu x187 cw cv cx) xr s0 fun aoc xs s1 => hK _ _ ?_
    have xt : Kn 280 (K13e1 a q y) ((tP 17 2 0) :: (tI 16 x183.2.2) :: (K13m34 x173 x167 x159 x152)) agj := xs.kp
    refine wf (wp_seq (wp_region_from (Rk 0 1 ((tA 190 (K13c12 cu x187 cw cv cx)) :: (tI 16 x183.2.2) :: (K13m34 x173 x167 x159 x152)) xt s1 fun ak6 xu => ?_)))
    refine wl fun K hK => ?_
    refine wS 3 1 K13c3 xu s1 fun d1 agk aod (xv : Kn 280 (K13e1 a q y) ((tS 191 d1 4 4) :: (tA 190 (K13c12 cu x187 cw cv cx)) :: (tI 16 x183.2.2) :: (K13m34 x173 x167 x159 x152)) agk) adl => ?_
    have eu : Cells ga ([0, 0, 1, 1] : List Int) ([.int .i64 0, .int .i64 0, .int .i64 1, .int .i64 1] : List Value) := ⟨_, _, rfl, (rep_int : rep ga (0 : Int) _), ⟨_, _, rfl, (rep_int : rep ga (0 : Int) _), ⟨_, _, rfl, (rep_int : rep ga (1 : Int) _), ⟨_, _, rfl, (rep_int : rep ga (1 : Int) _), rfl⟩⟩⟩⟩
    refine hK _ _ ?_
    refine wl fun K hK => ?_
    refine wS 3 1 K13c4 xv adl fun d8 agl aoe (xw : Kn 280 (K13e1 a q y) ((tS 192 d8 4 4) :: (tS 191 d1 4 4) :: (tA 190 (K13c12 cu x187 cw cv cx)) :: (tI 16 x183.2.2) :: (K13m34 x173 x167 x159 x152)) agl) adm => ?_
    have ev : Cells ga ([1, 0, 2, 3] : List Int) ([.int .i64 1, .int .i64 0, .int .i64 2, .int .i64 3] : List Value) := ⟨_, _, rfl, (rep_int : rep ga (1 : Int) _), ⟨_, _, rfl, (rep_int : rep ga (0 : Int) _), ⟨_, _, rfl, (rep_int : rep ga (2 : Int) _), ⟨_, _, rfl, (rep_int : rep ga (3 : Int) _), rfl⟩⟩⟩⟩
    refine hK _ _ ?_
    refine wl fun K hK => ?_
    refine wS 3 1 [.int .i64 1] xw adm fun eb agm pv (xx : Kn 280 (K13e1 a q y) ((tS 193 eb 1 1) :: (tS 192 d8 4 4) :: (tS 191 d1 4 4) :: (tA 190 (K13c12 cu x187 cw cv cx)) :: (tI 16 x183.2.2) :: (K13m34 x173 x167 x159 x152)) agm) s2 => ?_
    have ew : Cells ga ([1] : List Int) ([.int .i64 1] : List Value) := ⟨_, _, rfl, (rep_int : rep ga (1 : Int) _), rfl⟩
    refine hK _ _ ?_
    obtain ⟨qh, bn, ae6, lh⟩ := s2.settle (i := 17) rfl
    replace eu := eu.mono bn
    replace lh : Mem ⟨w, h, noX⟩ qh (K13e1 a q y) [⟨(K13c9 g x52 l d x48 f), some 33⟩, ⟨(K13c7 bh c9 x178 da), some 33⟩, ⟨(K13c12 cu x187 cw cv cx), some 33⟩] [⟨aq, 4, 4, 3, 1, ([.int .i64 0, .int .i64 0, .int .i64 1, .int .i64 1] : List Value), (([.int .i64 0, .int .i64 0, .int .i64 1, .int .i64 1] : List Value) : List Value).length⟩, ⟨av, 4, 4, 3, 1, ([.int .i64 1, .int .i64 0, .int .i64 2, .int .i64 3] : List Value), (([.int .i64 1, .int .i64 0, .int .i64 2, .int .i64 3] : List Value) : List Value).length⟩, ⟨ay, 4, 4, 3, 1, ([.int .i64 0, .int .i64 0, .int .i64 1, .int .i64 1] : List Value), (([.int .i64 0, .int .i64 0, .int .i64 1, .int .i64 1] : List Value) : List Value).length⟩, ⟨a1, 4, 4, 3, 1, ([.int .i64 0, .int .i64 1, .int .i64 2, .int .i64 3] : List Value), (([.int .i64 0, .int .i64 1, .int .i64 2, .int .i64 3] : List Value) : List Value).length⟩, ⟨a7, 4, 4, 3, 1, ([.int .i64 0, .int .i64 0, .int .i64 1, .int .i64 1] : List Value), (([.int .i64 0, .int .i64 0, .int .i64 1, .int .i64 1] : List Value) : List Value).length⟩, ⟨g, x52.length, l, 3, 1, (m ++ ([.int .i64 2] : List Value)), ((m ++ ([.int .i64 2] : List Value)) : List Value).length⟩, ⟨d, x48.buses.length, f, 70, 3, p, (p : List Value).length⟩, ⟨bd, 1, 1, 3, 1, ([.int .i64 2] : List Value), 0⟩, ⟨c8, 4, 4, 3, 1, ([.int .i64 0, .int .i64 0, .int .i64 0, .int .i64 1] : List Value), (([.int .i64 0, .int .i64 0, .int .i64 0, .int .i64 1] : List Value) : List Value).length⟩, ⟨de, 4, 4, 3, 1, ([.int .i64 0, .int .i64 1, .int .i64 2, .int .i64 3] : List Value), (([.int .i64 0, .int .i64 1, .int .i64 2, .int .i64 3] : List Value) : List Value).length⟩, ⟨dj, 4, 4, 3, 1, ([.int .i64 0, .int .i64 0, .int .i64 1, .int .i64 1] : List Value), (([.int .i64 0, .int .i64 0, .int .i64 1, .int .i64 1] : List Value) : List Value).length⟩, ⟨dp, 4, 4, 3, 1, ([.int .i64 2, .int .i64 0, .int .i64 1, .int .i64 3] : List Value), (([.int .i64 2, .int .i64 0, .int .i64 1, .int .i64 3] : List Value) : List Value).length⟩, ⟨dq, 4, 4, 3, 1, ([.int .i64 0, .int .i64 0, .int .i64 1, .int .i64 1] : List Value), (([.int .i64 0, .int .i64 0, .int .i64 1, .int .i64 1] : List Value) : List Value).length⟩, ⟨dt, 4, 4, 3, 1, ([.int .i64 0, .int .i64 1, .int .i64 2, .int .i64 3] : List Value), (([.int .i64 0, .int .i64 1, .int .i64 2, .int .i64 3] : List Value) : List Value).length⟩, ⟨du, 1, 1, 3, 1, ([.int .i64 0] : List Value), (([.int .i64 0] : List Value) : List Value).length⟩, ⟨d4, 4, 4, 3, 1, ([.int .i64 0, .int .i64 0, .int .i64 1, .int .i64 2] : List Value), (([.int .i64 0, .int .i64 0, .int .i64 1, .int .i64 2] : List Value) : List Value).length⟩, ⟨bh, 2, 2, 3, 1, ([.int .i64 2, .int .i64 1] : List Value), (([.int .i64 2, .int .i64 1] : List Value) : List Value).length⟩, ⟨d1, 4, 4, 3, 1, ([.int .i64 0, .int .i64 0, .int .i64 1, .int .i64 1] : List Value), (([.int .i64 0, .int .i64 0, .int .i64 1, .int .i64 1] : List Value) : List Value).length⟩, ⟨d8, 4, 4, 3, 1, ([.int .i64 1, .int .i64 0, .int .i64 2, .int .i64 3] : List Value), 0⟩, ⟨eb, 1, 1, 3, 1, ([.int .i64 1] : List Value), 0⟩] pv := lh
    have ff : RepS qh d1 4 ([0, 0, 1, 1] : List Int) := ⟨_, eu, ae6, s2.rowCap (i := 17) rfl⟩
    obtain ⟨qi, bm, ae7, li⟩ := lh.settle (i := 18) rfl
    replace ev := ev.mono (Heap.le_trans bn bm)
    replace li : Mem ⟨w, h, noX⟩ qi (K13e1 a q y) [⟨(K13c9 g x52 l d x48 f), some 33⟩, ⟨(K13c7 bh c9 x178 da), some 33⟩, ⟨(K13c12 cu x187 cw cv cx), some 33⟩] [⟨aq, 4, 4, 3, 1, ([.int .i64 0, .int .i64 0, .int .i64 1, .int .i64 1] : List Value), (([.int .i64 0, .int .i64 0, .int .i64 1, .int .i64 1] : List Value) : List Value).length⟩, ⟨av, 4, 4, 3, 1, ([.int .i64 1, .int .i64 0, .int .i64 2, .int .i64 3] : List Value), (([.int .i64 1, .int .i64 0, .int .i64 2, .int .i64 3] : List Value) : List Value).length⟩, ⟨ay, 4, 4, 3, 1, ([.int .i64 0, .int .i64 0, .int .i64 1, .int .i64 1] : List Value), (([.int .i64 0, .int .i64 0, .int .i64 1, .int .i64 1] : List Value) : List Value).length⟩, ⟨a1, 4, 4, 3, 1, ([.int .i64 0, .int .i64 1, .int .i64 2, .int .i64 3] : List Value), (([.int .i64 0, .int .i64 1, .int .i64 2, .int .i64 3] : List Value) : List Value).length⟩, ⟨a7, 4, 4, 3, 1, ([.int .i64 0, .int .i64 0, .int .i64 1, .int .i64 1] : List Value), (([.int .i64 0, .int .i64 0, .int .i64 1, .int .i64 1] : List Value) : List Value).length⟩, ⟨g, x52.length, l, 3, 1, (m ++ ([.int .i64 2] : List Value)), ((m ++ ([.int .i64 2] : List Value)) : List Value).length⟩, ⟨d, x48.buses.length, f, 70, 3, p, (p : List Value).length⟩, ⟨bd, 1, 1, 3, 1, ([.int .i64 2] : List Value), 0⟩, ⟨c8, 4, 4, 3, 1, ([.int .i64 0, .int .i64 0, .int .i64 0, .int .i64 1] : List Value), (([.int .i64 0, .int .i64 0, .int .i64 0, .int .i64 1] : List Value) : List Value).length⟩, ⟨de, 4, 4, 3, 1, ([.int .i64 0, .int .i64 1, .int .i64 2, .int .i64 3] : List Value), (([.int .i64 0, .int .i64 1, .int .i64 2, .int .i64 3] : List Value) : List Value).length⟩, ⟨dj, 4, 4, 3, 1, ([.int .i64 0, .int .i64 0, .int .i64 1, .int .i64 1] : List Value), (([.int .i64 0, .int .i64 0, .int .i64 1, .int .i64 1] : List Value) : List Value).length⟩, ⟨dp, 4, 4, 3, 1, ([.int .i64 2, .int .i64 0, .int .i64 1, .int .i64 3] : List Value), (([.int .i64 2, .int .i64 0, .int .i64 1, .int .i64 3] : List Value) : List Value).length⟩, ⟨dq, 4, 4, 3, 1, ([.int .i64 0, .int .i64 0, .int .i64 1, .int .i64 1] : List Value), (([.int .i64 0, .int .i64 0, .int .i64 1, .int .i64 1] : List Value) : List Value).length⟩, ⟨dt, 4, 4, 3, 1, ([.int .i64 0, .int .i64 1, .int .i64 2, .int .i64 3] : List Value), (([.int .i64 0, .int .i64 1, .int .i64 2, .int .i64 3] : List Value) : List Value).length⟩, ⟨du, 1, 1, 3, 1, ([.int .i64 0] : List Value), (([.int .i64 0] : List Value) : List Value).length⟩, ⟨d4, 4, 4, 3, 1, ([.int .i64 0, .int .i64 0, .int .i64 1, .int .i64 2] : List Value), (([.int .i64 0, .int .i64 0, .int .i64 1, .int .i64 2] : List Value) : List Value).length⟩, ⟨bh, 2, 2, 3, 1, ([.int .i64 2, .int .i64 1] : List Value), (([.int .i64 2, .int .i64 1] : List Value) : List Value).length⟩, ⟨d1, 4, 4, 3, 1, ([.int .i64 0, .int .i64 0, .int .i64 1, .int .i64 1] : List Value), (([.int .i64 0, .int .i64 0, .int .i64 1, .int .i64 1] : List Value) : List Value).length⟩, ⟨d8, 4, 4, 3, 1, ([.int .i64 1, .int .i64 0, .int .i64 2, .int .i64 3] : List Value), (([.int .i64 1, .int .i64 0, .int .i64 2, .int .i64 3] : List Value) : List Value).length⟩, ⟨eb, 1, 1, 3, 1, ([.int .i64 1] : List Value), 0⟩] pv := li
    have fg : RepS qi d8 4 ([1, 0, 2, 3] : List Int) := ⟨_, ev, ae7, lh.rowCap (i := 18) rfl⟩
    obtain ⟨m4, bj, ae8, lj⟩ := li.settle (i := 19) rfl
    replace fd := fd.mono (Heap.le_trans (Heap.le_trans bn bm) bj)
    replace fe := fe.mono (Heap.le_trans (Heap.le_trans bn bm) bj)
    replace ff := ff.mono (Heap.le_trans bm bj)
    replace fg := fg.mono bj
    replace ew := ew.mono (Heap.le_trans (Heap.le_trans bn bm) bj)
    replace lj : Mem ⟨w, h, noX⟩ m4 (K13e1 a q y) [⟨(K13c9 g x52 l d x48 f), some 33⟩, ⟨(K13c7 bh c9 x178 da), some 33⟩, ⟨(K13c12 cu x187 cw cv cx), some 33⟩] [⟨aq, 4, 4, 3, 1, ([.int .i64 0, .int .i64 0, .int .i64 1, .int .i64 1] : List Value), (([.int .i64 0, .int .i64 0, .int .i64 1, .int .i64 1] : List Value) : List Value).length⟩, ⟨av, 4, 4, 3, 1, ([.int .i64 1, .int .i64 0, .int .i64 2, .int .i64 3] : List Value), (([.int .i64 1, .int .i64 0, .int .i64 2, .int .i64 3] : List Value) : List Value).length⟩, ⟨ay, 4, 4, 3, 1, ([.int .i64 0, .int .i64 0, .int .i64 1, .int .i64 1] : List Value), (([.int .i64 0, .int .i64 0, .int .i64 1, .int .i64 1] : List Value) : List Value).length⟩, ⟨a1, 4, 4, 3, 1, ([.int .i64 0, .int .i64 1, .int .i64 2, .int .i64 3] : List Value), (([.int .i64 0, .int .i64 1, .int .i64 2, .int .i64 3] : List Value) : List Value).length⟩, ⟨a7, 4, 4, 3, 1, ([.int .i64 0, .int .i64 0, .int .i64 1, .int .i64 1] : List Value), (([.int .i64 0, .int .i64 0, .int .i64 1, .int .i64 1] : List Value) : List Value).length⟩, ⟨g, x52.length, l, 3, 1, (m ++ ([.int .i64 2] : List Value)), ((m ++ ([.int .i64 2] : List Value)) : List Value).length⟩, ⟨d, x48.buses.length, f, 70, 3, p, (p : List Value).length⟩, ⟨bd, 1, 1, 3, 1, ([.int .i64 2] : List Value), 0⟩, ⟨c8, 4, 4, 3, 1, ([.int .i64 0, .int .i64 0, .int .i64 0, .int .i64 1] : List Value), (([.int .i64 0, .int .i64 0, .int .i64 0, .int .i64 1] : List Value) : List Value).length⟩, ⟨de, 4, 4, 3, 1, ([.int .i64 0, .int .i64 1, .int .i64 2, .int .i64 3] : List Value), (([.int .i64 0, .int .i64 1, .int .i64 2, .int .i64 3] : List Value) : List Value).length⟩, ⟨dj, 4, 4, 3, 1, ([.int .i64 0, .int .i64 0, .int .i64 1, .int .i64 1] : List Value), (([.int .i64 0, .int .i64 0, .int .i64 1, .int .i64 1] : List Value) : List Value).length⟩, ⟨dp, 4, 4, 3, 1, ([.int .i64 2, .int .i64 0, .int .i64 1, .int .i64 3] : List Value), (([.int .i64 2, .int .i64 0, .int .i64 1, .int .i64 3] : List Value) : List Value).length⟩, ⟨dq, 4, 4, 3, 1, ([.int .i64 0, .int .i64 0, .int .i64 1, .int .i64 1] : List Value), (([.int .i64 0, .int .i64 0, .int .i64 1, .int .i64 1] : List Value) : List Value).length⟩, ⟨dt, 4, 4, 3, 1, ([.int .i64 0, .int .i64 1, .int .i64 2, .int .i64 3] : List Value), (([.int .i64 0, .int .i64 1, .int .i64 2, .int .i64 3] : List Value) : List Value).length⟩, ⟨du, 1, 1, 3, 1, ([.int .i64 0] : List Value), (([.int .i64 0] : List Value) : List Value).length⟩, ⟨d4, 4, 4, 3, 1, ([.int .i64 0, .int .i64 0, .int .i64 1, .int .i64 2] : List Value), (([.int .i64 0, .int .i64 0, .int .i64 1, .int .i64 2] : List Value) : List Value).length⟩, ⟨bh, 2, 2, 3, 1, ([.int .i64 2, .int .i64 1] : List Value), (([.int .i64 2, .int .i64 1] : List Value) : List Value).length⟩, ⟨d1, 4, 4, 3, 1, ([.int .i64 0, .int .i64 0, .int .i64 1, .int .i64 1] : List Value), (([.int .i64 0, .int .i64 0, .int .i64 1, .int .i64 1] : List Value) : List Value).length⟩, ⟨d8, 4, 4, 3, 1, ([.int .i64 1, .int .i64 0, .int .i64 2, .int .i64 3] : List Value), (([.int .i64 1, .int .i64 0, .int .i64 2, .int .i64 3] : List Value) : List Value).length⟩, ⟨eb, 1, 1, 3, 1, ([.int .i64 1] : List Value), (([.int .i64 1] : List Value) : List Value).length⟩] pv := lj
    have fy : RepS m4 eb 1 ([1] : List Int) := ⟨_, ew, ae8, li.rowCap (i := 19) rfl⟩
    obtain ⟨x194, ex194, H⟩ := bnd H
    refine wl fun K hK => ?_
    refine wc [.agg (K13c12 cu x187 cw cv cx), .c (.slice d1 4 4), .c (.slice d8 4 4), .c (.slice eb 1 1)] xx lj (lane_Shunts_ok n lj.has (Yard.mk x187.room x187.buses 1) ((rep_pair (rep_slice fd) (rep_pair (rep_slice fe) rep_int)) : rep m4 (Yard.mk x187.room x187.buses 1) _) ([0, 0, 1, 1] : List Int) ff ([1, 0, 2, 3] : List Int) fg ([1] : List Int) fy ex194) fun amy ajx aof vm bi n4 => ?_
    obtain ⟨_, _, rfl, ⟨bb, bc, rfl, kk⟩, rfl⟩ := vm
    refine ⟨.tup [.c (.slice bb x194.1.length bc), .c (.int .i64 x194.2)], rfl, fun agn (xy : Kn 280 (K13e1 a q y) ((194, .tup [.c (.slice bb x194.1.length bc), .c (.int .i64 x194.2)]) :: (tS 193 eb 1 1) :: (tS 192 d8 4 4) :: (tS 191 d1 4 4) :: (tA 190 (K13c12 cu x187 cw cv cx)) :: (tI 16 x183.2.2) :: (K13m34 x173 x167 x159 x152)) agn) => hK _ _ ?_⟩
    refine Rk 5 5 (K13m32 x194 bb bc x183 x173 x167 x159 x152) xy n4 fun ak7 xz => ?_
    refine wf (wp_seq (wp_region_from ?_))
    obtain ⟨x197, ex197, H⟩ := bnd H
    refine wl fun K hK => ?_
    refine wc [] xz n4 (law_night_ok n n4.has  ex197) fun amz ajy aog vn bg s3 => ?_
    obtain ⟨_, rfl, ⟨_, _, rfl, ⟨f7, f9, rfl, akr⟩, ⟨_, _, rfl, ⟨dh, dk, rfl, fh⟩, rfl⟩⟩⟩ := vn
    refine ⟨.one (.agg (K13c23 f7 x197 f9 dh dk)), rfl, fun ago (x0 : Kn 280 (K13e1 a q y) ((tA 197 (K13c23 f7 x197 f9 dh dk)) :: (K13m32 x194 bb bc x183 x173 x167 x159 x152)) ago) => hK _ _ ?_⟩
    obtain ⟨x198, ex198, H⟩ := bnd H
    refine wl fun K hK => ?_
    refine wp_callO [] _ x0 s3 rfl rfl (by decide) (by rfl) rfl (fun _ _ => by kernel_rfl) (law_night_own n s3.has  ex198) fun am0 wx ai3 ak0 vo bf lk => ?_
    obtain ⟨bo, bq, es, bk, bl, c6, rfl, rfl, ex, iq⟩ := vo
    replace lk : Mem ⟨w, h, noX⟩ wx (K13e1 a q y) [⟨(K13c9 g x52 l d x48 f), some 33⟩, ⟨(K13c7 bh c9 x178 da), some 33⟩, ⟨(K13c12 cu x187 cw cv cx), some 33⟩] [⟨aq, 4, 4, 3, 1, ([.int .i64 0, .int .i64 0, .int .i64 1, .int .i64 1] : List Value), (([.int .i64 0, .int .i64 0, .int .i64 1, .int .i64 1] : List Value) : List Value).length⟩, ⟨av, 4, 4, 3, 1, ([.int .i64 1, .int .i64 0, .int .i64 2, .int .i64 3] : List Value), (([.int .i64 1, .int .i64 0, .int .i64 2, .int .i64 3] : List Value) : List Value).length⟩, ⟨ay, 4, 4, 3, 1, ([.int .i64 0, .int .i64 0, .int .i64 1, .int .i64 1] : List Value), (([.int .i64 0, .int .i64 0, .int .i64 1, .int .i64 1] : List Value) : List Value).length⟩, ⟨a1, 4, 4, 3, 1, ([.int .i64 0, .int .i64 1, .int .i64 2, .int .i64 3] : List Value), (([.int .i64 0, .int .i64 1, .int .i64 2, .int .i64 3] : List Value) : List Value).length⟩, ⟨a7, 4, 4, 3, 1, ([.int .i64 0, .int .i64 0, .int .i64 1, .int .i64 1] : List Value), (([.int .i64 0, .int .i64 0, .int .i64 1, .int .i64 1] : List Value) : List Value).length⟩, ⟨g, x52.length, l, 3, 1, (m ++ ([.int .i64 2] : List Value)), ((m ++ ([.int .i64 2] : List Value)) : List Value).length⟩, ⟨d, x48.buses.length, f, 70, 3, p, (p : List Value).length⟩, ⟨bd, 1, 1, 3, 1, ([.int .i64 2] : List Value), 0⟩, ⟨c8, 4, 4, 3, 1, ([.int .i64 0, .int .i64 0, .int .i64 0, .int .i64 1] : List Value), (([.int .i64 0, .int .i64 0, .int .i64 0, .int .i64 1] : List Value) : List Value).length⟩, ⟨de, 4, 4, 3, 1, ([.int .i64 0, .int .i64 1, .int .i64 2, .int .i64 3] : List Value), (([.int .i64 0, .int .i64 1, .int .i64 2, .int .i64 3] : List Value) : List Value).length⟩, ⟨dj, 4, 4, 3, 1, ([.int .i64 0, .int .i64 0, .int .i64 1, .int .i64 1] : List Value), (([.int .i64 0, .int .i64 0, .int .i64 1, .int .i64 1] : List Value) : List Value).length⟩, ⟨dp, 4, 4, 3, 1, ([.int .i64 2, .int .i64 0, .int .i64 1, .int .i64 3] : List Value), (([.int .i64 2, .int .i64 0, .int .i64 1, .int .i64 3] : List Value) : List Value).length⟩, ⟨dq, 4, 4, 3, 1, ([.int .i64 0, .int .i64 0, .int .i64 1, .int .i64 1] : List Value), (([.int .i64 0, .int .i64 0, .int .i64 1, .int .i64 1] : List Value) : List Value).length⟩, ⟨dt, 4, 4, 3, 1, ([.int .i64 0, .int .i64 1, .int .i64 2, .int .i64 3] : List Value), (([.int .i64 0, .int .i64 1, .int .i64 2, .int .i64 3] : List Value) : List Value).length⟩, ⟨du, 1, 1, 3, 1, ([.int .i64 0] : List Value), (([.int .i64 0] : List Value) : List Value).length⟩, ⟨d4, 4, 4, 3, 1, ([.int .i64 0, .int .i64 0, .int .i64 1, .int .i64 2] : List Value), (([.int .i64 0, .int .i64 0, .int .i64 1, .int .i64 2] : List Value) : List Value).length⟩, ⟨bh, 2, 2, 3, 1, ([.int .i64 2, .int .i64 1] : List Value), (([.int .i64 2, .int .i64 1] : List Value) : List Value).length⟩, ⟨d1, 4, 4, 3, 1, ([.int .i64 0, .int .i64 0, .int .i64 1, .int .i64 1] : List Value), (([.int .i64 0, .int .i64 0, .int .i64 1, .int .i64 1] : List Value) : List Value).length⟩, ⟨d8, 4, 4, 3, 1, ([.int .i64 1, .int .i64 0, .int .i64 2, .int .i64 3] : List Value), (([.int .i64 1, .int .i64 0, .int .i64 2, .int .i64 3] : List Value) : List Value).length⟩, ⟨eb, 1, 1, 3, 1, ([.int .i64 1] : List Value), (([.int .i64 1] : List Value) : List Value).length⟩, ⟨bo, x198.room.length, bq, 3, 1, es, 0⟩, ⟨bk, x198.buses.length, bl, 70, 3, c6, 0⟩] ai3 := lk
    refine ⟨.one (.agg (K13c24 bo x198 bq bk bl)), rfl, fun agq (x1 : Kn 280 (K13e1 a q y) ((tA 198 (K13c24 bo x198 bq bk bl)) :: (tA 197 (K13c23 f7 x197 f9 dh dk)) :: (K13m32 x194 bb bc x183 x173 x167 x159 x152)) agq) => hK _ _ ?_⟩
    obtain ⟨x199, ex199, H⟩ := bnd H
    refine wl fun K hK => ?_
    refine wp_callO [] _ x1 lk rfl rfl (by decide) (by rfl) rfl (fun _ _ => by kernel_rfl) (law_night_own n lk.has  ex199) fun am1 gh ai4 ak1 vp be n5 => ?_
    replace iq := iq.mono be
    obtain ⟨bs, bt, f6, bp, br, dw, rfl, rfl, ey, k7⟩ := vp
    replace n5 : Mem ⟨w, h, noX⟩ gh (K13e1 a q y) [⟨(K13c9 g x52 l d x48 f), some 33⟩, ⟨(K13c7 bh c9 x178 da), some 33⟩, ⟨(K13c12 cu x187 cw cv cx), some 33⟩] [⟨aq, 4, 4, 3, 1, ([.int .i64 0, .int .i64 0, .int .i64 1, .int .i64 1] : List Value), (([.int .i64 0, .int .i64 0, .int .i64 1, .int .i64 1] : List Value) : List Value).length⟩, ⟨av, 4, 4, 3, 1, ([.int .i64 1, .int .i64 0, .int .i64 2, .int .i64 3] : List Value), (([.int .i64 1, .int .i64 0, .int .i64 2, .int .i64 3] : List Value) : List Value).length⟩, ⟨ay, 4, 4, 3, 1, ([.int .i64 0, .int .i64 0, .int .i64 1, .int .i64 1] : List Value), (([.int .i64 0, .int .i64 0, .int .i64 1, .int .i64 1] : List Value) : List Value).length⟩, ⟨a1, 4, 4, 3, 1, ([.int .i64 0, .int .i64 1, .int .i64 2, .int .i64 3] : List Value), (([.int .i64 0, .int .i64 1, .int .i64 2, .int .i64 3] : List Value) : List Value).length⟩, ⟨a7, 4, 4, 3, 1, ([.int .i64 0, .int .i64 0, .int .i64 1, .int .i64 1] : List Value), (([.int .i64 0, .int .i64 0, .int .i64 1, .int .i64 1] : List Value) : List Value).length⟩, ⟨g, x52.length, l, 3, 1, (m ++ ([.int .i64 2] : List Value)), ((m ++ ([.int .i64 2] : List Value)) : List Value).length⟩, ⟨d, x48.buses.length, f, 70, 3, p, (p : List Value).length⟩, ⟨bd, 1, 1, 3, 1, ([.int .i64 2] : List Value), 0⟩, ⟨c8, 4, 4, 3, 1, ([.int .i64 0, .int .i64 0, .int .i64 0, .int .i64 1] : List Value), (([.int .i64 0, .int .i64 0, .int .i64 0, .int .i64 1] : List Value) : List Value).length⟩, ⟨de, 4, 4, 3, 1, ([.int .i64 0, .int .i64 1, .int .i64 2, .int .i64 3] : List Value), (([.int .i64 0, .int .i64 1, .int .i64 2, .int .i64 3] : List Value) : List Value).length⟩, ⟨dj, 4, 4, 3, 1, ([.int .i64 0, .int .i64 0, .int .i64 1, .int .i64 1] : List Value), (([.int .i64 0, .int .i64 0, .int .i64 1, .int .i64 1] : List Value) : List Value).length⟩, ⟨dp, 4, 4, 3, 1, ([.int .i64 2, .int .i64 0, .int .i64 1, .int .i64 3] : List Value), (([.int .i64 2, .int .i64 0, .int .i64 1, .int .i64 3] : List Value) : List Value).length⟩, ⟨dq, 4, 4, 3, 1, ([.int .i64 0, .int .i64 0, .int .i64 1, .int .i64 1] : List Value), (([.int .i64 0, .int .i64 0, .int .i64 1, .int .i64 1] : List Value) : List Value).length⟩, ⟨dt, 4, 4, 3, 1, ([.int .i64 0, .int .i64 1, .int .i64 2, .int .i64 3] : List Value), (([.int .i64 0, .int .i64 1, .int .i64 2, .int .i64 3] : List Value) : List Value).length⟩, ⟨du, 1, 1, 3, 1, ([.int .i64 0] : List Value), (([.int .i64 0] : List Value) : List Value).length⟩, ⟨d4, 4, 4, 3, 1, ([.int .i64 0, .int .i64 0, .int .i64 1, .int .i64 2] : List Value), (([.int .i64 0, .int .i64 0, .int .i64 1, .int .i64 2] : List Value) : List Value).length⟩, ⟨bh, 2, 2, 3, 1, ([.int .i64 2, .int .i64 1] : List Value), (([.int .i64 2, .int .i64 1] : List Value) : List Value).length⟩, ⟨d1, 4, 4, 3, 1, ([.int .i64 0, .int .i64 0, .int .i64 1, .int .i64 1] : List Value), (([.int .i64 0, .int .i64 0, .int .i64 1, .int .i64 1] : List Value) : List Value).length⟩, ⟨d8, 4, 4, 3, 1, ([.int .i64 1, .int .i64 0, .int .i64 2, .int .i64 3] : List Value), (([.int .i64 1, .int .i64 0, .int .i64 2, .int .i64 3] : List Value) : List Value).length⟩, ⟨eb, 1, 1, 3, 1, ([.int .i64 1] : List Value), (([.int .i64 1] : List Value) : List Value).length⟩, ⟨bo, x198.room.length, bq, 3, 1, es, 0⟩, ⟨bk, x198.buses.length, bl, 70, 3, c6, 0⟩, ⟨bs, x199.room.length, bt, 3, 1, f6, 0⟩, ⟨bp, x199.buses.length, br, 70, 3, dw, 0⟩] ai4 := n5
    refine ⟨.one (.agg (K13c25 bs x199 bt bp br)), rfl, fun agr (x3 : Kn 280 (K13e1 a q y) ((tA 199 (K13c25 bs x199 bt bp br)) :: (tA 198 (K13c24 bo x198 bq bk bl)) :: (tA 197 (K13c23 f7 x197 f9 dh dk)) :: (K13m32 x194 bb bc x183 x173 x167 x159 x152)) agr) => hK _ _ ?_⟩
    refine wl fun K hK => ?_
    refine wa K13c2 x3 n5 fun aj ags aoh (x4 : Kn 280 [(a, 0), (q, 0), (y, 0), (aj, 0)] ((tP 20 3 0) :: (tA 199 (K13c25 bs x199 bt bp br)) :: (tA 198 (K13c24 bo x198 bq bk bl)) :: (tA 197 (K13c23 f7 x197 f9 dh dk)) :: (K13m32 x194 bb bc x183 x173 x167 x159 x152)) ags) adn => hK _ _ ?_
    refine wl fun K hK => ?_
    refine wa K13c2 x4 adn fun al agu aoi (x5 : Kn 280 [(a, 0), (q, 0), (y, 0), (aj, 0), (al, 0)] ((tP 21 4 0) :: (tP 20 3 0) :: (tA 199 (K13c25 bs x199 bt bp br)) :: (tA 198 (K13c24 bo x198 bq bk bl)) :: (tA 197 (K13c23 f7 x197 f9 dh dk)) :: (K13m32 x194 bb bc x183 x173 x167 x159 x152)) agu) ado => hK _ _ ?_
    refine wl fun K hK => ?_
    refine wa K13c2 x5 ado fun am ub aoj (x6 : Kn 280 [(a, 0), (q, 0), (y, 0), (aj, 0), (al, 0), (am, 0)] ((tP 22 5 0) :: (tP 21 4 0) :: (tP 20 3 0) :: (tA 199 (K13c25 bs x199 bt bp br)) :: (tA 198 (K13c24 bo x198 bq bk bl)) :: (tA 197 (K13c23 f7 x197 f9 dh dk)) :: (K13m32 x194 bb bc x183 x173 x167 x159 x152)) ub) adp => hK _ _ ?_
    refine wl fun K hK => ?_
    refine wst 3 0 (.agg (K13c23 f7 x197 f9 dh dk)) (K13c23 f7 x197 f9 dh dk) x6 adp fun aok x7 adq => hK _ _ ?_
    refine wl fun K hK => ?_
    refine wst 4 0 (.agg (K13c24 bo x198 bq bk bl)) (K13c24 bo x198 bq bk bl) x7 adq fun aol x8 adr => hK _ _ ?_
    refine wl fun K hK => ?_
    refine wst 5 0 (.agg (K13c25 bs x199 bt bp br)) (K13c25 bs x199 bt bp br) x8 adr fun aom x9 ads => hK _ _ ?_
    have ya : Kn 280 [(a, 0), (q, 0), (y, 0), (aj, 0), (al, 0), (am, 0)] ((tP 22 5 0) :: (tP 21 4 0) :: (tP 20 3 0) :: (K13m32 x194 bb bc x183 x173 x167 x159 x152)) ub := x9.kp
    refine wf (wp_seq (wp_region_from ?_))
    obtain ⟨x200, ex200, H⟩ := bnd H
    obtain ⟨aee, aej, t3⟩ := mk_some ex200
    refine wl fun K hK => ?_
    refine wp_makeSlice 3 1 8 [.int .i64 0] (4) ya ads rfl rfl (by decide) (by rfl) (by kernel_rfl) (by kernel_rfl) (by rfl) aee aej (by decide) fun c7 agv ai6 (q1 : Kn 280 [(a, 0), (q, 0), (y, 0), (aj, 0), (al, 0), (am, 0)] [(200, .one (.c (.slice c7 ((4 : Int).toNat) ((4 : Int).toNat)))), (22, .one (.c (.ptr 5 0))), (21, .one (.c (.ptr 4 0))), (20, .one (.c (.ptr 3 0))), (19, .one (.c (.int .i64 x194.2))), (18, .one (.c (.slice bb x194.1.length bc))), (16, .one (.c (.int .i64 x183.2.2))), (12, .one (.c (.int .i64 x173.2.2.2))), (8, .one (.c (.int .i64 x167.2))), (4, .one (.c (.int .i64 x159.2))), (2, .one (.c (.int .i64 x152.2)))] agv) (n6 : Mem ⟨w, h, noX⟩ gh [(a, 0), (q, 0), (y, 0), (aj, 0), (al, 0), (am, 0)] [⟨[.slice g x52.length l, .slice d x48.buses.length f, .int .i64 x48.broken], some 33⟩, ⟨[.slice bh 2 2, .slice c9 x178.buses.length da, .int .i64 x178.broken], some 33⟩, ⟨[.slice cu x187.room.length cw, .slice cv x187.buses.length cx, .int .i64 1], some 33⟩, ⟨[.slice f7 x197.room.length f9, .slice dh x197.buses.length dk, .int .i64 x197.broken], some 33⟩, ⟨[.slice bo x198.room.length bq, .slice bk x198.buses.length bl, .int .i64 x198.broken], some 33⟩, ⟨[.slice bs x199.room.length bt, .slice bp x199.buses.length br, .int .i64 x199.broken], some 33⟩] [⟨aq, 4, 4, 3, 1, ([.int .i64 0, .int .i64 0, .int .i64 1, .int .i64 1] : List Value), (([.int .i64 0, .int .i64 0, .int .i64 1, .int .i64 1] : List Value) : List Value).length⟩, ⟨av, 4, 4, 3, 1, ([.int .i64 1, .int .i64 0, .int .i64 2, .int .i64 3] : List Value), (([.int .i64 1, .int .i64 0, .int .i64 2, .int .i64 3] : List Value) : List Value).length⟩, ⟨ay, 4, 4, 3, 1, ([.int .i64 0, .int .i64 0, .int .i64 1, .int .i64 1] : List Value), (([.int .i64 0, .int .i64 0, .int .i64 1, .int .i64 1] : List Value) : List Value).length⟩, ⟨a1, 4, 4, 3, 1, ([.int .i64 0, .int .i64 1, .int .i64 2, .int .i64 3] : List Value), (([.int .i64 0, .int .i64 1, .int .i64 2, .int .i64 3] : List Value) : List Value).length⟩, ⟨a7, 4, 4, 3, 1, ([.int .i64 0, .int .i64 0, .int .i64 1, .int .i64 1] : List Value), (([.int .i64 0, .int .i64 0, .int .i64 1, .int .i64 1] : List Value) : List Value).length⟩, ⟨g, x52.length, l, 3, 1, (m ++ ([.int .i64 2] : List Value)), ((m ++ ([.int .i64 2] : List Value)) : List Value).length⟩, ⟨d, x48.buses.length, f, 70, 3, p, (p : List Value).length⟩, ⟨bd, 1, 1, 3, 1, ([.int .i64 2] : List Value), 0⟩, ⟨c8, 4, 4, 3, 1, ([.int .i64 0, .int .i64 0, .int .i64 0, .int .i64 1] : List Value), (([.int .i64 0, .int .i64 0, .int .i64 0, .int .i64 1] : List Value) : List Value).length⟩, ⟨de, 4, 4, 3, 1, ([.int .i64 0, .int .i64 1, .int .i64 2, .int .i64 3] : List Value), (([.int .i64 0, .int .i64 1, .int .i64 2, .int .i64 3] : List Value) : List Value).length⟩, ⟨dj, 4, 4, 3, 1, ([.int .i64 0, .int .i64 0, .int .i64 1, .int .i64 1] : List Value), (([.int .i64 0, .int .i64 0, .int .i64 1, .int .i64 1] : List Value) : List Value).length⟩, ⟨dp, 4, 4, 3, 1, ([.int .i64 2, .int .i64 0, .int .i64 1, .int .i64 3] : List Value), (([.int .i64 2, .int .i64 0, .int .i64 1, .int .i64 3] : List Value) : List Value).length⟩, ⟨dq, 4, 4, 3, 1, ([.int .i64 0, .int .i64 0, .int .i64 1, .int .i64 1] : List Value), (([.int .i64 0, .int .i64 0, .int .i64 1, .int .i64 1] : List Value) : List Value).length⟩, ⟨dt, 4, 4, 3, 1, ([.int .i64 0, .int .i64 1, .int .i64 2, .int .i64 3] : List Value), (([.int .i64 0, .int .i64 1, .int .i64 2, .int .i64 3] : List Value) : List Value).length⟩, ⟨du, 1, 1, 3, 1, ([.int .i64 0] : List Value), (([.int .i64 0] : List Value) : List Value).length⟩, ⟨d4, 4, 4, 3, 1, ([.int .i64 0, .int .i64 0, .int .i64 1, .int .i64 2] : List Value), (([.int .i64 0, .int .i64 0, .int .i64 1, .int .i64 2] : List Value) : List Value).length⟩, ⟨bh, 2, 2, 3, 1, ([.int .i64 2, .int .i64 1] : List Value), (([.int .i64 2, .int .i64 1] : List Value) : List Value).length⟩, ⟨d1, 4, 4, 3, 1, ([.int .i64 0, .int .i64 0, .int .i64 1, .int .i64 1] : List Value), (([.int .i64 0, .int .i64 0, .int .i64 1, .int .i64 1] : List Value) : List Value).length⟩, ⟨d8, 4, 4, 3, 1, ([.int .i64 1, .int .i64 0, .int .i64 2, .int .i64 3] : List Value), (([.int .i64 1, .int .i64 0, .int .i64 2, .int .i64 3] : List Value) : List Value).length⟩, ⟨eb, 1, 1, 3, 1, ([.int .i64 1] : List Value), (([.int .i64 1] : List Value) : List Value).length⟩, ⟨bo, x198.room.length, bq, 3, 1, es, 0⟩, ⟨bk, x198.buses.length, bl, 70, 3, c6, 0⟩, ⟨bs, x199.room.length, bt, 3, 1, f6, 0⟩, ⟨bp, x199.buses.length, br, 70, 3, dw, 0⟩, ⟨c7, (4 : Int).toNat, (4 : Int).toNat, 3, 1, (List.flatten (List.replicate (4 : Int).toNat ([.int .i64 0] : List Value))), 0⟩] ai6) => ?_
    have ep : Cells gh x200 (List.flatten (List.replicate (4 : Int).toNat ([.int .i64 0] : List Value))) := by rw [t3]; exact Cells.replicate (α := Int) (x := 0) rep_int _
    have st : (4 : Int).toNat = x200.length := by rw [t3]; simp
    rw [st] at q1 n6
    skip
    rw [st] at ep
    refine hK _ _ ?_
    refine Rk 1 1 ((tP 201 3 0) :: (tS 200 c7 x200.length x200.length) :: (tP 22 5 0) :: (tP 21 4 0) :: (tP 20 3 0) :: (K13m32 x194 bb bc x183 x173 x167 x159 x152)) q1 n6 fun agw yc => ?_
    refine wl fun K hK => ?_
    refine wst 3 0 (.c (.slice c7 x200.length x200.length)) (K13c26 c7 x200 dh x197 dk) yc n6 fun aon yd n7 => hK _ _ ?_
    have ye : Kn 280 [(a, 0), (q, 0), (y, 0), (aj, 0), (al, 0), (am, 0)] ((tP 22 5 0) :: (tP 21 4 0) :: (tP 20 3 0) :: (K13m32 x194 bb bc x183 x173 x167 x159 x152)) agw := yd.kp
    refine wf (wp_seq (wp_region_from (Rk 0 2 ((tS 203 bk x198.buses.length bl) :: (tP 22 5 0) :: (tP 21 4 0) :: (tP 20 3 0) :: (K13m32 x194 bb bc x183 x173 x167 x159 x152)) ye n7 fun ak8 yf => ?_)))
    obtain ⟨x204, ex204, H⟩ := bnd H
    obtain ⟨tz, t1, af9⟩ := idx_some ex204
    have n0 := lt_of_idx tz t1
    obtain ⟨ajq, af3, w3⟩ := cells_get (sz := 3) rfl iq af9
    obtain ⟨_, _, rfl, rfl, ⟨_, _, rfl, rfl, rfl⟩⟩ := af3
    obtain ⟨aw, nr⟩ := row_addr n7 (i := 21) rfl (b0 := 0 + (1 : Int).toNat * 3) (Nat.lt_of_lt_of_le (Nat.lt_add_of_pos_right (by decide)) (cells_fit (sz := 3) rfl iq n0))
    have n8 := n7.addPlc (b := aw) (o := 0 + (1 : Int).toNat * 3) (cs := []) (fun j c hj => by simp at hj) rfl (by kernel_rfl) (by kernel_rfl)
    have qz : ∀ (e : Env) k c, ([.int .i64 x204.lo, .int .i64 x204.hi, .int .i64 x204.turn] : List SC)[k]? = some c → (c6)[0 + (1 : Int).toNat * 3 + k]? = some (c.den e) := fun e k c hk => w3 k _ (map_get hk)
    refine R_index 2 (1) rfl rfl (rfl) rfl (by decide) yf (by rfl) (by rfl) (by rfl) nr (by rfl) tz t1 (by kernel_rfl) fun agx (yg : Kn 280 [(a, 0), (q, 0), (y, 0), (aj, 0), (al, 0), (am, 0), (aw, 0 + (1 : Int).toNat * 3)] ((tP 204 6 0) :: (tS 203 bk x198.buses.length bl) :: (tP 22 5 0) :: (tP 21 4 0) :: (tP 20 3 0) :: (K13m32 x194 bb bc x183 x173 x167 x159 x152)) agx) => ?_
    refine R_runk 3 1 [205, 22, 21, 20, 19, 18, 16, 12, 8, 4, 2] ((tP 205 6 2) :: (tP 22 5 0) :: (tP 21 4 0) :: (tP 20 3 0) :: (K13m32 x194 bb bc x183 x173 x167 x159 x152)) yg (PlOk.peek n8.plOk n8 21 6 rfl rfl nr [.int .i64 x204.lo, .int .i64 x204.hi, .int .i64 x204.turn] (qz _)) (by kernel_rfl) fun agy yh => ?_
    obtain ⟨dg, vg, H⟩ := bnd H
    obtain ⟨akm, ako, t4⟩ := upd_some vg
    refine wl fun K hK => ?_
    refine wp_storeRow 21 6 2 (0 + (1 : Int).toNat * 3) (.c (.int .i64 40)) yh n8 rfl rfl (by rfl) (by rfl) rfl rfl nr rfl (by kernel_rfl) (cells_fitP (sz := 3) 2 1 rfl iq n0 (Nat.le_of_ble_eq_true rfl)) fun ai7 yi adt => ?_
    have ez : Cells gh dg (c6.take (0 + (1 : Int).toNat * 3 + 2) ++ ([.int .i64 40] : List Value) ++ c6.drop (0 + (1 : Int).toNat * 3 + 2 + 1)) := by rw [t4]; exact cells_setPart (sz := 3) (cs := [.int .i64 x204.lo, .int .i64 x204.hi, .int .i64 x204.turn]) [(a, 0), (q, 0), (y, 0), (aj, 0), (al, 0), (am, 0), (aw, 0 + (1 : Int).toNat * 3)] 2 rfl iq n0 (qz _) rfl (Nat.le_of_ble_eq_true rfl) ((rep_pair rep_int (rep_pair rep_int rep_int)) : rep gh ((Bus.mk x204.lo x204.hi 40) : Bus) _)
    have aec : x198.buses.length = dg.length := by rw [t4]; simp
    have yj := yi
    have n9 : Mem ⟨w, h, noX⟩ gh [(a, 0), (q, 0), (y, 0), (aj, 0), (al, 0), (am, 0), (aw, 0 + (1 : Int).toNat * 3)] [⟨[.slice g x52.length l, .slice d x48.buses.length f, .int .i64 x48.broken], some 33⟩, ⟨[.slice bh 2 2, .slice c9 x178.buses.length da, .int .i64 x178.broken], some 33⟩, ⟨[.slice cu x187.room.length cw, .slice cv x187.buses.length cx, .int .i64 1], some 33⟩, ⟨[.slice c7 x200.length x200.length, .slice dh x197.buses.length dk, .int .i64 x197.broken], some 33⟩, ⟨[.slice bo x198.room.length bq, .slice bk dg.length bl, .int .i64 x198.broken], some 33⟩, ⟨[.slice bs x199.room.length bt, .slice bp x199.buses.length br, .int .i64 x199.broken], some 33⟩, ⟨[], none⟩] [⟨aq, 4, 4, 3, 1, ([.int .i64 0, .int .i64 0, .int .i64 1, .int .i64 1] : List Value), (([.int .i64 0, .int .i64 0, .int .i64 1, .int .i64 1] : List Value) : List Value).length⟩, ⟨av, 4, 4, 3, 1, ([.int .i64 1, .int .i64 0, .int .i64 2, .int .i64 3] : List Value), (([.int .i64 1, .int .i64 0, .int .i64 2, .int .i64 3] : List Value) : List Value).length⟩, ⟨ay, 4, 4, 3, 1, ([.int .i64 0, .int .i64 0, .int .i64 1, .int .i64 1] : List Value), (([.int .i64 0, .int .i64 0, .int .i64 1, .int .i64 1] : List Value) : List Value).length⟩, ⟨a1, 4, 4, 3, 1, ([.int .i64 0, .int .i64 1, .int .i64 2, .int .i64 3] : List Value), (([.int .i64 0, .int .i64 1, .int .i64 2, .int .i64 3] : List Value) : List Value).length⟩, ⟨a7, 4, 4, 3, 1, ([.int .i64 0, .int .i64 0, .int .i64 1, .int .i64 1] : List Value), (([.int .i64 0, .int .i64 0, .int .i64 1, .int .i64 1] : List Value) : List Value).length⟩, ⟨g, x52.length, l, 3, 1, (m ++ ([.int .i64 2] : List Value)), ((m ++ ([.int .i64 2] : List Value)) : List Value).length⟩, ⟨d, x48.buses.length, f, 70, 3, p, (p : List Value).length⟩, ⟨bd, 1, 1, 3, 1, ([.int .i64 2] : List Value), 0⟩, ⟨c8, 4, 4, 3, 1, ([.int .i64 0, .int .i64 0, .int .i64 0, .int .i64 1] : List Value), (([.int .i64 0, .int .i64 0, .int .i64 0, .int .i64 1] : List Value) : List Value).length⟩, ⟨de, 4, 4, 3, 1, ([.int .i64 0, .int .i64 1, .int .i64 2, .int .i64 3] : List Value), (([.int .i64 0, .int .i64 1, .int .i64 2, .int .i64 3] : List Value) : List Value).length⟩, ⟨dj, 4, 4, 3, 1, ([.int .i64 0, .int .i64 0, .int .i64 1, .int .i64 1] : List Value), (([.int .i64 0, .int .i64 0, .int .i64 1, .int .i64 1] : List Value) : List Value).length⟩, ⟨dp, 4, 4, 3, 1, ([.int .i64 2, .int .i64 0, .int .i64 1, .int .i64 3] : List Value), (([.int .i64 2, .int .i64 0, .int .i64 1, .int .i64 3] : List Value) : List Value).length⟩, ⟨dq, 4, 4, 3, 1, ([.int .i64 0, .int .i64 0, .int .i64 1, .int .i64 1] : List Value), (([.int .i64 0, .int .i64 0, .int .i64 1, .int .i64 1] : List Value) : List Value).length⟩, ⟨dt, 4, 4, 3, 1, ([.int .i64 0, .int .i64 1, .int .i64 2, .int .i64 3] : List Value), (([.int .i64 0, .int .i64 1, .int .i64 2, .int .i64 3] : List Value) : List Value).length⟩, ⟨du, 1, 1, 3, 1, ([.int .i64 0] : List Value), (([.int .i64 0] : List Value) : List Value).length⟩, ⟨d4, 4, 4, 3, 1, ([.int .i64 0, .int .i64 0, .int .i64 1, .int .i64 2] : List Value), (([.int .i64 0, .int .i64 0, .int .i64 1, .int .i64 2] : List Value) : List Value).length⟩, ⟨bh, 2, 2, 3, 1, ([.int .i64 2, .int .i64 1] : List Value), (([.int .i64 2, .int .i64 1] : List Value) : List Value).length⟩, ⟨d1, 4, 4, 3, 1, ([.int .i64 0, .int .i64 0, .int .i64 1, .int .i64 1] : List Value), (([.int .i64 0, .int .i64 0, .int .i64 1, .int .i64 1] : List Value) : List Value).length⟩, ⟨d8, 4, 4, 3, 1, ([.int .i64 1, .int .i64 0, .int .i64 2, .int .i64 3] : List Value), (([.int .i64 1, .int .i64 0, .int .i64 2, .int .i64 3] : List Value) : List Value).length⟩, ⟨eb, 1, 1, 3, 1, ([.int .i64 1] : List Value), (([.int .i64 1] : List Value) : List Value).length⟩, ⟨bo, x198.room.length, bq, 3, 1, es, 0⟩, ⟨bk, dg.length, bl, 70, 3, (c6.take (0 + (1 : Int).toNat * 3 + 2) ++ ([.int .i64 40] : List Value) ++ c6.drop (0 + (1 : Int).toNat * 3 + 2 + 1)), 0⟩, ⟨bs, x199.room.length, bt, 3, 1, f6, 0⟩, ⟨bp, x199.buses.length, br, 70, 3, dw, 0⟩, ⟨c7, x200.length, x200.length, 3, 1, (List.flatten (List.replicate x200.length ([.int .i64 0] : List Value))), 0⟩] ai7 := by rw [← aec]; exact adt
    refine hK _ _ ?_
    have yk : Kn 280 [(a, 0), (q, 0), (y, 0), (aj, 0), (al, 0), (am, 0), (aw, 0 + (1 : Int).toNat * 3)] ((tP 22 5 0) :: (tP 21 4 0) :: (tP 20 3 0) :: (K13m32 x194 bb bc x183 x173 x167 x159 x152)) agy := yj.kp
    refine wf (wp_seq (wp_region_from (Rk 0 2 ((tS 207 bp x199.buses.length br) :: (tP 22 5 0) :: (tP 21 4 0) :: (tP 20 3 0) :: (K13m32 x194 bb bc x183 x173 x167 x159 x152)) yk n9 fun ak9 yl => ?_)))
    obtain ⟨x208, ex208, H⟩ := bnd H
    obtain ⟨t0, t2, aga⟩ := idx_some ex208
    have n1 := lt_of_idx t0 t2
    obtain ⟨ajr, af4, w4⟩ := cells_get (sz := 3) rfl k7 aga
    obtain ⟨_, _, rfl, rfl, ⟨_, _, rfl, rfl, rfl⟩⟩ := af4
    obtain ⟨a8, ns⟩ := row_addr n9 (i := 23) rfl (b0 := 0 + (0 : Int).toNat * 3) (Nat.lt_of_lt_of_le (Nat.lt_add_of_pos_right (by decide)) (cells_fit (sz := 3) rfl k7 n1))
    have oa := n9.addPlc (b := a8) (o := 0 + (0 : Int).toNat * 3) (cs := []) (fun j c hj => by simp at hj) rfl (by kernel_rfl) (by kernel_rfl)
    have q0 : ∀ (e : Env) k c, ([.int .i64 x208.lo, .int .i64 x208.hi, .int .i64 x208.turn] : List SC)[k]? = some c → (dw)[0 + (0 : Int).toNat * 3 + k]? = some (c.den e) := fun e k c hk => w4 k _ (map_get hk)
    refine R_index 2 (0) rfl rfl (rfl) rfl (by decide) yl (by rfl) (by rfl) (by rfl) ns (by rfl) t0 t2 (by kernel_rfl) fun agz (ym : Kn 280 (K13e27 a q y aj al am aw a8) ((tP 208 7 0) :: (tS 207 bp x199.buses.length br) :: (tP 22 5 0) :: (tP 21 4 0) :: (tP 20 3 0) :: (K13m32 x194 bb bc x183 x173 x167 x159 x152)) agz) => ?_
    refine R_runk 3 1 [209, 22, 21, 20, 19, 18, 16, 12, 8, 4, 2] ((tP 209 7 0) :: (tP 22 5 0) :: (tP 21 4 0) :: (tP 20 3 0) :: (K13m32 x194 bb bc x183 x173 x167 x159 x152)) ym (PlOk.peek oa.plOk oa 23 7 rfl rfl ns [.int .i64 x208.lo, .int .i64 x208.hi, .int .i64 x208.turn] (q0 _)) (by kernel_rfl) fun ag0 yn => ?_
    obtain ⟨ds, vh, H⟩ := bnd H
    obtain ⟨akn, akp, t5⟩ := upd_some vh
    refine wl fun K hK => ?_
    refine wp_storeRow 23 7 0 (0 + (0 : Int).toNat * 3) (.c (.int .i64 121)) yn oa rfl rfl (by rfl) (by rfl) rfl rfl ns rfl (by kernel_rfl) (cells_fitP (sz := 3) 0 1 rfl k7 n1 (Nat.le_of_ble_eq_true rfl)) fun ai8 yo adu => ?_
    have e0 : Cells gh ds (dw.take (0 + (0 : Int).toNat * 3 + 0) ++ ([.int .i64 121] : List Value) ++ dw.drop (0 + (0 : Int).toNat * 3 + 0 + 1)) := by rw [t5]; exact cells_setPart (sz := 3) (cs := [.int .i64 x208.lo, .int .i64 x208.hi, .int .i64 x208.turn]) [(a, 0), (q, 0), (y, 0), (aj, 0), (al, 0), (am, 0), (aw, 0 + (1 : Int).toNat * 3), (a8, 0 + (0 : Int).toNat * 3)] 0 rfl k7 n1 (q0 _) rfl (Nat.le_of_ble_eq_true rfl) ((rep_pair rep_int (rep_pair rep_int rep_int)) : rep gh ((Bus.mk 121 x208.hi x208.turn) : Bus) _)
    have aed : x199.buses.length = ds.length := by rw [t5]; simp
    have yp := yo
    have adv : Mem ⟨w, h, noX⟩ gh [(a, 0), (q, 0), (y, 0), (aj, 0), (al, 0), (am, 0), (aw, 0 + (1 : Int).toNat * 3), (a8, 0 + (0 : Int).toNat * 3)] [⟨[.slice g x52.length l, .slice d x48.buses.length f, .int .i64 x48.broken], some 33⟩, ⟨[.slice bh 2 2, .slice c9 x178.buses.length da, .int .i64 x178.broken], some 33⟩, ⟨[.slice cu x187.room.length cw, .slice cv x187.buses.length cx, .int .i64 1], some 33⟩, ⟨[.slice c7 x200.length x200.length, .slice dh x197.buses.length dk, .int .i64 x197.broken], some 33⟩, ⟨[.slice bo x198.room.length bq, .slice bk dg.length bl, .int .i64 x198.broken], some 33⟩, ⟨[.slice bs x199.room.length bt, .slice bp ds.length br, .int .i64 x199.broken], some 33⟩, ⟨[], none⟩, ⟨[], none⟩] [⟨aq, 4, 4, 3, 1, ([.int .i64 0, .int .i64 0, .int .i64 1, .int .i64 1] : List Value), (([.int .i64 0, .int .i64 0, .int .i64 1, .int .i64 1] : List Value) : List Value).length⟩, ⟨av, 4, 4, 3, 1, ([.int .i64 1, .int .i64 0, .int .i64 2, .int .i64 3] : List Value), (([.int .i64 1, .int .i64 0, .int .i64 2, .int .i64 3] : List Value) : List Value).length⟩, ⟨ay, 4, 4, 3, 1, ([.int .i64 0, .int .i64 0, .int .i64 1, .int .i64 1] : List Value), (([.int .i64 0, .int .i64 0, .int .i64 1, .int .i64 1] : List Value) : List Value).length⟩, ⟨a1, 4, 4, 3, 1, ([.int .i64 0, .int .i64 1, .int .i64 2, .int .i64 3] : List Value), (([.int .i64 0, .int .i64 1, .int .i64 2, .int .i64 3] : List Value) : List Value).length⟩, ⟨a7, 4, 4, 3, 1, ([.int .i64 0, .int .i64 0, .int .i64 1, .int .i64 1] : List Value), (([.int .i64 0, .int .i64 0, .int .i64 1, .int .i64 1] : List Value) : List Value).length⟩, ⟨g, x52.length, l, 3, 1, (m ++ ([.int .i64 2] : List Value)), ((m ++ ([.int .i64 2] : List Value)) : List Value).length⟩, ⟨d, x48.buses.length, f, 70, 3, p, (p : List Value).length⟩, ⟨bd, 1, 1, 3, 1, ([.int .i64 2] : List Value), 0⟩, ⟨c8, 4, 4, 3, 1, ([.int .i64 0, .int .i64 0, .int .i64 0, .int .i64 1] : List Value), (([.int .i64 0, .int .i64 0, .int .i64 0, .int .i64 1] : List Value) : List Value).length⟩, ⟨de, 4, 4, 3, 1, ([.int .i64 0, .int .i64 1, .int .i64 2, .int .i64 3] : List Value), (([.int .i64 0, .int .i64 1, .int .i64 2, .int .i64 3] : List Value) : List Value).length⟩, ⟨dj, 4, 4, 3, 1, ([.int .i64 0, .int .i64 0, .int .i64 1, .int .i64 1] : List Value), (([.int .i64 0, .int .i64 0, .int .i64 1, .int .i64 1] : List Value) : List Value).length⟩, ⟨dp, 4, 4, 3, 1, ([.int .i64 2, .int .i64 0, .int .i64 1, .int .i64 3] : List Value), (([.int .i64 2, .int .i64 0, .int .i64 1, .int .i64 3] : List Value) : List Value).length⟩, ⟨dq, 4, 4, 3, 1, ([.int .i64 0, .int .i64 0, .int .i64 1, .int .i64 1] : List Value), (([.int .i64 0, .int .i64 0, .int .i64 1, .int .i64 1] : List Value) : List Value).length⟩, ⟨dt, 4, 4, 3, 1, ([.int .i64 0, .int .i64 1, .int .i64 2, .int .i64 3] : List Value), (([.int .i64 0, .int .i64 1, .int .i64 2, .int .i64 3] : List Value) : List Value).length⟩, ⟨du, 1, 1, 3, 1, ([.int .i64 0] : List Value), (([.int .i64 0] : List Value) : List Value).length⟩, ⟨d4, 4, 4, 3, 1, ([.int .i64 0, .int .i64 0, .int .i64 1, .int .i64 2] : List Value), (([.int .i64 0, .int .i64 0, .int .i64 1, .int .i64 2] : List Value) : List Value).length⟩, ⟨bh, 2, 2, 3, 1, ([.int .i64 2, .int .i64 1] : List Value), (([.int .i64 2, .int .i64 1] : List Value) : List Value).length⟩, ⟨d1, 4, 4, 3, 1, ([.int .i64 0, .int .i64 0, .int .i64 1, .int .i64 1] : List Value), (([.int .i64 0, .int .i64 0, .int .i64 1, .int .i64 1] : List Value) : List Value).length⟩, ⟨d8, 4, 4, 3, 1, ([.int .i64 1, .int .i64 0, .int .i64 2, .int .i64 3] : List Value), (([.int .i64 1, .int .i64 0, .int .i64 2, .int .i64 3] : List Value) : List Value).length⟩, ⟨eb, 1, 1, 3, 1, ([.int .i64 1] : List Value), (([.int .i64 1] : List Value) : List Value).length⟩, ⟨bo, x198.room.length, bq, 3, 1, es, 0⟩, ⟨bk, dg.length, bl, 70, 3, (c6.take (0 + (1 : Int).toNat * 3 + 2) ++ ([.int .i64 40] : List Value) ++ c6.drop (0 + (1 : Int).toNat * 3 + 2 + 1)), 0⟩, ⟨bs, x199.room.length, bt, 3, 1, f6, 0⟩, ⟨bp, ds.length, br, 70, 3, (dw.take (0 + (0 : Int).toNat * 3 + 0) ++ ([.int .i64 121] : List Value) ++ dw.drop (0 + (0 : Int).toNat * 3 + 0 + 1)), 0⟩, ⟨c7, x200.length, x200.length, 3, 1, (List.flatten (List.replicate x200.length ([.int .i64 0] : List Value))), 0⟩] ai8 := by rw [← aed]; exact adu
    refine hK _ _ ?_
    have yq : Kn 280 (K13e27 a q y aj al am aw a8) ((tP 22 5 0) :: (tP 21 4 0) :: (tP 20 3 0) :: (K13m32 x194 bb bc x183 x173 x167 x159 x152)) ag0 := yp.kp
    refine wf (wp_seq (wp_region_from (wl fun K hK => ?_)))
    refine wS 3 1 [.int .i64 0] yq adv fun f8 ag1 ai9 (yr : Kn 280 (K13e27 a q y aj al am aw a8) ((tS 211 f8 1 1) :: (tP 22 5 0) :: (tP 21 4 0) :: (tP 20 3 0) :: (K13m32 x194 bb bc x183 x173 x167 x159 x152)) ag1) ob => ?_
    have e1 : Cells gh ([0] : List Int) ([.int .i64 0] : List Value) := ⟨_, _, rfl, (rep_int : rep gh (0 : Int) _), rfl⟩
    refine hK _ _ ?_
    refine Rk 1 1 ((tA 212 [.slice f8 1 1, .slice none 0 0, .int .i64 0]) :: (tP 22 5 0) :: (tP 21 4 0) :: (tP 20 3 0) :: (K13m32 x194 bb bc x183 x173 x167 x159 x152)) yr ob fun ala ys => ?_
    obtain ⟨m6, ba, afa, lm⟩ := ob.settle (i := 25) rfl
    replace e1 := e1.mono ba
    replace lm : Mem ⟨w, h, noX⟩ m6 (K13e27 a q y aj al am aw a8) [⟨(K13c9 g x52 l d x48 f), some 33⟩, ⟨(K13c7 bh c9 x178 da), some 33⟩, ⟨(K13c12 cu x187 cw cv cx), some 33⟩, ⟨(K13c26 c7 x200 dh x197 dk), some 33⟩, ⟨(K13c20 bo x198 bq bk dg bl), some 33⟩, ⟨(K13c21 bs x199 bt bp ds br), some 33⟩, ⟨[], none⟩, ⟨[], none⟩] [⟨aq, 4, 4, 3, 1, ([.int .i64 0, .int .i64 0, .int .i64 1, .int .i64 1] : List Value), (([.int .i64 0, .int .i64 0, .int .i64 1, .int .i64 1] : List Value) : List Value).length⟩, ⟨av, 4, 4, 3, 1, ([.int .i64 1, .int .i64 0, .int .i64 2, .int .i64 3] : List Value), (([.int .i64 1, .int .i64 0, .int .i64 2, .int .i64 3] : List Value) : List Value).length⟩, ⟨ay, 4, 4, 3, 1, ([.int .i64 0, .int .i64 0, .int .i64 1, .int .i64 1] : List Value), (([.int .i64 0, .int .i64 0, .int .i64 1, .int .i64 1] : List Value) : List Value).length⟩, ⟨a1, 4, 4, 3, 1, ([.int .i64 0, .int .i64 1, .int .i64 2, .int .i64 3] : List Value), (([.int .i64 0, .int .i64 1, .int .i64 2, .int .i64 3] : List Value) : List Value).length⟩, ⟨a7, 4, 4, 3, 1, ([.int .i64 0, .int .i64 0, .int .i64 1, .int .i64 1] : List Value), (([.int .i64 0, .int .i64 0, .int .i64 1, .int .i64 1] : List Value) : List Value).length⟩, ⟨g, x52.length, l, 3, 1, (m ++ ([.int .i64 2] : List Value)), ((m ++ ([.int .i64 2] : List Value)) : List Value).length⟩, ⟨d, x48.buses.length, f, 70, 3, p, (p : List Value).length⟩, ⟨bd, 1, 1, 3, 1, ([.int .i64 2] : List Value), 0⟩, ⟨c8, 4, 4, 3, 1, ([.int .i64 0, .int .i64 0, .int .i64 0, .int .i64 1] : List Value), (([.int .i64 0, .int .i64 0, .int .i64 0, .int .i64 1] : List Value) : List Value).length⟩, ⟨de, 4, 4, 3, 1, ([.int .i64 0, .int .i64 1, .int .i64 2, .int .i64 3] : List Value), (([.int .i64 0, .int .i64 1, .int .i64 2, .int .i64 3] : List Value) : List Value).length⟩, ⟨dj, 4, 4, 3, 1, ([.int .i64 0, .int .i64 0, .int .i64 1, .int .i64 1] : List Value), (([.int .i64 0, .int .i64 0, .int .i64 1, .int .i64 1] : List Value) : List Value).length⟩, ⟨dp, 4, 4, 3, 1, ([.int .i64 2, .int .i64 0, .int .i64 1, .int .i64 3] : List Value), (([.int .i64 2, .int .i64 0, .int .i64 1, .int .i64 3] : List Value) : List Value).length⟩, ⟨dq, 4, 4, 3, 1, ([.int .i64 0, .int .i64 0, .int .i64 1, .int .i64 1] : List Value), (([.int .i64 0, .int .i64 0, .int .i64 1, .int .i64 1] : List Value) : List Value).length⟩, ⟨dt, 4, 4, 3, 1, ([.int .i64 0, .int .i64 1, .int .i64 2, .int .i64 3] : List Value), (([.int .i64 0, .int .i64 1, .int .i64 2, .int .i64 3] : List Value) : List Value).length⟩, ⟨du, 1, 1, 3, 1, ([.int .i64 0] : List Value), (([.int .i64 0] : List Value) : List Value).length⟩, ⟨d4, 4, 4, 3, 1, ([.int .i64 0, .int .i64 0, .int .i64 1, .int .i64 2] : List Value), (([.int .i64 0, .int .i64 0, .int .i64 1, .int .i64 2] : List Value) : List Value).length⟩, ⟨bh, 2, 2, 3, 1, ([.int .i64 2, .int .i64 1] : List Value), (([.int .i64 2, .int .i64 1] : List Value) : List Value).length⟩, ⟨d1, 4, 4, 3, 1, ([.int .i64 0, .int .i64 0, .int .i64 1, .int .i64 1] : List Value), (([.int .i64 0, .int .i64 0, .int .i64 1, .int .i64 1] : List Value) : List Value).length⟩, ⟨d8, 4, 4, 3, 1, ([.int .i64 1, .int .i64 0, .int .i64 2, .int .i64 3] : List Value), (([.int .i64 1, .int .i64 0, .int .i64 2, .int .i64 3] : List Value) : List Value).length⟩, ⟨eb, 1, 1, 3, 1, ([.int .i64 1] : List Value), (([.int .i64 1] : List Value) : List Value).length⟩, ⟨bo, x198.room.length, bq, 3, 1, es, 0⟩, ⟨bk, dg.length, bl, 70, 3, (c6.take (0 + (1 : Int).toNat * 3 + 2) ++ ([.int .i64 40] : List Value) ++ c6.drop (0 + (1 : Int).toNat * 3 + 2 + 1)), 0⟩, ⟨bs, x199.room.length, bt, 3, 1, f6, 0⟩, ⟨bp, ds.length, br, 70, 3, (dw.take (0 + (0 : Int).toNat * 3 + 0) ++ ([.int .i64 121] : List Value) ++ dw.drop (0 + (0 : Int).toNat * 3 + 0 + 1)), 0⟩, ⟨c7, x200.length, x200.length, 3, 1, (List.flatten (List.replicate x200.length ([.int .i64 0] : List Value))), 0⟩, ⟨f8, 1, 1, 3, 1, ([.int .i64 0] : List Value), (([.int .i64 0] : List Value) : List Value).length⟩] ai9 := lm
    have fz : RepS m6 f8 1 ([0] : List Int) := ⟨_, e1, afa, ob.rowCap (i := 25) rfl⟩
    obtain ⟨x213, ex213, H⟩ := bnd H
    refine wl fun K hK => ?_
    refine wc [.agg [.slice f8 1 1, .slice none 0 0, .int .i64 0]] ys lm (lane_Best_ok n lm.has (Yard.mk ([0] : List Int) ([] : List Bus) 0) ((rep_pair (rep_slice fz) (rep_pair (rep_slice RepS.nil) rep_int)) : rep m6 (Yard.mk ([0] : List Int) ([] : List Bus) 0) _) ex213) fun am3 m7 aoo vq a9 d7 => ?_
    replace cl := cl.mono (Heap.le_trans (Heap.le_trans (Heap.le_trans (Heap.le_trans (Heap.le_trans (Heap.le_trans (Heap.le_trans (Heap.le_trans (Heap.le_trans (Heap.le_trans (Heap.le_trans (Heap.le_trans (Heap.le_trans (Heap.le_trans (Heap.le_trans (Heap.le_trans (Heap.le_trans (Heap.le_trans (Heap.le_trans (Heap.le_trans (Heap.le_trans (Heap.le_trans (Heap.le_trans (Heap.le_trans (Heap.le_trans (Heap.le_trans (Heap.le_trans (Heap.le_trans fc ed) ea) ee) ef) dx) dv) dy) dz) df) db) c5) dc) dd) ct) cz) c0) cg) b1) b2) bn) bm) bj) bi) bg) bf) be) ba) a9)
    replace c3 := c3.mono (Heap.le_trans (Heap.le_trans (Heap.le_trans (Heap.le_trans (Heap.le_trans (Heap.le_trans (Heap.le_trans (Heap.le_trans (Heap.le_trans (Heap.le_trans (Heap.le_trans (Heap.le_trans (Heap.le_trans (Heap.le_trans (Heap.le_trans (Heap.le_trans (Heap.le_trans (Heap.le_trans (Heap.le_trans (Heap.le_trans (Heap.le_trans (Heap.le_trans (Heap.le_trans (Heap.le_trans (Heap.le_trans (Heap.le_trans (Heap.le_trans (Heap.le_trans fc ed) ea) ee) ef) dx) dv) dy) dz) df) db) c5) dc) dd) ct) cz) c0) cg) b1) b2) bn) bm) bj) bi) bg) bf) be) ba) a9)
    replace cm := cm.mono (Heap.le_trans (Heap.le_trans (Heap.le_trans (Heap.le_trans (Heap.le_trans (Heap.le_trans (Heap.le_trans (Heap.le_trans (Heap.le_trans (Heap.le_trans (Heap.le_trans (Heap.le_trans (Heap.le_trans (Heap.le_trans (Heap.le_trans (Heap.le_trans (Heap.le_trans (Heap.le_trans (Heap.le_trans (Heap.le_trans (Heap.le_trans (Heap.le_trans (Heap.le_trans (Heap.le_trans (Heap.le_trans (Heap.le_trans (Heap.le_trans (Heap.le_trans fc ed) ea) ee) ef) dx) dv) dy) dz) df) db) c5) dc) dd) ct) cz) c0) cg) b1) b2) bn) bm) bj) bi) bg) bf) be) ba) a9)
    replace c4 := c4.mono (Heap.le_trans (Heap.le_trans (Heap.le_trans (Heap.le_trans (Heap.le_trans (Heap.le_trans (Heap.le_trans (Heap.le_trans (Heap.le_trans (Heap.le_trans (Heap.le_trans (Heap.le_trans (Heap.le_trans (Heap.le_trans (Heap.le_trans (Heap.le_trans (Heap.le_trans (Heap.le_trans (Heap.le_trans (Heap.le_trans (Heap.le_trans (Heap.le_trans (Heap.le_trans (Heap.le_trans (Heap.le_trans (Heap.le_trans (Heap.le_trans (Heap.le_trans fc ed) ea) ee) ef) dx) dv) dy) dz) df) db) c5) dc) dd) ct) cz) c0) cg) b1) b2) bn) bm) bj) bi) bg) bf) be) ba) a9)
    replace c1 := c1.mono (Heap.le_trans (Heap.le_trans (Heap.le_trans (Heap.le_trans (Heap.le_trans (Heap.le_trans (Heap.le_trans (Heap.le_trans (Heap.le_trans (Heap.le_trans (Heap.le_trans (Heap.le_trans (Heap.le_trans (Heap.le_trans (Heap.le_trans (Heap.le_trans (Heap.le_trans (Heap.le_trans (Heap.le_trans (Heap.le_trans (Heap.le_trans (Heap.le_trans (Heap.le_trans (Heap.le_trans (Heap.le_trans (Heap.le_trans (Heap.le_trans (Heap.le_trans fc ed) ea) ee) ef) dx) dv) dy) dz) df) db) c5) dc) dd) ct) cz) c0) cg) b1) b2) bn) bm) bj) bi) bg) bf) be) ba) a9)
    replace ck := ck.mono (Heap.le_trans (Heap.le_trans (Heap.le_trans (Heap.le_trans (Heap.le_trans (Heap.le_trans (Heap.le_trans (Heap.le_trans (Heap.le_trans (Heap.le_trans (Heap.le_trans (Heap.le_trans (Heap.le_trans (Heap.le_trans (Heap.le_trans (Heap.le_trans (Heap.le_trans (Heap.le_trans (Heap.le_trans (Heap.le_trans (Heap.le_trans (Heap.le_trans (Heap.le_trans (Heap.le_trans (Heap.le_trans (Heap.le_trans (Heap.le_trans (Heap.le_trans fc ed) ea) ee) ef) dx) dv) dy) dz) df) db) c5) dc) dd) ct) cz) c0) cg) b1) b2) bn) bm) bj) bi) bg) bf) be) ba) a9)
    replace c2 := c2.mono (Heap.le_trans (Heap.le_trans (Heap.le_trans (Heap.le_trans (Heap.le_trans (Heap.le_trans (Heap.le_trans (Heap.le_trans (Heap.le_trans (Heap.le_trans (Heap.le_trans (Heap.le_trans (Heap.le_trans (Heap.le_trans (Heap.le_trans (Heap.le_trans (Heap.le_trans (Heap.le_trans (Heap.le_trans (Heap.le_trans (Heap.le_trans (Heap.le_trans (Heap.le_trans (Heap.le_trans (Heap.le_trans (Heap.le_trans (Heap.le_trans (Heap.le_trans fc ed) ea) ee) ef) dx) dv) dy) dz) df) db) c5) dc) dd) ct) cz) c0) cg) b1) b2) bn) bm) bj) bi) bg) bf) be) ba) a9)
    replace fk := fk.mono (Heap.le_trans (Heap.le_trans (Heap.le_trans (Heap.le_trans (Heap.le_trans (Heap.le_trans (Heap.le_trans (Heap.le_trans (Heap.le_trans (Heap.le_trans (Heap.le_trans (Heap.le_trans (Heap.le_trans (Heap.le_trans (Heap.le_trans (Heap.le_trans (Heap.le_trans (Heap.le_trans (Heap.le_trans (Heap.le_trans (Heap.le_trans (Heap.le_trans (Heap.le_trans (Heap.le_trans (Heap.le_trans ee ef) dx) dv) dy) dz) df) db) c5) dc) dd) ct) cz) c0) cg) b1) b2) bn) bm) bj) bi) bg) bf) be) ba) a9)
    replace f2 := f2.mono (Heap.le_trans (Heap.le_trans (Heap.le_trans (Heap.le_trans (Heap.le_trans (Heap.le_trans (Heap.le_trans (Heap.le_trans (Heap.le_trans (Heap.le_trans (Heap.le_trans (Heap.le_trans (Heap.le_trans (Heap.le_trans (Heap.le_trans (Heap.le_trans (Heap.le_trans (Heap.le_trans (Heap.le_trans (Heap.le_trans (Heap.le_trans (Heap.le_trans (Heap.le_trans (Heap.le_trans (Heap.le_trans ee ef) dx) dv) dy) dz) df) db) c5) dc) dd) ct) cz) c0) cg) b1) b2) bn) bm) bj) bi) bg) bf) be) ba) a9)
    replace fl := fl.mono (Heap.le_trans (Heap.le_trans (Heap.le_trans (Heap.le_trans (Heap.le_trans (Heap.le_trans (Heap.le_trans (Heap.le_trans (Heap.le_trans (Heap.le_trans (Heap.le_trans (Heap.le_trans (Heap.le_trans (Heap.le_trans (Heap.le_trans (Heap.le_trans (Heap.le_trans (Heap.le_trans (Heap.le_trans (Heap.le_trans (Heap.le_trans dy dz) df) db) c5) dc) dd) ct) cz) c0) cg) b1) b2) bn) bm) bj) bi) bg) bf) be) ba) a9)
    replace f3 := f3.mono (Heap.le_trans (Heap.le_trans (Heap.le_trans (Heap.le_trans (Heap.le_trans (Heap.le_trans (Heap.le_trans (Heap.le_trans (Heap.le_trans (Heap.le_trans (Heap.le_trans (Heap.le_trans (Heap.le_trans (Heap.le_trans (Heap.le_trans (Heap.le_trans (Heap.le_trans (Heap.le_trans (Heap.le_trans (Heap.le_trans (Heap.le_trans dy dz) df) db) c5) dc) dd) ct) cz) c0) cg) b1) b2) bn) bm) bj) bi) bg) bf) be) ba) a9)
    replace fm := fm.mono (Heap.le_trans (Heap.le_trans (Heap.le_trans (Heap.le_trans (Heap.le_trans (Heap.le_trans (Heap.le_trans (Heap.le_trans (Heap.le_trans (Heap.le_trans (Heap.le_trans (Heap.le_trans (Heap.le_trans (Heap.le_trans (Heap.le_trans (Heap.le_trans dc dd) ct) cz) c0) cg) b1) b2) bn) bm) bj) bi) bg) bf) be) ba) a9)
    replace fn := fn.mono (Heap.le_trans (Heap.le_trans (Heap.le_trans (Heap.le_trans (Heap.le_trans (Heap.le_trans (Heap.le_trans (Heap.le_trans (Heap.le_trans (Heap.le_trans (Heap.le_trans (Heap.le_trans (Heap.le_trans (Heap.le_trans (Heap.le_trans (Heap.le_trans dc dd) ct) cz) c0) cg) b1) b2) bn) bm) bj) bi) bg) bf) be) ba) a9)
    replace f4 := f4.mono (Heap.le_trans (Heap.le_trans (Heap.le_trans (Heap.le_trans (Heap.le_trans (Heap.le_trans (Heap.le_trans (Heap.le_trans (Heap.le_trans (Heap.le_trans (Heap.le_trans (Heap.le_trans (Heap.le_trans (Heap.le_trans (Heap.le_trans (Heap.le_trans dc dd) ct) cz) c0) cg) b1) b2) bn) bm) bj) bi) bg) bf) be) ba) a9)
    replace f5 := f5.mono (Heap.le_trans (Heap.le_trans (Heap.le_trans (Heap.le_trans (Heap.le_trans (Heap.le_trans (Heap.le_trans (Heap.le_trans (Heap.le_trans (Heap.le_trans (Heap.le_trans (Heap.le_trans (Heap.le_trans cz c0) cg) b1) b2) bn) bm) bj) bi) bg) bf) be) ba) a9)
    replace fo := fo.mono (Heap.le_trans (Heap.le_trans (Heap.le_trans (Heap.le_trans (Heap.le_trans (Heap.le_trans (Heap.le_trans (Heap.le_trans (Heap.le_trans (Heap.le_trans b1 b2) bn) bm) bj) bi) bg) bf) be) ba) a9)
    replace fx := fx.mono (Heap.le_trans (Heap.le_trans (Heap.le_trans (Heap.le_trans (Heap.le_trans (Heap.le_trans (Heap.le_trans (Heap.le_trans (Heap.le_trans (Heap.le_trans b1 b2) bn) bm) bj) bi) bg) bf) be) ba) a9)
    replace fd := fd.mono (Heap.le_trans (Heap.le_trans (Heap.le_trans (Heap.le_trans (Heap.le_trans bi bg) bf) be) ba) a9)
    replace fe := fe.mono (Heap.le_trans (Heap.le_trans (Heap.le_trans (Heap.le_trans (Heap.le_trans bi bg) bf) be) ba) a9)
    replace ff := ff.mono (Heap.le_trans (Heap.le_trans (Heap.le_trans (Heap.le_trans (Heap.le_trans bi bg) bf) be) ba) a9)
    replace fg := fg.mono (Heap.le_trans (Heap.le_trans (Heap.le_trans (Heap.le_trans (Heap.le_trans bi bg) bf) be) ba) a9)
    replace fy := fy.mono (Heap.le_trans (Heap.le_trans (Heap.le_trans (Heap.le_trans (Heap.le_trans bi bg) bf) be) ba) a9)
    replace kk := kk.mono (Heap.le_trans (Heap.le_trans (Heap.le_trans (Heap.le_trans bg bf) be) ba) a9)
    replace fh := fh.mono (Heap.le_trans (Heap.le_trans (Heap.le_trans bf be) ba) a9)
    replace fz := fz.mono a9
    replace cc := cc.mono (Heap.le_trans (Heap.le_trans (Heap.le_trans (Heap.le_trans (Heap.le_trans (Heap.le_trans (Heap.le_trans (Heap.le_trans (Heap.le_trans (Heap.le_trans (Heap.le_trans (Heap.le_trans (Heap.le_trans (Heap.le_trans (Heap.le_trans (Heap.le_trans (Heap.le_trans (Heap.le_trans (Heap.le_trans (Heap.le_trans (Heap.le_trans (Heap.le_trans (Heap.le_trans (Heap.le_trans (Heap.le_trans (Heap.le_trans (Heap.le_trans (Heap.le_trans fc ed) ea) ee) ef) dx) dv) dy) dz) df) db) c5) dc) dd) ct) cz) c0) cg) b1) b2) bn) bm) bj) bi) bg) bf) be) ba) a9)
    replace cd := cd.mono (Heap.le_trans (Heap.le_trans (Heap.le_trans (Heap.le_trans (Heap.le_trans (Heap.le_trans (Heap.le_trans (Heap.le_trans (Heap.le_trans (Heap.le_trans (Heap.le_trans (Heap.le_trans (Heap.le_trans (Heap.le_trans (Heap.le_trans (Heap.le_trans (Heap.le_trans (Heap.le_trans (Heap.le_trans (Heap.le_trans (Heap.le_trans (Heap.le_trans (Heap.le_trans (Heap.le_trans (Heap.le_trans (Heap.le_trans (Heap.le_trans (Heap.le_trans fc ed) ea) ee) ef) dx) dv) dy) dz) df) db) c5) dc) dd) ct) cz) c0) cg) b1) b2) bn) bm) bj) bi) bg) bf) be) ba) a9)
    replace ce := ce.mono (Heap.le_trans (Heap.le_trans (Heap.le_trans (Heap.le_trans (Heap.le_trans (Heap.le_trans (Heap.le_trans (Heap.le_trans (Heap.le_trans (Heap.le_trans (Heap.le_trans (Heap.le_trans (Heap.le_trans (Heap.le_trans (Heap.le_trans (Heap.le_trans (Heap.le_trans (Heap.le_trans (Heap.le_trans (Heap.le_trans (Heap.le_trans (Heap.le_trans (Heap.le_trans (Heap.le_trans (Heap.le_trans (Heap.le_trans (Heap.le_trans (Heap.le_trans fc ed) ea) ee) ef) dx) dv) dy) dz) df) db) c5) dc) dd) ct) cz) c0) cg) b1) b2) bn) bm) bj) bi) bg) bf) be) ba) a9)
    replace cf := cf.mono (Heap.le_trans (Heap.le_trans (Heap.le_trans (Heap.le_trans (Heap.le_trans (Heap.le_trans (Heap.le_trans (Heap.le_trans (Heap.le_trans (Heap.le_trans (Heap.le_trans (Heap.le_trans (Heap.le_trans (Heap.le_trans (Heap.le_trans (Heap.le_trans (Heap.le_trans (Heap.le_trans (Heap.le_trans (Heap.le_trans (Heap.le_trans (Heap.le_trans (Heap.le_trans (Heap.le_trans (Heap.le_trans (Heap.le_trans (Heap.le_trans (Heap.le_trans fc ed) ea) ee) ef) dx) dv) dy) dz) df) db) c5) dc) dd) ct) cz) c0) cg) b1) b2) bn) bm) bj) bi) bg) bf) be) ba) a9)
    replace b8 := b8.mono (Heap.le_trans (Heap.le_trans (Heap.le_trans (Heap.le_trans (Heap.le_trans (Heap.le_trans (Heap.le_trans (Heap.le_trans (Heap.le_trans (Heap.le_trans (Heap.le_trans (Heap.le_trans (Heap.le_trans (Heap.le_trans (Heap.le_trans (Heap.le_trans (Heap.le_trans (Heap.le_trans (Heap.le_trans (Heap.le_trans (Heap.le_trans (Heap.le_trans (Heap.le_trans (Heap.le_trans (Heap.le_trans (Heap.le_trans (Heap.le_trans (Heap.le_trans fc ed) ea) ee) ef) dx) dv) dy) dz) df) db) c5) dc) dd) ct) cz) c0) cg) b1) b2) bn) bm) bj) bi) bg) bf) be) ba) a9)
    replace cb := cb.mono (Heap.le_trans (Heap.le_trans (Heap.le_trans (Heap.le_trans (Heap.le_trans (Heap.le_trans (Heap.le_trans (Heap.le_trans (Heap.le_trans (Heap.le_trans (Heap.le_trans (Heap.le_trans (Heap.le_trans (Heap.le_trans (Heap.le_trans (Heap.le_trans (Heap.le_trans (Heap.le_trans (Heap.le_trans (Heap.le_trans (Heap.le_trans (Heap.le_trans (Heap.le_trans (Heap.le_trans (Heap.le_trans (Heap.le_trans (Heap.le_trans (Heap.le_trans fc ed) ea) ee) ef) dx) dv) dy) dz) df) db) c5) dc) dd) ct) cz) c0) cg) b1) b2) bn) bm) bj) bi) bg) bf) be) ba) a9)
    replace b9 := b9.mono (Heap.le_trans (Heap.le_trans (Heap.le_trans (Heap.le_trans (Heap.le_trans (Heap.le_trans (Heap.le_trans (Heap.le_trans (Heap.le_trans (Heap.le_trans (Heap.le_trans (Heap.le_trans (Heap.le_trans (Heap.le_trans (Heap.le_trans (Heap.le_trans (Heap.le_trans (Heap.le_trans (Heap.le_trans (Heap.le_trans (Heap.le_trans (Heap.le_trans (Heap.le_trans (Heap.le_trans (Heap.le_trans (Heap.le_trans (Heap.le_trans (Heap.le_trans fc ed) ea) ee) ef) dx) dv) dy) dz) df) db) c5) dc) dd) ct) cz) c0) cg) b1) b2) bn) bm) bj) bi) bg) bf) be) ba) a9)
    replace ca := ca.mono (Heap.le_trans (Heap.le_trans (Heap.le_trans (Heap.le_trans (Heap.le_trans (Heap.le_trans (Heap.le_trans (Heap.le_trans (Heap.le_trans (Heap.le_trans (Heap.le_trans (Heap.le_trans (Heap.le_trans (Heap.le_trans (Heap.le_trans (Heap.le_trans (Heap.le_trans (Heap.le_trans (Heap.le_trans (Heap.le_trans (Heap.le_trans (Heap.le_trans (Heap.le_trans (Heap.le_trans (Heap.le_trans (Heap.le_trans (Heap.le_trans (Heap.le_trans fc ed) ea) ee) ef) dx) dv) dy) dz) df) db) c5) dc) dd) ct) cz) c0) cg) b1) b2) bn) bm) bj) bi) bg) bf) be) ba) a9)
    replace e3 := e3.mono (Heap.le_trans (Heap.le_trans (Heap.le_trans (Heap.le_trans (Heap.le_trans (Heap.le_trans (Heap.le_trans (Heap.le_trans (Heap.le_trans (Heap.le_trans (Heap.le_trans (Heap.le_trans (Heap.le_trans (Heap.le_trans (Heap.le_trans (Heap.le_trans (Heap.le_trans (Heap.le_trans (Heap.le_trans (Heap.le_trans (Heap.le_trans (Heap.le_trans (Heap.le_trans (Heap.le_trans (Heap.le_trans (Heap.le_trans ea ee) ef) dx) dv) dy) dz) df) db) c5) dc) dd) ct) cz) c0) cg) b1) b2) bn) bm) bj) bi) bg) bf) be) ba) a9)
    replace e4 := e4.mono (Heap.le_trans (Heap.le_trans (Heap.le_trans (Heap.le_trans (Heap.le_trans (Heap.le_trans (Heap.le_trans (Heap.le_trans (Heap.le_trans (Heap.le_trans (Heap.le_trans (Heap.le_trans (Heap.le_trans (Heap.le_trans (Heap.le_trans (Heap.le_trans (Heap.le_trans (Heap.le_trans (Heap.le_trans (Heap.le_trans (Heap.le_trans (Heap.le_trans (Heap.le_trans (Heap.le_trans (Heap.le_trans ee ef) dx) dv) dy) dz) df) db) c5) dc) dd) ct) cz) c0) cg) b1) b2) bn) bm) bj) bi) bg) bf) be) ba) a9)
    replace e5 := e5.mono (Heap.le_trans (Heap.le_trans (Heap.le_trans (Heap.le_trans (Heap.le_trans (Heap.le_trans (Heap.le_trans (Heap.le_trans (Heap.le_trans (Heap.le_trans (Heap.le_trans (Heap.le_trans (Heap.le_trans (Heap.le_trans (Heap.le_trans (Heap.le_trans (Heap.le_trans (Heap.le_trans (Heap.le_trans (Heap.le_trans (Heap.le_trans (Heap.le_trans dv dy) dz) df) db) c5) dc) dd) ct) cz) c0) cg) b1) b2) bn) bm) bj) bi) bg) bf) be) ba) a9)
    replace e6 := e6.mono (Heap.le_trans (Heap.le_trans (Heap.le_trans (Heap.le_trans (Heap.le_trans (Heap.le_trans (Heap.le_trans (Heap.le_trans (Heap.le_trans (Heap.le_trans (Heap.le_trans (Heap.le_trans (Heap.le_trans (Heap.le_trans (Heap.le_trans (Heap.le_trans (Heap.le_trans (Heap.le_trans (Heap.le_trans (Heap.le_trans (Heap.le_trans dy dz) df) db) c5) dc) dd) ct) cz) c0) cg) b1) b2) bn) bm) bj) bi) bg) bf) be) ba) a9)
    replace e7 := e7.mono (Heap.le_trans (Heap.le_trans (Heap.le_trans (Heap.le_trans (Heap.le_trans (Heap.le_trans (Heap.le_trans (Heap.le_trans (Heap.le_trans (Heap.le_trans (Heap.le_trans (Heap.le_trans (Heap.le_trans (Heap.le_trans (Heap.le_trans (Heap.le_trans (Heap.le_trans (Heap.le_trans db c5) dc) dd) ct) cz) c0) cg) b1) b2) bn) bm) bj) bi) bg) bf) be) ba) a9)
    replace e8 := e8.mono (Heap.le_trans (Heap.le_trans (Heap.le_trans (Heap.le_trans (Heap.le_trans (Heap.le_trans (Heap.le_trans (Heap.le_trans (Heap.le_trans (Heap.le_trans (Heap.le_trans (Heap.le_trans (Heap.le_trans (Heap.le_trans (Heap.le_trans (Heap.le_trans (Heap.le_trans c5 dc) dd) ct) cz) c0) cg) b1) b2) bn) bm) bj) bi) bg) bf) be) ba) a9)
    replace e9 := e9.mono (Heap.le_trans (Heap.le_trans (Heap.le_trans (Heap.le_trans (Heap.le_trans (Heap.le_trans (Heap.le_trans (Heap.le_trans (Heap.le_trans (Heap.le_trans (Heap.le_trans (Heap.le_trans (Heap.le_trans (Heap.le_trans (Heap.le_trans (Heap.le_trans dc dd) ct) cz) c0) cg) b1) b2) bn) bm) bj) bi) bg) bf) be) ba) a9)
    replace fa := fa.mono (Heap.le_trans (Heap.le_trans (Heap.le_trans (Heap.le_trans (Heap.le_trans (Heap.le_trans (Heap.le_trans (Heap.le_trans (Heap.le_trans (Heap.le_trans (Heap.le_trans (Heap.le_trans (Heap.le_trans cz c0) cg) b1) b2) bn) bm) bj) bi) bg) bf) be) ba) a9)
    replace et := et.mono (Heap.le_trans (Heap.le_trans (Heap.le_trans (Heap.le_trans (Heap.le_trans (Heap.le_trans (Heap.le_trans (Heap.le_trans (Heap.le_trans (Heap.le_trans b1 b2) bn) bm) bj) bi) bg) bf) be) ba) a9)
    replace eu := eu.mono (Heap.le_trans (Heap.le_trans (Heap.le_trans (Heap.le_trans (Heap.le_trans (Heap.le_trans (Heap.le_trans bm bj) bi) bg) bf) be) ba) a9)
    replace ev := ev.mono (Heap.le_trans (Heap.le_trans (Heap.le_trans (Heap.le_trans (Heap.le_trans (Heap.le_trans bj bi) bg) bf) be) ba) a9)
    replace ew := ew.mono (Heap.le_trans (Heap.le_trans (Heap.le_trans (Heap.le_trans (Heap.le_trans bi bg) bf) be) ba) a9)
    replace ex := ex.mono (Heap.le_trans (Heap.le_trans be ba) a9)
    replace ez := ez.mono (Heap.le_trans ba a9)
    replace ey := ey.mono (Heap.le_trans ba a9)
    replace e0 := e0.mono (Heap.le_trans ba a9)
    replace ep := ep.mono (Heap.le_trans ba a9)
    replace e1 := e1.mono a9
    obtain ⟨_, _, _, rfl, ⟨a5, a6, rfl, hw⟩, rfl, rfl⟩ := vq
    refine ⟨.tup [.c (.slice a5 x213.1.length a6), .c (.int .i64 x213.2.1), .c (.int .i64 x213.2.2)], rfl, fun ag2 (yt : Kn 280 (K13e27 a q y aj al am aw a8) ((213, .tup [.c (.slice a5 x213.1.length a6), .c (.int .i64 x213.2.1), .c (.int .i64 x213.2.2)]) :: (tA 212 [.slice f8 1 1, .slice none 0 0, .int .i64 0]) :: (tP 22 5 0) :: (tP 21 4 0) :: (tP 20 3 0) :: (K13m32 x194 bb bc x183 x173 x167 x159 x152)) ag2) => hK _ _ ?_⟩
    refine Rk 3 7 ((tI 25 x213.2.2) :: (tI 24 x213.2.1) :: (tS 23 a5 x213.1.length a6) :: (tP 22 5 0) :: (tP 21 4 0) :: (tP 20 3 0) :: (K13m32 x194 bb bc x183 x173 x167 x159 x152)) yt d7 fun alb yu => ?_
    refine wf (wp_seq (wp_region_from (Rk 0 3 [(tB 219 (x152.2 == 2)), (tI 25 x213.2.2), (tI 24 x213.2.1), (tS 23 a5 x213.1.length a6), (tP 22 5 0), (tP 21 4 0), (tP 20 3 0), (tI 19 x194.2), (tS 18 bb x194.1.length bc), (tI 16 x183.2.2), (tI 12 x173.2.2.2), (tI 8 x167.2), (tI 4 x159.2)] yu d7 fun uc q2 => ?_)))
    rcases Bool.eq_false_or_eq_true ((x152.2 == 2)) with jk | jk
    ·
     rw [jk, cond_true] at H
     have yv : Kn 280 (K13e27 a q y aj al am aw a8) [(tB 219 true), (tI 25 x213.2.2), (tI 24 x213.2.1), (tS 23 a5 x213.1.length a6), (tP 22 5 0), (tP 21 4 0), (tP 20 3 0), (tI 19 x194.2), (tS 18 bb x194.1.length bc), (tI 16 x183.2.2), (tI 12 x173.2.2.2), (tI 8 x167.2), (tI 4 x159.2)] uc := (q2.setB 219 true (by rfl) jk).kp
     refine Rk 3 4 [(tB 223 (x159.2 == 2)), (tI 25 x213.2.2), (tI 24 x213.2.1), (tS 23 a5 x213.1.length a6), (tP 22 5 0), (tP 21 4 0), (tP 20 3 0), (tI 19 x194.2), (tS 18 bb x194.1.length bc), (tI 16 x183.2.2), (tI 12 x173.2.2.2), (tI 8 x167.2)] yv d7 fun ud q3 => ?_
     rcases Bool.eq_false_or_eq_true ((x159.2 == 2)) with jl | jl
     ·
      rw [jl, cond_true] at H
      have yw : Kn 280 (K13e27 a q y aj al am aw a8) [(tB 223 true), (tI 25 x213.2.2), (tI 24 x213.2.1), (tS 23 a5 x213.1.length a6), (tP 22 5 0), (tP 21 4 0), (tP 20 3 0), (tI 19 x194.2), (tS 18 bb x194.1.length bc), (tI 16 x183.2.2), (tI 12 x173.2.2.2), (tI 8 x167.2)] ud := (q3.setB 223 true (by rfl) jl).kp
      refine Rk 7 4 [(tB 227 (x167.2 == 2)), (tI 25 x213.2.2), (tI 24 x213.2.1), (tS 23 a5 x213.1.length a6), (tP 22 5 0), (tP 21 4 0), (tP 20 3 0), (tI 19 x194.2), (tS 18 bb x194.1.length bc), (tI 16 x183.2.2), (tI 12 x173.2.2.2)] yw d7 fun ue q4 => ?_
      rcases Bool.eq_false_or_eq_true ((x167.2 == 2)) with jm | jm
      ·
       rw [jm, cond_true] at H
       have yx : Kn 280 (K13e27 a q y aj al am aw a8) [(tB 227 true), (tI 25 x213.2.2), (tI 24 x213.2.1), (tS 23 a5 x213.1.length a6), (tP 22 5 0), (tP 21 4 0), (tP 20 3 0), (tI 19 x194.2), (tS 18 bb x194.1.length bc), (tI 16 x183.2.2), (tI 12 x173.2.2.2)] ue := (q4.setB 227 true (by rfl) jm).kp
       refine Rk 11 4 [(tB 231 (x173.2.2.2 == 2)), (tI 25 x213.2.2), (tI 24 x213.2.1), (tS 23 a5 x213.1.length a6), (tP 22 5 0), (tP 21 4 0), (tP 20 3 0), (tI 19 x194.2), (tS 18 bb x194.1.length bc), (tI 16 x183.2.2)] yx d7 fun uf q5 => ?_
       rcases Bool.eq_false_or_eq_true ((x173.2.2.2 == 2)) with jn | jn
       ·
        rw [jn, cond_true] at H
        have yy : Kn 280 (K13e27 a q y aj al am aw a8) [(tB 231 true), (tI 25 x213.2.2), (tI 24 x213.2.1), (tS 23 a5 x213.1.length a6), (tP 22 5 0), (tP 21 4 0), (tP 20 3 0), (tI 19 x194.2), (tS 18 bb x194.1.length bc), (tI 16 x183.2.2)] uf := (q5.setB 231 true (by rfl) jn).kp
        refine Rk 15 4 [(tB 235 (x183.2.2 == 9)), (tI 25 x213.2.2), (tI 24 x213.2.1), (tS 23 a5 x213.1.length a6), (tP 22 5 0), (tP 21 4 0), (tP 20 3 0), (tI 19 x194.2), (tS 18 bb x194.1.length bc)] yy d7 fun ug q6 => ?_
        rcases Bool.eq_false_or_eq_true ((x183.2.2 == 9)) with jo | jo
        ·
         rw [jo, cond_true] at H
         have yz : Kn 280 (K13e27 a q y aj al am aw a8) [(tB 235 true), (tI 25 x213.2.2), (tI 24 x213.2.1), (tS 23 a5 x213.1.length a6), (tP 22 5 0), (tP 21 4 0), (tP 20 3 0), (tI 19 x194.2), (tS 18 bb x194.1.length bc)] ug := (q6.setB 235 true (by rfl) jo).kp
         refine Rk 19 4 [(tB 239 (x194.2 == 0)), (tI 25 x213.2.2), (tI 24 x213.2.1), (tS 23 a5 x213.1.length a6), (tP 22 5 0), (tP 21 4 0), (tP 20 3 0), (tS 18 bb x194.1.length bc)] yz d7 fun uh q7 => ?_
         rcases Bool.eq_false_or_eq_true ((x194.2 == 0)) with jp | jp
         ·
          rw [jp, cond_true] at H
          have y0 : Kn 280 (K13e27 a q y aj al am aw a8) [(tB 239 true), (tI 25 x213.2.2), (tI 24 x213.2.1), (tS 23 a5 x213.1.length a6), (tP 22 5 0), (tP 21 4 0), (tP 20 3 0), (tS 18 bb x194.1.length bc)] uh := (q7.setB 239 true (by rfl) jp).kp
          refine Rk 23 1 [(tS 240 bb x194.1.length bc), (tB 239 true), (tI 25 x213.2.2), (tI 24 x213.2.1), (tS 23 a5 x213.1.length a6), (tP 22 5 0), (tP 21 4 0), (tP 20 3 0)] y0 d7 fun alc q8 => ?_
          refine wpFrom_loud _ rfl (wantedS_sound q8 (by kernel_rfl)) fun K hK => ?_
          refine wS 3 1 [.int .i64 1, .int .i64 2] q8 d7 fun gn ag3 aja (q9 : Kn 280 (K13e27 a q y aj al am aw a8) [(tS 241 gn 2 2), (tS 240 bb x194.1.length bc), (tB 239 true), (tI 25 x213.2.2), (tI 24 x213.2.1), (tS 23 a5 x213.1.length a6), (tP 22 5 0), (tP 21 4 0), (tP 20 3 0)] ag3) s5 => ?_
          have ft : Cells m7 ([1, 2] : List Int) ([.int .i64 1, .int .i64 2] : List Value) := ⟨_, _, rfl, (rep_int : rep m7 (1 : Int) _), ⟨_, _, rfl, (rep_int : rep m7 (2 : Int) _), rfl⟩⟩
          refine hK _ _ ?_
          obtain ⟨qj, a2, afb, ln⟩ := s5.settle (i := 26) rfl
          replace kk := kk.mono a2
          replace ft := ft.mono a2
          replace ln : Mem ⟨w, h, noX⟩ qj (K13e27 a q y aj al am aw a8) [⟨(K13c9 g x52 l d x48 f), some 33⟩, ⟨(K13c7 bh c9 x178 da), some 33⟩, ⟨(K13c12 cu x187 cw cv cx), some 33⟩, ⟨(K13c26 c7 x200 dh x197 dk), some 33⟩, ⟨(K13c20 bo x198 bq bk dg bl), some 33⟩, ⟨(K13c21 bs x199 bt bp ds br), some 33⟩, ⟨[], none⟩, ⟨[], none⟩] [⟨aq, 4, 4, 3, 1, ([.int .i64 0, .int .i64 0, .int .i64 1, .int .i64 1] : List Value), (([.int .i64 0, .int .i64 0, .int .i64 1, .int .i64 1] : List Value) : List Value).length⟩, ⟨av, 4, 4, 3, 1, ([.int .i64 1, .int .i64 0, .int .i64 2, .int .i64 3] : List Value), (([.int .i64 1, .int .i64 0, .int .i64 2, .int .i64 3] : List Value) : List Value).length⟩, ⟨ay, 4, 4, 3, 1, ([.int .i64 0, .int .i64 0, .int .i64 1, .int .i64 1] : List Value), (([.int .i64 0, .int .i64 0, .int .i64 1, .int .i64 1] : List Value) : List Value).length⟩, ⟨a1, 4, 4, 3, 1, ([.int .i64 0, .int .i64 1, .int .i64 2, .int .i64 3] : List Value), (([.int .i64 0, .int .i64 1, .int .i64 2, .int .i64 3] : List Value) : List Value).length⟩, ⟨a7, 4, 4, 3, 1, ([.int .i64 0, .int .i64 0, .int .i64 1, .int .i64 1] : List Value), (([.int .i64 0, .int .i64 0, .int .i64 1, .int .i64 1] : List Value) : List Value).length⟩, ⟨g, x52.length, l, 3, 1, (m ++ ([.int .i64 2] : List Value)), ((m ++ ([.int .i64 2] : List Value)) : List Value).length⟩, ⟨d, x48.buses.length, f, 70, 3, p, (p : List Value).length⟩, ⟨bd, 1, 1, 3, 1, ([.int .i64 2] : List Value), 0⟩, ⟨c8, 4, 4, 3, 1, ([.int .i64 0, .int .i64 0, .int .i64 0, .int .i64 1] : List Value), (([.int .i64 0, .int .i64 0, .int .i64 0, .int .i64 1] : List Value) : List Value).length⟩, ⟨de, 4, 4, 3, 1, ([.int .i64 0, .int .i64 1, .int .i64 2, .int .i64 3] : List Value), (([.int .i64 0, .int .i64 1, .int .i64 2, .int .i64 3] : List Value) : List Value).length⟩, ⟨dj, 4, 4, 3, 1, ([.int .i64 0, .int .i64 0, .int .i64 1, .int .i64 1] : List Value), (([.int .i64 0, .int .i64 0, .int .i64 1, .int .i64 1] : List Value) : List Value).length⟩, ⟨dp, 4, 4, 3, 1, ([.int .i64 2, .int .i64 0, .int .i64 1, .int .i64 3] : List Value), (([.int .i64 2, .int .i64 0, .int .i64 1, .int .i64 3] : List Value) : List Value).length⟩, ⟨dq, 4, 4, 3, 1, ([.int .i64 0, .int .i64 0, .int .i64 1, .int .i64 1] : List Value), (([.int .i64 0, .int .i64 0, .int .i64 1, .int .i64 1] : List Value) : List Value).length⟩, ⟨dt, 4, 4, 3, 1, ([.int .i64 0, .int .i64 1, .int .i64 2, .int .i64 3] : List Value), (([.int .i64 0, .int .i64 1, .int .i64 2, .int .i64 3] : List Value) : List Value).length⟩, ⟨du, 1, 1, 3, 1, ([.int .i64 0] : List Value), (([.int .i64 0] : List Value) : List Value).length⟩, ⟨d4, 4, 4, 3, 1, ([.int .i64 0, .int .i64 0, .int .i64 1, .int .i64 2] : List Value), (([.int .i64 0, .int .i64 0, .int .i64 1, .int .i64 2] : List Value) : List Value).length⟩, ⟨bh, 2, 2, 3, 1, ([.int .i64 2, .int .i64 1] : List Value), (([.int .i64 2, .int .i64 1] : List Value) : List Value).length⟩, ⟨d1, 4, 4, 3, 1, ([.int .i64 0, .int .i64 0, .int .i64 1, .int .i64 1] : List Value), (([.int .i64 0, .int .i64 0, .int .i64 1, .int .i64 1] : List Value) : List Value).length⟩, ⟨d8, 4, 4, 3, 1, ([.int .i64 1, .int .i64 0, .int .i64 2, .int .i64 3] : List Value), (([.int .i64 1, .int .i64 0, .int .i64 2, .int .i64 3] : List Value) : List Value).length⟩, ⟨eb, 1, 1, 3, 1, ([.int .i64 1] : List Value), (([.int .i64 1] : List Value) : List Value).length⟩, ⟨bo, x198.room.length, bq, 3, 1, es, 0⟩, ⟨bk, dg.length, bl, 70, 3, (c6.take (0 + (1 : Int).toNat * 3 + 2) ++ ([.int .i64 40] : List Value) ++ c6.drop (0 + (1 : Int).toNat * 3 + 2 + 1)), 0⟩, ⟨bs, x199.room.length, bt, 3, 1, f6, 0⟩, ⟨bp, ds.length, br, 70, 3, (dw.take (0 + (0 : Int).toNat * 3 + 0) ++ ([.int .i64 121] : List Value) ++ dw.drop (0 + (0 : Int).toNat * 3 + 0 + 1)), 0⟩, ⟨c7, x200.length, x200.length, 3, 1, (List.flatten (List.replicate x200.length ([.int .i64 0] : List Value))), 0⟩, ⟨f8, 1, 1, 3, 1, ([.int .i64 0] : List Value), (([.int .i64 0] : List Value) : List Value).length⟩, ⟨gn, 2, 2, 3, 1, ([.int .i64 1, .int .i64 2] : List Value), (([.int .i64 1, .int .i64 2] : List Value) : List Value).length⟩] aja := ln
          have gj : RepS qj gn 2 ([1, 2] : List Int) := ⟨_, ft, afb, s5.rowCap (i := 26) rfl⟩
          obtain ⟨x242, ex242, H⟩ := bnd H
          refine wpFrom_loud _ rfl (wantedS_sound q9 (by kernel_rfl)) fun K hK => ?_
          refine wc [.c (.slice bb x194.1.length bc), .c (.slice gn 2 2)] q9 ln (law_ints_ok n ln.has x194.1 kk ([1, 2] : List Int) gj ex242) fun am4 aj0 ajb vs a3 ir => ?_
          replace cl := cl.mono (Heap.le_trans a2 a3)
          replace c3 := c3.mono (Heap.le_trans a2 a3)
          replace cm := cm.mono (Heap.le_trans a2 a3)
          replace c4 := c4.mono (Heap.le_trans a2 a3)
          replace c1 := c1.mono (Heap.le_trans a2 a3)
          replace ck := ck.mono (Heap.le_trans a2 a3)
          replace c2 := c2.mono (Heap.le_trans a2 a3)
          replace fk := fk.mono (Heap.le_trans a2 a3)
          replace f2 := f2.mono (Heap.le_trans a2 a3)
          replace fl := fl.mono (Heap.le_trans a2 a3)
          replace f3 := f3.mono (Heap.le_trans a2 a3)
          replace fm := fm.mono (Heap.le_trans a2 a3)
          replace fn := fn.mono (Heap.le_trans a2 a3)
          replace f4 := f4.mono (Heap.le_trans a2 a3)
          replace f5 := f5.mono (Heap.le_trans a2 a3)
          replace fo := fo.mono (Heap.le_trans a2 a3)
          replace fx := fx.mono (Heap.le_trans a2 a3)
          replace fd := fd.mono (Heap.le_trans a2 a3)
          replace fe := fe.mono (Heap.le_trans a2 a3)
          replace ff := ff.mono (Heap.le_trans a2 a3)
          replace fg := fg.mono (Heap.le_trans a2 a3)
          replace fy := fy.mono (Heap.le_trans a2 a3)
          replace fh := fh.mono (Heap.le_trans a2 a3)
          replace fz := fz.mono (Heap.le_trans a2 a3)
          replace hw := hw.mono (Heap.le_trans a2 a3)
          replace gj := gj.mono a3
          replace cc := cc.mono (Heap.le_trans a2 a3)
          replace cd := cd.mono (Heap.le_trans a2 a3)
          replace ce := ce.mono (Heap.le_trans a2 a3)
          replace cf := cf.mono (Heap.le_trans a2 a3)
          replace b8 := b8.mono (Heap.le_trans a2 a3)
          replace cb := cb.mono (Heap.le_trans a2 a3)
          replace b9 := b9.mono (Heap.le_trans a2 a3)
          replace ca := ca.mono (Heap.le_trans a2 a3)
          replace e3 := e3.mono (Heap.le_trans a2 a3)
          replace e4 := e4.mono (Heap.le_trans a2 a3)
          replace e5 := e5.mono (Heap.le_trans a2 a3)
          replace e6 := e6.mono (Heap.le_trans a2 a3)
          replace e7 := e7.mono (Heap.le_trans a2 a3)
          replace e8 := e8.mono (Heap.le_trans a2 a3)
          replace e9 := e9.mono (Heap.le_trans a2 a3)
          replace fa := fa.mono (Heap.le_trans a2 a3)
          replace et := et.mono (Heap.le_trans a2 a3)
          replace eu := eu.mono (Heap.le_trans a2 a3)
          replace ev := ev.mono (Heap.le_trans a2 a3)
          replace ew := ew.mono (Heap.le_trans a2 a3)
          replace ex := ex.mono (Heap.le_trans a2 a3)
          replace ez := ez.mono (Heap.le_trans a2 a3)
          replace ey := ey.mono (Heap.le_trans a2 a3)
          replace e0 := e0.mono (Heap.le_trans a2 a3)
          replace ep := ep.mono (Heap.le_trans a2 a3)
          replace e1 := e1.mono (Heap.le_trans a2 a3)
          replace ft := ft.mono a3
          obtain rfl := vs
          refine ⟨.one (.c (.bool x242)), rfl, fun ag4 (y1 : Kn 280 (K13e27 a q y aj al am aw a8) [(tB 242 x242), (tS 241 gn 2 2), (tS 240 bb x194.1.length bc), (tB 239 true), (tI 25 x213.2.2), (tI 24 x213.2.1), (tS 23 a5 x213.1.length a6), (tP 22 5 0), (tP 21 4 0), (tP 20 3 0)] ag4) => hK _ _ ?_⟩
          refine Rk 26 2 [(tB 244 x242), (tI 25 x213.2.2), (tI 24 x213.2.1), (tS 23 a5 x213.1.length a6), (tP 22 5 0), (tP 21 4 0), (tP 20 3 0)] y1 ir fun ui ra => ?_
          rcases Bool.eq_false_or_eq_true (x242) with jq | jq
          ·
           rw [cond_t jq] at H
           have y2 : Kn 280 (K13e27 a q y aj al am aw a8) [(tB 244 true), (tI 25 x213.2.2), (tI 24 x213.2.1), (tS 23 a5 x213.1.length a6), (tP 22 5 0), (tP 21 4 0), (tP 20 3 0)] ui := (ra.setB 244 true (by rfl) jq).kp
           refine Rk 28 1 [(tA 245 (K13c26 c7 x200 dh x197 dk)), (tB 244 true), (tI 25 x213.2.2), (tI 24 x213.2.1), (tS 23 a5 x213.1.length a6), (tP 22 5 0), (tP 21 4 0)] y2 ir fun ald rb => ?_
           obtain ⟨m8, a4, afc, lp⟩ := ir.settle (i := 24) rfl
           replace fh := fh.mono a4
           replace ep := ep.mono a4
           replace lp : Mem ⟨w, h, noX⟩ m8 (K13e27 a q y aj al am aw a8) [⟨(K13c9 g x52 l d x48 f), some 33⟩, ⟨(K13c7 bh c9 x178 da), some 33⟩, ⟨(K13c12 cu x187 cw cv cx), some 33⟩, ⟨(K13c26 c7 x200 dh x197 dk), some 33⟩, ⟨(K13c20 bo x198 bq bk dg bl), some 33⟩, ⟨(K13c21 bs x199 bt bp ds br), some 33⟩, ⟨[], none⟩, ⟨[], none⟩] [⟨aq, 4, 4, 3, 1, ([.int .i64 0, .int .i64 0, .int .i64 1, .int .i64 1] : List Value), (([.int .i64 0, .int .i64 0, .int .i64 1, .int .i64 1] : List Value) : List Value).length⟩, ⟨av, 4, 4, 3, 1, ([.int .i64 1, .int .i64 0, .int .i64 2, .int .i64 3] : List Value), (([.int .i64 1, .int .i64 0, .int .i64 2, .int .i64 3] : List Value) : List Value).length⟩, ⟨ay, 4, 4, 3, 1, ([.int .i64 0, .int .i64 0, .int .i64 1, .int .i64 1] : List Value), (([.int .i64 0, .int .i64 0, .int .i64 1, .int .i64 1] : List Value) : List Value).length⟩, ⟨a1, 4, 4, 3, 1, ([.int .i64 0, .int .i64 1, .int .i64 2, .int .i64 3] : List Value), (([.int .i64 0, .int .i64 1, .int .i64 2, .int .i64 3] : List Value) : List Value).length⟩, ⟨a7, 4, 4, 3, 1, ([.int .i64 0, .int .i64 0, .int .i64 1, .int .i64 1] : List Value), (([.int .i64 0, .int .i64 0, .int .i64 1, .int .i64 1] : List Value) : List Value).length⟩, ⟨g, x52.length, l, 3, 1, (m ++ ([.int .i64 2] : List Value)), ((m ++ ([.int .i64 2] : List Value)) : List Value).length⟩, ⟨d, x48.buses.length, f, 70, 3, p, (p : List Value).length⟩, ⟨bd, 1, 1, 3, 1, ([.int .i64 2] : List Value), 0⟩, ⟨c8, 4, 4, 3, 1, ([.int .i64 0, .int .i64 0, .int .i64 0, .int .i64 1] : List Value), (([.int .i64 0, .int .i64 0, .int .i64 0, .int .i64 1] : List Value) : List Value).length⟩, ⟨de, 4, 4, 3, 1, ([.int .i64 0, .int .i64 1, .int .i64 2, .int .i64 3] : List Value), (([.int .i64 0, .int .i64 1, .int .i64 2, .int .i64 3] : List Value) : List Value).length⟩, ⟨dj, 4, 4, 3, 1, ([.int .i64 0, .int .i64 0, .int .i64 1, .int .i64 1] : List Value), (([.int .i64 0, .int .i64 0, .int .i64 1, .int .i64 1] : List Value) : List Value).length⟩, ⟨dp, 4, 4, 3, 1, ([.int .i64 2, .int .i64 0, .int .i64 1, .int .i64 3] : List Value), (([.int .i64 2, .int .i64 0, .int .i64 1, .int .i64 3] : List Value) : List Value).length⟩, ⟨dq, 4, 4, 3, 1, ([.int .i64 0, .int .i64 0, .int .i64 1, .int .i64 1] : List Value), (([.int .i64 0, .int .i64 0, .int .i64 1, .int .i64 1] : List Value) : List Value).length⟩, ⟨dt, 4, 4, 3, 1, ([.int .i64 0, .int .i64 1, .int .i64 2, .int .i64 3] : List Value), (([.int .i64 0, .int .i64 1, .int .i64 2, .int .i64 3] : List Value) : List Value).length⟩, ⟨du, 1, 1, 3, 1, ([.int .i64 0] : List Value), (([.int .i64 0] : List Value) : List Value).length⟩, ⟨d4, 4, 4, 3, 1, ([.int .i64 0, .int .i64 0, .int .i64 1, .int .i64 2] : List Value), (([.int .i64 0, .int .i64 0, .int .i64 1, .int .i64 2] : List Value) : List Value).length⟩, ⟨bh, 2, 2, 3, 1, ([.int .i64 2, .int .i64 1] : List Value), (([.int .i64 2, .int .i64 1] : List Value) : List Value).length⟩, ⟨d1, 4, 4, 3, 1, ([.int .i64 0, .int .i64 0, .int .i64 1, .int .i64 1] : List Value), (([.int .i64 0, .int .i64 0, .int .i64 1, .int .i64 1] : List Value) : List Value).length⟩, ⟨d8, 4, 4, 3, 1, ([.int .i64 1, .int .i64 0, .int .i64 2, .int .i64 3] : List Value), (([.int .i64 1, .int .i64 0, .int .i64 2, .int .i64 3] : List Value) : List Value).length⟩, ⟨eb, 1, 1, 3, 1, ([.int .i64 1] : List Value), (([.int .i64 1] : List Value) : List Value).length⟩, ⟨bo, x198.room.length, bq, 3, 1, es, 0⟩, ⟨bk, dg.length, bl, 70, 3, (c6.take (0 + (1 : Int).toNat * 3 + 2) ++ ([.int .i64 40] : List Value) ++ c6.drop (0 + (1 : Int).toNat * 3 + 2 + 1)), 0⟩, ⟨bs, x199.room.length, bt, 3, 1, f6, 0⟩, ⟨bp, ds.length, br, 70, 3, (dw.take (0 + (0 : Int).toNat * 3 + 0) ++ ([.int .i64 121] : List Value) ++ dw.drop (0 + (0 : Int).toNat * 3 + 0 + 1)), 0⟩, ⟨c7, x200.length, x200.length, 3, 1, (List.flatten (List.replicate x200.length ([.int .i64 0] : List Value))), ((List.flatten (List.replicate x200.length ([.int .i64 0] : List Value))) : List Value).length⟩, ⟨f8, 1, 1, 3, 1, ([.int .i64 0] : List Value), (([.int .i64 0] : List Value) : List Value).length⟩, ⟨gn, 2, 2, 3, 1, ([.int .i64 1, .int .i64 2] : List Value), (([.int .i64 1, .int .i64 2] : List Value) : List Value).length⟩] ajb := lp
           have g4 : RepS m8 c7 x200.length x200 := ⟨_, ep, afc, ir.rowCap (i := 24) rfl⟩
           obtain ⟨x246, ex246, H⟩ := bnd H
           refine wpFrom_loud _ rfl (wantedS_sound rb (by kernel_rfl)) fun K hK => ?_
           refine wc [.agg (K13c26 c7 x200 dh x197 dk)] rb lp (lane_CheckYard_ok n lp.has (Yard.mk x200 x197.buses x197.broken) ((rep_pair (rep_slice g4) (rep_pair (rep_slice fh) rep_int)) : rep m8 (Yard.mk x200 x197.buses x197.broken) _) ex246) fun am5 aj1 u9 vt az iu => ?_
           replace cl := cl.mono (Heap.le_trans a4 az)
           replace c3 := c3.mono (Heap.le_trans a4 az)
           replace cm := cm.mono (Heap.le_trans a4 az)
           replace c4 := c4.mono (Heap.le_trans a4 az)
           replace c1 := c1.mono (Heap.le_trans a4 az)
           replace ck := ck.mono (Heap.le_trans a4 az)
           replace c2 := c2.mono (Heap.le_trans a4 az)
           replace fk := fk.mono (Heap.le_trans a4 az)
           replace f2 := f2.mono (Heap.le_trans a4 az)
           replace fl := fl.mono (Heap.le_trans a4 az)
           replace f3 := f3.mono (Heap.le_trans a4 az)
           replace fm := fm.mono (Heap.le_trans a4 az)
           replace fn := fn.mono (Heap.le_trans a4 az)
           replace f4 := f4.mono (Heap.le_trans a4 az)
           replace f5 := f5.mono (Heap.le_trans a4 az)
           replace fo := fo.mono (Heap.le_trans a4 az)
           replace fx := fx.mono (Heap.le_trans a4 az)
           replace fd := fd.mono (Heap.le_trans a4 az)
           replace fe := fe.mono (Heap.le_trans a4 az)
           replace ff := ff.mono (Heap.le_trans a4 az)
           replace fg := fg.mono (Heap.le_trans a4 az)
           replace fy := fy.mono (Heap.le_trans a4 az)
           replace fh := fh.mono az
           replace fz := fz.mono (Heap.le_trans a4 az)
           replace hw := hw.mono (Heap.le_trans a4 az)
           replace gj := gj.mono (Heap.le_trans a4 az)
           replace g4 := g4.mono az
           replace cc := cc.mono (Heap.le_trans a4 az)
           replace cd := cd.mono (Heap.le_trans a4 az)
           replace ce := ce.mono (Heap.le_trans a4 az)
           replace cf := cf.mono (Heap.le_trans a4 az)
           replace b8 := b8.mono (Heap.le_trans a4 az)
           replace cb := cb.mono (Heap.le_trans a4 az)
           replace b9 := b9.mono (Heap.le_trans a4 az)
           replace ca := ca.mono (Heap.le_trans a4 az)
           replace e3 := e3.mono (Heap.le_trans a4 az)
           replace e4 := e4.mono (Heap.le_trans a4 az)
           replace e5 := e5.mono (Heap.le_trans a4 az)
           replace e6 := e6.mono (Heap.le_trans a4 az)
           replace e7 := e7.mono (Heap.le_trans a4 az)
           replace e8 := e8.mono (Heap.le_trans a4 az)
           replace e9 := e9.mono (Heap.le_trans a4 az)
           replace fa := fa.mono (Heap.le_trans a4 az)
           replace et := et.mono (Heap.le_trans a4 az)
           replace eu := eu.mono (Heap.le_trans a4 az)
           replace ev := ev.mono (Heap.le_trans a4 az)
           replace ew := ew.mono (Heap.le_trans a4 az)
           replace ex := ex.mono (Heap.le_trans a4 az)
           replace ez := ez.mono (Heap.le_trans a4 az)
           replace ey := ey.mono (Heap.le_trans a4 az)
           replace e0 := e0.mono (Heap.le_trans a4 az)
           replace ep := ep.mono az
           replace e1 := e1.mono (Heap.le_trans a4 az)
           replace ft := ft.mono (Heap.le_trans a4 az)
           obtain rfl := vt
           refine ⟨.one (.c (.int .i64 x246)), rfl, fun ag5 (y3 : Kn 280 (K13e27 a q y aj al am aw a8) [(tI 246 x246), (tA 245 (K13c26 c7 x200 dh x197 dk)), (tB 244 true), (tI 25 x213.2.2), (tI 24 x213.2.1), (tS 23 a5 x213.1.length a6), (tP 22 5 0), (tP 21 4 0)] ag5) => hK _ _ ?_⟩
           refine Rk 30 3 [(tB 249 (x246 == 3)), (tI 25 x213.2.2), (tI 24 x213.2.1), (tS 23 a5 x213.1.length a6), (tP 22 5 0), (tP 21 4 0)] y3 iu fun uj rc => ?_
           rcases Bool.eq_false_or_eq_true ((x246 == 3)) with jr | jr
           ·
            rw [jr, cond_true] at H
            have y4 : Kn 280 (K13e27 a q y aj al am aw a8) [(tB 249 true), (tI 25 x213.2.2), (tI 24 x213.2.1), (tS 23 a5 x213.1.length a6), (tP 22 5 0), (tP 21 4 0)] uj := (rc.setB 249 true (by rfl) jr).kp
            refine Rk 33 1 [(tA 250 (K13c20 bo x198 bq bk dg bl)), (tB 249 true), (tI 25 x213.2.2), (tI 24 x213.2.1), (tS 23 a5 x213.1.length a6), (tP 22 5 0)] y4 iu fun ale rd => ?_
            obtain ⟨qk, a0, afd, lq⟩ := iu.settle (i := 20) rfl
            replace ex := ex.mono a0
            replace lq : Mem ⟨w, h, noX⟩ qk (K13e27 a q y aj al am aw a8) [⟨(K13c9 g x52 l d x48 f), some 33⟩, ⟨(K13c7 bh c9 x178 da), some 33⟩, ⟨(K13c12 cu x187 cw cv cx), some 33⟩, ⟨(K13c26 c7 x200 dh x197 dk), some 33⟩, ⟨(K13c20 bo x198 bq bk dg bl), some 33⟩, ⟨(K13c21 bs x199 bt bp ds br), some 33⟩, ⟨[], none⟩, ⟨[], none⟩] [⟨aq, 4, 4, 3, 1, ([.int .i64 0, .int .i64 0, .int .i64 1, .int .i64 1] : List Value), (([.int .i64 0, .int .i64 0, .int .i64 1, .int .i64 1] : List Value) : List Value).length⟩, ⟨av, 4, 4, 3, 1, ([.int .i64 1, .int .i64 0, .int .i64 2, .int .i64 3] : List Value), (([.int .i64 1, .int .i64 0, .int .i64 2, .int .i64 3] : List Value) : List Value).length⟩, ⟨ay, 4, 4, 3, 1, ([.int .i64 0, .int .i64 0, .int .i64 1, .int .i64 1] : List Value), (([.int .i64 0, .int .i64 0, .int .i64 1, .int .i64 1] : List Value) : List Value).length⟩, ⟨a1, 4, 4, 3, 1, ([.int .i64 0, .int .i64 1, .int .i64 2, .int .i64 3] : List Value), (([.int .i64 0, .int .i64 1, .int .i64 2, .int .i64 3] : List Value) : List Value).length⟩, ⟨a7, 4, 4, 3, 1, ([.int .i64 0, .int .i64 0, .int .i64 1, .int .i64 1] : List Value), (([.int .i64 0, .int .i64 0, .int .i64 1, .int .i64 1] : List Value) : List Value).length⟩, ⟨g, x52.length, l, 3, 1, (m ++ ([.int .i64 2] : List Value)), ((m ++ ([.int .i64 2] : List Value)) : List Value).length⟩, ⟨d, x48.buses.length, f, 70, 3, p, (p : List Value).length⟩, ⟨bd, 1, 1, 3, 1, ([.int .i64 2] : List Value), 0⟩, ⟨c8, 4, 4, 3, 1, ([.int .i64 0, .int .i64 0, .int .i64 0, .int .i64 1] : List Value), (([.int .i64 0, .int .i64 0, .int .i64 0, .int .i64 1] : List Value) : List Value).length⟩, ⟨de, 4, 4, 3, 1, ([.int .i64 0, .int .i64 1, .int .i64 2, .int .i64 3] : List Value), (([.int .i64 0, .int .i64 1, .int .i64 2, .int .i64 3] : List Value) : List Value).length⟩, ⟨dj, 4, 4, 3, 1, ([.int .i64 0, .int .i64 0, .int .i64 1, .int .i64 1] : List Value), (([.int .i64 0, .int .i64 0, .int .i64 1, .int .i64 1] : List Value) : List Value).length⟩, ⟨dp, 4, 4, 3, 1, ([.int .i64 2, .int .i64 0, .int .i64 1, .int .i64 3] : List Value), (([.int .i64 2, .int .i64 0, .int .i64 1, .int .i64 3] : List Value) : List Value).length⟩, ⟨dq, 4, 4, 3, 1, ([.int .i64 0, .int .i64 0, .int .i64 1, .int .i64 1] : List Value), (([.int .i64 0, .int .i64 0, .int .i64 1, .int .i64 1] : List Value) : List Value).length⟩, ⟨dt, 4, 4, 3, 1, ([.int .i64 0, .int .i64 1, .int .i64 2, .int .i64 3] : List Value), (([.int .i64 0, .int .i64 1, .int .i64 2, .int .i64 3] : List Value) : List Value).length⟩, ⟨du, 1, 1, 3, 1, ([.int .i64 0] : List Value), (([.int .i64 0] : List Value) : List Value).length⟩, ⟨d4, 4, 4, 3, 1, ([.int .i64 0, .int .i64 0, .int .i64 1, .int .i64 2] : List Value), (([.int .i64 0, .int .i64 0, .int .i64 1, .int .i64 2] : List Value) : List Value).length⟩, ⟨bh, 2, 2, 3, 1, ([.int .i64 2, .int .i64 1] : List Value), (([.int .i64 2, .int .i64 1] : List Value) : List Value).length⟩, ⟨d1, 4, 4, 3, 1, ([.int .i64 0, .int .i64 0, .int .i64 1, .int .i64 1] : List Value), (([.int .i64 0, .int .i64 0, .int .i64 1, .int .i64 1] : List Value) : List Value).length⟩, ⟨d8, 4, 4, 3, 1, ([.int .i64 1, .int .i64 0, .int .i64 2, .int .i64 3] : List Value), (([.int .i64 1, .int .i64 0, .int .i64 2, .int .i64 3] : List Value) : List Value).length⟩, ⟨eb, 1, 1, 3, 1, ([.int .i64 1] : List Value), (([.int .i64 1] : List Value) : List Value).length⟩, ⟨bo, x198.room.length, bq, 3, 1, es, (es : List Value).length⟩, ⟨bk, dg.length, bl, 70, 3, (c6.take (0 + (1 : Int).toNat * 3 + 2) ++ ([.int .i64 40] : List Value) ++ c6.drop (0 + (1 : Int).toNat * 3 + 2 + 1)), 0⟩, ⟨bs, x199.room.length, bt, 3, 1, f6, 0⟩, ⟨bp, ds.length, br, 70, 3, (dw.take (0 + (0 : Int).toNat * 3 + 0) ++ ([.int .i64 121] : List Value) ++ dw.drop (0 + (0 : Int).toNat * 3 + 0 + 1)), 0⟩, ⟨c7, x200.length, x200.length, 3, 1, (List.flatten (List.replicate x200.length ([.int .i64 0] : List Value))), ((List.flatten (List.replicate x200.length ([.int .i64 0] : List Value))) : List Value).length⟩, ⟨f8, 1, 1, 3, 1, ([.int .i64 0] : List Value), (([.int .i64 0] : List Value) : List Value).length⟩, ⟨gn, 2, 2, 3, 1, ([.int .i64 1, .int .i64 2] : List Value), (([.int .i64 1, .int .i64 2] : List Value) : List Value).length⟩] u9 := lq
            have g5 : RepS qk bo bq x198.room := ⟨_, ex, afd, iu.rowCap (i := 20) rfl⟩
            obtain ⟨m9, ax, afe, lr⟩ := lq.settle (i := 21) rfl
            replace g5 := g5.mono ax
            replace ez := ez.mono (Heap.le_trans a0 ax)
            replace lr : Mem ⟨w, h, noX⟩ m9 (K13e27 a q y aj al am aw a8) [⟨(K13c9 g x52 l d x48 f), some 33⟩, ⟨(K13c7 bh c9 x178 da), some 33⟩, ⟨(K13c12 cu x187 cw cv cx), some 33⟩, ⟨(K13c26 c7 x200 dh x197 dk), some 33⟩, ⟨(K13c20 bo x198 bq bk dg bl), some 33⟩, ⟨(K13c21 bs x199 bt bp ds br), some 33⟩, ⟨[], none⟩, ⟨[], none⟩] [⟨aq, 4, 4, 3, 1, ([.int .i64 0, .int .i64 0, .int .i64 1, .int .i64 1] : List Value), (([.int .i64 0, .int .i64 0, .int .i64 1, .int .i64 1] : List Value) : List Value).length⟩, ⟨av, 4, 4, 3, 1, ([.int .i64 1, .int .i64 0, .int .i64 2, .int .i64 3] : List Value), (([.int .i64 1, .int .i64 0, .int .i64 2, .int .i64 3] : List Value) : List Value).length⟩, ⟨ay, 4, 4, 3, 1, ([.int .i64 0, .int .i64 0, .int .i64 1, .int .i64 1] : List Value), (([.int .i64 0, .int .i64 0, .int .i64 1, .int .i64 1] : List Value) : List Value).length⟩, ⟨a1, 4, 4, 3, 1, ([.int .i64 0, .int .i64 1, .int .i64 2, .int .i64 3] : List Value), (([.int .i64 0, .int .i64 1, .int .i64 2, .int .i64 3] : List Value) : List Value).length⟩, ⟨a7, 4, 4, 3, 1, ([.int .i64 0, .int .i64 0, .int .i64 1, .int .i64 1] : List Value), (([.int .i64 0, .int .i64 0, .int .i64 1, .int .i64 1] : List Value) : List Value).length⟩, ⟨g, x52.length, l, 3, 1, (m ++ ([.int .i64 2] : List Value)), ((m ++ ([.int .i64 2] : List Value)) : List Value).length⟩, ⟨d, x48.buses.length, f, 70, 3, p, (p : List Value).length⟩, ⟨bd, 1, 1, 3, 1, ([.int .i64 2] : List Value), 0⟩, ⟨c8, 4, 4, 3, 1, ([.int .i64 0, .int .i64 0, .int .i64 0, .int .i64 1] : List Value), (([.int .i64 0, .int .i64 0, .int .i64 0, .int .i64 1] : List Value) : List Value).length⟩, ⟨de, 4, 4, 3, 1, ([.int .i64 0, .int .i64 1, .int .i64 2, .int .i64 3] : List Value), (([.int .i64 0, .int .i64 1, .int .i64 2, .int .i64 3] : List Value) : List Value).length⟩, ⟨dj, 4, 4, 3, 1, ([.int .i64 0, .int .i64 0, .int .i64 1, .int .i64 1] : List Value), (([.int .i64 0, .int .i64 0, .int .i64 1, .int .i64 1] : List Value) : List Value).length⟩, ⟨dp, 4, 4, 3, 1, ([.int .i64 2, .int .i64 0, .int .i64 1, .int .i64 3] : List Value), (([.int .i64 2, .int .i64 0, .int .i64 1, .int .i64 3] : List Value) : List Value).length⟩, ⟨dq, 4, 4, 3, 1, ([.int .i64 0, .int .i64 0, .int .i64 1, .int .i64 1] : List Value), (([.int .i64 0, .int .i64 0, .int .i64 1, .int .i64 1] : List Value) : List Value).length⟩, ⟨dt, 4, 4, 3, 1, ([.int .i64 0, .int .i64 1, .int .i64 2, .int .i64 3] : List Value), (([.int .i64 0, .int .i64 1, .int .i64 2, .int .i64 3] : List Value) : List Value).length⟩, ⟨du, 1, 1, 3, 1, ([.int .i64 0] : List Value), (([.int .i64 0] : List Value) : List Value).length⟩, ⟨d4, 4, 4, 3, 1, ([.int .i64 0, .int .i64 0, .int .i64 1, .int .i64 2] : List Value), (([.int .i64 0, .int .i64 0, .int .i64 1, .int .i64 2] : List Value) : List Value).length⟩, ⟨bh, 2, 2, 3, 1, ([.int .i64 2, .int .i64 1] : List Value), (([.int .i64 2, .int .i64 1] : List Value) : List Value).length⟩, ⟨d1, 4, 4, 3, 1, ([.int .i64 0, .int .i64 0, .int .i64 1, .int .i64 1] : List Value), (([.int .i64 0, .int .i64 0, .int .i64 1, .int .i64 1] : List Value) : List Value).length⟩, ⟨d8, 4, 4, 3, 1, ([.int .i64 1, .int .i64 0, .int .i64 2, .int .i64 3] : List Value), (([.int .i64 1, .int .i64 0, .int .i64 2, .int .i64 3] : List Value) : List Value).length⟩, ⟨eb, 1, 1, 3, 1, ([.int .i64 1] : List Value), (([.int .i64 1] : List Value) : List Value).length⟩, ⟨bo, x198.room.length, bq, 3, 1, es, (es : List Value).length⟩, ⟨bk, dg.length, bl, 70, 3, (c6.take (0 + (1 : Int).toNat * 3 + 2) ++ ([.int .i64 40] : List Value) ++ c6.drop (0 + (1 : Int).toNat * 3 + 2 + 1)), ((c6.take (0 + (1 : Int).toNat * 3 + 2) ++ ([.int .i64 40] : List Value) ++ c6.drop (0 + (1 : Int).toNat * 3 + 2 + 1)) : List Value).length⟩, ⟨bs, x199.room.length, bt, 3, 1, f6, 0⟩, ⟨bp, ds.length, br, 70, 3, (dw.take (0 + (0 : Int).toNat * 3 + 0) ++ ([.int .i64 121] : List Value) ++ dw.drop (0 + (0 : Int).toNat * 3 + 0 + 1)), 0⟩, ⟨c7, x200.length, x200.length, 3, 1, (List.flatten (List.replicate x200.length ([.int .i64 0] : List Value))), ((List.flatten (List.replicate x200.length ([.int .i64 0] : List Value))) : List Value).length⟩, ⟨f8, 1, 1, 3, 1, ([.int .i64 0] : List Value), (([.int .i64 0] : List Value) : List Value).length⟩, ⟨gn, 2, 2, 3, 1, ([.int .i64 1, .int .i64 2] : List Value), (([.int .i64 1, .int .i64 2] : List Value) : List Value).length⟩] u9 := lr
            have ih : RepS m9 bk bl dg := ⟨_, ez, afe, lq.rowCap (i := 21) rfl⟩
            obtain ⟨x251, ex251, H⟩ := bnd H
            refine wpFrom_loud _ rfl (wantedS_sound rd (by kernel_rfl)) fun K hK => ?_
            refine wc [.agg (K13c20 bo x198 bq bk dg bl)] rd lr (lane_CheckYard_ok n lr.has (Yard.mk x198.room dg x198.broken) ((rep_pair (rep_slice g5) (rep_pair (rep_slice ih) rep_int)) : rep m9 (Yard.mk x198.room dg x198.broken) _) ex251) fun am6 aj2 va vu ar iv => ?_
            replace cl := cl.mono (Heap.le_trans (Heap.le_trans a0 ax) ar)
            replace c3 := c3.mono (Heap.le_trans (Heap.le_trans a0 ax) ar)
            replace cm := cm.mono (Heap.le_trans (Heap.le_trans a0 ax) ar)
            replace c4 := c4.mono (Heap.le_trans (Heap.le_trans a0 ax) ar)
            replace c1 := c1.mono (Heap.le_trans (Heap.le_trans a0 ax) ar)
            replace ck := ck.mono (Heap.le_trans (Heap.le_trans a0 ax) ar)
            replace c2 := c2.mono (Heap.le_trans (Heap.le_trans a0 ax) ar)
            replace fk := fk.mono (Heap.le_trans (Heap.le_trans a0 ax) ar)
            replace f2 := f2.mono (Heap.le_trans (Heap.le_trans a0 ax) ar)
            replace fl := fl.mono (Heap.le_trans (Heap.le_trans a0 ax) ar)
            replace f3 := f3.mono (Heap.le_trans (Heap.le_trans a0 ax) ar)
            replace fm := fm.mono (Heap.le_trans (Heap.le_trans a0 ax) ar)
            replace fn := fn.mono (Heap.le_trans (Heap.le_trans a0 ax) ar)
            replace f4 := f4.mono (Heap.le_trans (Heap.le_trans a0 ax) ar)
            replace f5 := f5.mono (Heap.le_trans (Heap.le_trans a0 ax) ar)
            replace fo := fo.mono (Heap.le_trans (Heap.le_trans a0 ax) ar)
            replace fx := fx.mono (Heap.le_trans (Heap.le_trans a0 ax) ar)
            replace fd := fd.mono (Heap.le_trans (Heap.le_trans a0 ax) ar)
            replace fe := fe.mono (Heap.le_trans (Heap.le_trans a0 ax) ar)
            replace ff := ff.mono (Heap.le_trans (Heap.le_trans a0 ax) ar)
            replace fg := fg.mono (Heap.le_trans (Heap.le_trans a0 ax) ar)
            replace fy := fy.mono (Heap.le_trans (Heap.le_trans a0 ax) ar)
            replace fh := fh.mono (Heap.le_trans (Heap.le_trans a0 ax) ar)
            replace fz := fz.mono (Heap.le_trans (Heap.le_trans a0 ax) ar)
            replace hw := hw.mono (Heap.le_trans (Heap.le_trans a0 ax) ar)
            replace gj := gj.mono (Heap.le_trans (Heap.le_trans a0 ax) ar)
            replace g4 := g4.mono (Heap.le_trans (Heap.le_trans a0 ax) ar)
            replace g5 := g5.mono ar
            replace ih := ih.mono ar
            replace cc := cc.mono (Heap.le_trans (Heap.le_trans a0 ax) ar)
            replace cd := cd.mono (Heap.le_trans (Heap.le_trans a0 ax) ar)
            replace ce := ce.mono (Heap.le_trans (Heap.le_trans a0 ax) ar)
            replace cf := cf.mono (Heap.le_trans (Heap.le_trans a0 ax) ar)
            replace b8 := b8.mono (Heap.le_trans (Heap.le_trans a0 ax) ar)
            replace cb := cb.mono (Heap.le_trans (Heap.le_trans a0 ax) ar)
            replace b9 := b9.mono (Heap.le_trans (Heap.le_trans a0 ax) ar)
            replace ca := ca.mono (Heap.le_trans (Heap.le_trans a0 ax) ar)
            replace e3 := e3.mono (Heap.le_trans (Heap.le_trans a0 ax) ar)
            replace e4 := e4.mono (Heap.le_trans (Heap.le_trans a0 ax) ar)
            replace e5 := e5.mono (Heap.le_trans (Heap.le_trans a0 ax) ar)
            replace e6 := e6.mono (Heap.le_trans (Heap.le_trans a0 ax) ar)
            replace e7 := e7.mono (Heap.le_trans (Heap.le_trans a0 ax) ar)
            replace e8 := e8.mono (Heap.le_trans (Heap.le_trans a0 ax) ar)
            replace e9 := e9.mono (Heap.le_trans (Heap.le_trans a0 ax) ar)
            replace fa := fa.mono (Heap.le_trans (Heap.le_trans a0 ax) ar)
            replace et := et.mono (Heap.le_trans (Heap.le_trans a0 ax) ar)
            replace eu := eu.mono (Heap.le_trans (Heap.le_trans a0 ax) ar)
            replace ev := ev.mono (Heap.le_trans (Heap.le_trans a0 ax) ar)
            replace ew := ew.mono (Heap.le_trans (Heap.le_trans a0 ax) ar)
            replace ex := ex.mono (Heap.le_trans ax ar)
            replace ez := ez.mono ar
            replace ey := ey.mono (Heap.le_trans (Heap.le_trans a0 ax) ar)
            replace e0 := e0.mono (Heap.le_trans (Heap.le_trans a0 ax) ar)
            replace ep := ep.mono (Heap.le_trans (Heap.le_trans a0 ax) ar)
            replace e1 := e1.mono (Heap.le_trans (Heap.le_trans a0 ax) ar)
            replace ft := ft.mono (Heap.le_trans (Heap.le_trans a0 ax) ar)
            obtain rfl := vu
            refine ⟨.one (.c (.int .i64 x251)), rfl, fun ag6 (y5 : Kn 280 (K13e27 a q y aj al am aw a8) [(tI 251 x251), (tA 250 (K13c20 bo x198 bq bk dg bl)), (tB 249 true), (tI 25 x213.2.2), (tI 24 x213.2.1), (tS 23 a5 x213.1.length a6), (tP 22 5 0)] ag6) => hK _ _ ?_⟩
            refine Rk 35 3 [(tB 254 (x251 == 1)), (tI 25 x213.2.2), (tI 24 x213.2.1), (tS 23 a5 x213.1.length a6), (tP 22 5 0)] y5 iv fun uk re => ?_
            rcases Bool.eq_false_or_eq_true ((x251 == 1)) with js | js
            ·
             rw [js, cond_true] at H
             have y6 : Kn 280 (K13e27 a q y aj al am aw a8) [(tB 254 true), (tI 25 x213.2.2), (tI 24 x213.2.1), (tS 23 a5 x213.1.length a6), (tP 22 5 0)] uk := (re.setB 254 true (by rfl) js).kp
             refine Rk 38 1 ((tA 255 (K13c21 bs x199 bt bp ds br)) :: (tB 254 true) :: (K13m36 x213 a5 a6)) y6 iv fun alf rf => ?_
             obtain ⟨ql, au, aff, ls⟩ := iv.settle (i := 22) rfl
             replace ey := ey.mono au
             replace ls : Mem ⟨w, h, noX⟩ ql (K13e27 a q y aj al am aw a8) [⟨(K13c9 g x52 l d x48 f), some 33⟩, ⟨(K13c7 bh c9 x178 da), some 33⟩, ⟨(K13c12 cu x187 cw cv cx), some 33⟩, ⟨(K13c26 c7 x200 dh x197 dk), some 33⟩, ⟨(K13c20 bo x198 bq bk dg bl), some 33⟩, ⟨(K13c21 bs x199 bt bp ds br), some 33⟩, ⟨[], none⟩, ⟨[], none⟩] [⟨aq, 4, 4, 3, 1, ([.int .i64 0, .int .i64 0, .int .i64 1, .int .i64 1] : List Value), (([.int .i64 0, .int .i64 0, .int .i64 1, .int .i64 1] : List Value) : List Value).length⟩, ⟨av, 4, 4, 3, 1, ([.int .i64 1, .int .i64 0, .int .i64 2, .int .i64 3] : List Value), (([.int .i64 1, .int .i64 0, .int .i64 2, .int .i64 3] : List Value) : List Value).length⟩, ⟨ay, 4, 4, 3, 1, ([.int .i64 0, .int .i64 0, .int .i64 1, .int .i64 1] : List Value), (([.int .i64 0, .int .i64 0, .int .i64 1, .int .i64 1] : List Value) : List Value).length⟩, ⟨a1, 4, 4, 3, 1, ([.int .i64 0, .int .i64 1, .int .i64 2, .int .i64 3] : List Value), (([.int .i64 0, .int .i64 1, .int .i64 2, .int .i64 3] : List Value) : List Value).length⟩, ⟨a7, 4, 4, 3, 1, ([.int .i64 0, .int .i64 0, .int .i64 1, .int .i64 1] : List Value), (([.int .i64 0, .int .i64 0, .int .i64 1, .int .i64 1] : List Value) : List Value).length⟩, ⟨g, x52.length, l, 3, 1, (m ++ ([.int .i64 2] : List Value)), ((m ++ ([.int .i64 2] : List Value)) : List Value).length⟩, ⟨d, x48.buses.length, f, 70, 3, p, (p : List Value).length⟩, ⟨bd, 1, 1, 3, 1, ([.int .i64 2] : List Value), 0⟩, ⟨c8, 4, 4, 3, 1, ([.int .i64 0, .int .i64 0, .int .i64 0, .int .i64 1] : List Value), (([.int .i64 0, .int .i64 0, .int .i64 0, .int .i64 1] : List Value) : List Value).length⟩, ⟨de, 4, 4, 3, 1, ([.int .i64 0, .int .i64 1, .int .i64 2, .int .i64 3] : List Value), (([.int .i64 0, .int .i64 1, .int .i64 2, .int .i64 3] : List Value) : List Value).length⟩, ⟨dj, 4, 4, 3, 1, ([.int .i64 0, .int .i64 0, .int .i64 1, .int .i64 1] : List Value), (([.int .i64 0, .int .i64 0, .int .i64 1, .int .i64 1] : List Value) : List Value).length⟩, ⟨dp, 4, 4, 3, 1, ([.int .i64 2, .int .i64 0, .int .i64 1, .int .i64 3] : List Value), (([.int .i64 2, .int .i64 0, .int .i64 1, .int .i64 3] : List Value) : List Value).length⟩, ⟨dq, 4, 4, 3, 1, ([.int .i64 0, .int .i64 0, .int .i64 1, .int .i64 1] : List Value), (([.int .i64 0, .int .i64 0, .int .i64 1, .int .i64 1] : List Value) : List Value).length⟩, ⟨dt, 4, 4, 3, 1, ([.int .i64 0, .int .i64 1, .int .i64 2, .int .i64 3] : List Value), (([.int .i64 0, .int .i64 1, .int .i64 2, .int .i64 3] : List Value) : List Value).length⟩, ⟨du, 1, 1, 3, 1, ([.int .i64 0] : List Value), (([.int .i64 0] : List Value) : List Value).length⟩, ⟨d4, 4, 4, 3, 1, ([.int .i64 0, .int .i64 0, .int .i64 1, .int .i64 2] : List Value), (([.int .i64 0, .int .i64 0, .int .i64 1, .int .i64 2] : List Value) : List Value).length⟩, ⟨bh, 2, 2, 3, 1, ([.int .i64 2, .int .i64 1] : List Value), (([.int .i64 2, .int .i64 1] : List Value) : List Value).length⟩, ⟨d1, 4, 4, 3, 1, ([.int .i64 0, .int .i64 0, .int .i64 1, .int .i64 1] : List Value), (([.int .i64 0, .int .i64 0, .int .i64 1, .int .i64 1] : List Value) : List Value).length⟩, ⟨d8, 4, 4, 3, 1, ([.int .i64 1, .int .i64 0, .int .i64 2, .int .i64 3] : List Value), (([.int .i64 1, .int .i64 0, .int .i64 2, .int .i64 3] : List Value) : List Value).length⟩, ⟨eb, 1, 1, 3, 1, ([.int .i64 1] : List Value), (([.int .i64 1] : List Value) : List Value).length⟩, ⟨bo, x198.room.length, bq, 3, 1, es, (es : List Value).length⟩, ⟨bk, dg.length, bl, 70, 3, (c6.take (0 + (1 : Int).toNat * 3 + 2) ++ ([.int .i64 40] : List Value) ++ c6.drop (0 + (1 : Int).toNat * 3 + 2 + 1)), ((c6.take (0 + (1 : Int).toNat * 3 + 2) ++ ([.int .i64 40] : List Value) ++ c6.drop (0 + (1 : Int).toNat * 3 + 2 + 1)) : List Value).length⟩, ⟨bs, x199.room.length, bt, 3, 1, f6, (f6 : List Value).length⟩, ⟨bp, ds.length, br, 70, 3, (dw.take (0 + (0 : Int).toNat * 3 + 0) ++ ([.int .i64 121] : List Value) ++ dw.drop (0 + (0 : Int).toNat * 3 + 0 + 1)), 0⟩, ⟨c7, x200.length, x200.length, 3, 1, (List.flatten (List.replicate x200.length ([.int .i64 0] : List Value))), ((List.flatten (List.replicate x200.length ([.int .i64 0] : List Value))) : List Value).length⟩, ⟨f8, 1, 1, 3, 1, ([.int .i64 0] : List Value), (([.int .i64 0] : List Value) : List Value).length⟩, ⟨gn, 2, 2, 3, 1, ([.int .i64 1, .int .i64 2] : List Value), (([.int .i64 1, .int .i64 2] : List Value) : List Value).length⟩] va := ls
             have ii : RepS ql bs bt x199.room := ⟨_, ey, aff, iv.rowCap (i := 22) rfl⟩
             obtain ⟨na, ao, afg, lu⟩ := ls.settle (i := 23) rfl
             replace ii := ii.mono ao
             replace e0 := e0.mono (Heap.le_trans au ao)
             replace lu : Mem ⟨w, h, noX⟩ na (K13e27 a q y aj al am aw a8) [⟨(K13c9 g x52 l d x48 f), some 33⟩, ⟨(K13c7 bh c9 x178 da), some 33⟩, ⟨(K13c12 cu x187 cw cv cx), some 33⟩, ⟨(K13c26 c7 x200 dh x197 dk), some 33⟩, ⟨(K13c20 bo x198 bq bk dg bl), some 33⟩, ⟨(K13c21 bs x199 bt bp ds br), some 33⟩, ⟨[], none⟩, ⟨[], none⟩] [⟨aq, 4, 4, 3, 1, ([.int .i64 0, .int .i64 0, .int .i64 1, .int .i64 1] : List Value), (([.int .i64 0, .int .i64 0, .int .i64 1, .int .i64 1] : List Value) : List Value).length⟩, ⟨av, 4, 4, 3, 1, ([.int .i64 1, .int .i64 0, .int .i64 2, .int .i64 3] : List Value), (([.int .i64 1, .int .i64 0, .int .i64 2, .int .i64 3] : List Value) : List Value).length⟩, ⟨ay, 4, 4, 3, 1, ([.int .i64 0, .int .i64 0, .int .i64 1, .int .i64 1] : List Value), (([.int .i64 0, .int .i64 0, .int .i64 1, .int .i64 1] : List Value) : List Value).length⟩, ⟨a1, 4, 4, 3, 1, ([.int .i64 0, .int .i64 1, .int .i64 2, .int .i64 3] : List Value), (([.int .i64 0, .int .i64 1, .int .i64 2, .int .i64 3] : List Value) : List Value).length⟩, ⟨a7, 4, 4, 3, 1, ([.int .i64 0, .int .i64 0, .int .i64 1, .int .i64 1] : List Value), (([.int .i64 0, .int .i64 0, .int .i64 1, .int .i64 1] : List Value) : List Value).length⟩, ⟨g, x52.length, l, 3, 1, (m ++ ([.int .i64 2] : List Value)), ((m ++ ([.int .i64 2] : List Value)) : List Value).length⟩, ⟨d, x48.buses.length, f, 70, 3, p, (p : List Value).length⟩, ⟨bd, 1, 1, 3, 1, ([.int .i64 2] : List Value), 0⟩, ⟨c8, 4, 4, 3, 1, ([.int .i64 0, .int .i64 0, .int .i64 0, .int .i64 1] : List Value), (([.int .i64 0, .int .i64 0, .int .i64 0, .int .i64 1] : List Value) : List Value).length⟩, ⟨de, 4, 4, 3, 1, ([.int .i64 0, .int .i64 1, .int .i64 2, .int .i64 3] : List Value), (([.int .i64 0, .int .i64 1, .int .i64 2, .int .i64 3] : List Value) : List Value).length⟩, ⟨dj, 4, 4, 3, 1, ([.int .i64 0, .int .i64 0, .int .i64 1, .int .i64 1] : List Value), (([.int .i64 0, .int .i64 0, .int .i64 1, .int .i64 1] : List Value) : List Value).length⟩, ⟨dp, 4, 4, 3, 1, ([.int .i64 2, .int .i64 0, .int .i64 1, .int .i64 3] : List Value), (([.int .i64 2, .int .i64 0, .int .i64 1, .int .i64 3] : List Value) : List Value).length⟩, ⟨dq, 4, 4, 3, 1, ([.int .i64 0, .int .i64 0, .int .i64 1, .int .i64 1] : List Value), (([.int .i64 0, .int .i64 0, .int .i64 1, .int .i64 1] : List Value) : List Value).length⟩, ⟨dt, 4, 4, 3, 1, ([.int .i64 0, .int .i64 1, .int .i64 2, .int .i64 3] : List Value), (([.int .i64 0, .int .i64 1, .int .i64 2, .int .i64 3] : List Value) : List Value).length⟩, ⟨du, 1, 1, 3, 1, ([.int .i64 0] : List Value), (([.int .i64 0] : List Value) : List Value).length⟩, ⟨d4, 4, 4, 3, 1, ([.int .i64 0, .int .i64 0, .int .i64 1, .int .i64 2] : List Value), (([.int .i64 0, .int .i64 0, .int .i64 1, .int .i64 2] : List Value) : List Value).length⟩, ⟨bh, 2, 2, 3, 1, ([.int .i64 2, .int .i64 1] : List Value), (([.int .i64 2, .int .i64 1] : List Value) : List Value).length⟩, ⟨d1, 4, 4, 3, 1, ([.int .i64 0, .int .i64 0, .int .i64 1, .int .i64 1] : List Value), (([.int .i64 0, .int .i64 0, .int .i64 1, .int .i64 1] : List Value) : List Value).length⟩, ⟨d8, 4, 4, 3, 1, ([.int .i64 1, .int .i64 0, .int .i64 2, .int .i64 3] : List Value), (([.int .i64 1, .int .i64 0, .int .i64 2, .int .i64 3] : List Value) : List Value).length⟩, ⟨eb, 1, 1, 3, 1, ([.int .i64 1] : List Value), (([.int .i64 1] : List Value) : List Value).length⟩, ⟨bo, x198.room.length, bq, 3, 1, es, (es : List Value).length⟩, ⟨bk, dg.length, bl, 70, 3, (c6.take (0 + (1 : Int).toNat * 3 + 2) ++ ([.int .i64 40] : List Value) ++ c6.drop (0 + (1 : Int).toNat * 3 + 2 + 1)), ((c6.take (0 + (1 : Int).toNat * 3 + 2) ++ ([.int .i64 40] : List Value) ++ c6.drop (0 + (1 : Int).toNat * 3 + 2 + 1)) : List Value).length⟩, ⟨bs, x199.room.length, bt, 3, 1, f6, (f6 : List Value).length⟩, ⟨bp, ds.length, br, 70, 3, (dw.take (0 + (0 : Int).toNat * 3 + 0) ++ ([.int .i64 121] : List Value) ++ dw.drop (0 + (0 : Int).toNat * 3 + 0 + 1)), ((dw.take (0 + (0 : Int).toNat * 3 + 0) ++ ([.int .i64 121] : List Value) ++ dw.drop (0 + (0 : Int).toNat * 3 + 0 + 1)) : List Value).length⟩, ⟨c7, x200.length, x200.length, 3, 1, (List.flatten (List.replicate x200.length ([.int .i64 0] : List Value))), ((List.flatten (List.replicate x200.length ([.int .i64 0] : List Value))) : List Value).length⟩, ⟨f8, 1, 1, 3, 1, ([.int .i64 0] : List Value), (([.int .i64 0] : List Value) : List Value).length⟩, ⟨gn, 2, 2, 3, 1, ([.int .i64 1, .int .i64 2] : List Value), (([.int .i64 1, .int .i64 2] : List Value) : List Value).length⟩] va := lu
             have kl : RepS na bp br ds := ⟨_, e0, afg, ls.rowCap (i := 23) rfl⟩
             obtain ⟨x256, ex256, H⟩ := bnd H
             refine wpFrom_loud _ rfl (wantedS_sound rf (by kernel_rfl)) fun K hK => ?_
             refine wc [.agg (K13c21 bs x199 bt bp ds br)] rf lu (lane_CheckYard_ok n lu.has (Yard.mk x199.room ds x199.broken) ((rep_pair (rep_slice ii) (rep_pair (rep_slice kl) rep_int)) : rep na (Yard.mk x199.room ds x199.broken) _) ex256) fun am7 wy aoq vv an iw => ?_
             replace cl := cl.mono (Heap.le_trans (Heap.le_trans au ao) an)
             replace c3 := c3.mono (Heap.le_trans (Heap.le_trans au ao) an)
             replace cm := cm.mono (Heap.le_trans (Heap.le_trans au ao) an)
             replace c4 := c4.mono (Heap.le_trans (Heap.le_trans au ao) an)
             replace c1 := c1.mono (Heap.le_trans (Heap.le_trans au ao) an)
             replace ck := ck.mono (Heap.le_trans (Heap.le_trans au ao) an)
             replace c2 := c2.mono (Heap.le_trans (Heap.le_trans au ao) an)
             replace fk := fk.mono (Heap.le_trans (Heap.le_trans au ao) an)
             replace f2 := f2.mono (Heap.le_trans (Heap.le_trans au ao) an)
             replace fl := fl.mono (Heap.le_trans (Heap.le_trans au ao) an)
             replace f3 := f3.mono (Heap.le_trans (Heap.le_trans au ao) an)
             replace fm := fm.mono (Heap.le_trans (Heap.le_trans au ao) an)
             replace fn := fn.mono (Heap.le_trans (Heap.le_trans au ao) an)
             replace f4 := f4.mono (Heap.le_trans (Heap.le_trans au ao) an)
             replace f5 := f5.mono (Heap.le_trans (Heap.le_trans au ao) an)
             replace fo := fo.mono (Heap.le_trans (Heap.le_trans au ao) an)
             replace fx := fx.mono (Heap.le_trans (Heap.le_trans au ao) an)
             replace fd := fd.mono (Heap.le_trans (Heap.le_trans au ao) an)
             replace fe := fe.mono (Heap.le_trans (Heap.le_trans au ao) an)
             replace ff := ff.mono (Heap.le_trans (Heap.le_trans au ao) an)
             replace fg := fg.mono (Heap.le_trans (Heap.le_trans au ao) an)
             replace fy := fy.mono (Heap.le_trans (Heap.le_trans au ao) an)
             replace fh := fh.mono (Heap.le_trans (Heap.le_trans au ao) an)
             replace fz := fz.mono (Heap.le_trans (Heap.le_trans au ao) an)
             replace hw := hw.mono (Heap.le_trans (Heap.le_trans au ao) an)
             replace gj := gj.mono (Heap.le_trans (Heap.le_trans au ao) an)
             replace g4 := g4.mono (Heap.le_trans (Heap.le_trans au ao) an)
             replace g5 := g5.mono (Heap.le_trans (Heap.le_trans au ao) an)
             replace ih := ih.mono (Heap.le_trans (Heap.le_trans au ao) an)
             replace ii := ii.mono an
             replace kl := kl.mono an
             replace cc := cc.mono (Heap.le_trans (Heap.le_trans au ao) an)
             replace cd := cd.mono (Heap.le_trans (Heap.le_trans au ao) an)
             replace ce := ce.mono (Heap.le_trans (Heap.le_trans au ao) an)
             replace cf := cf.mono (Heap.le_trans (Heap.le_trans au ao) an)
             replace b8 := b8.mono (Heap.le_trans (Heap.le_trans au ao) an)
             replace cb := cb.mono (Heap.le_trans (Heap.le_trans au ao) an)
             replace b9 := b9.mono (Heap.le_trans (Heap.le_trans au ao) an)
             replace ca := ca.mono (Heap.le_trans (Heap.le_trans au ao) an)
             replace e3 := e3.mono (Heap.le_trans (Heap.le_trans au ao) an)
             replace e4 := e4.mono (Heap.le_trans (Heap.le_trans au ao) an)
             replace e5 := e5.mono (Heap.le_trans (Heap.le_trans au ao) an)
             replace e6 := e6.mono (Heap.le_trans (Heap.le_trans au ao) an)
             replace e7 := e7.mono (Heap.le_trans (Heap.le_trans au ao) an)
             replace e8 := e8.mono (Heap.le_trans (Heap.le_trans au ao) an)
             replace e9 := e9.mono (Heap.le_trans (Heap.le_trans au ao) an)
             replace fa := fa.mono (Heap.le_trans (Heap.le_trans au ao) an)
             replace et := et.mono (Heap.le_trans (Heap.le_trans au ao) an)
             replace eu := eu.mono (Heap.le_trans (Heap.le_trans au ao) an)
             replace ev := ev.mono (Heap.le_trans (Heap.le_trans au ao) an)
             replace ew := ew.mono (Heap.le_trans (Heap.le_trans au ao) an)
             replace ex := ex.mono (Heap.le_trans (Heap.le_trans au ao) an)
             replace ez := ez.mono (Heap.le_trans (Heap.le_trans au ao) an)
             replace ey := ey.mono (Heap.le_trans ao an)
             replace e0 := e0.mono an
             replace ep := ep.mono (Heap.le_trans (Heap.le_trans au ao) an)
             replace e1 := e1.mono (Heap.le_trans (Heap.le_trans au ao) an)
             replace ft := ft.mono (Heap.le_trans (Heap.le_trans au ao) an)
             obtain rfl := vv
             refine ⟨.one (.c (.int .i64 x256)), rfl, fun ag8 (y8 : Kn 280 (K13e27 a q y aj al am aw a8) ((tI 256 x256) :: (tA 255 (K13c21 bs x199 bt bp ds br)) :: (tB 254 true) :: (K13m36 x213 a5 a6)) ag8) => hK _ _ ?_⟩
             refine Rk 40 3 ((tB 259 (x256 == 1)) :: (K13m36 x213 a5 a6)) y8 iw fun ul rg => ?_
             rcases Bool.eq_false_or_eq_true ((x256 == 1)) with jt | jt
             ·
              rw [jt, cond_true] at H
              have y9 : Kn 280 (K13e27 a q y aj al am aw a8) ((tB 259 true) :: (K13m36 x213 a5 a6)) ul := (rg.setB 259 true (by rfl) jt).kp
              refine Rk 43 1 ((tA 260 K13c2) :: (tB 259 true) :: (K13m36 x213 a5 a6)) y9 iw fun alg rh => ?_
              obtain ⟨x261, ex261, H⟩ := bnd H
              refine wpFrom_loud _ rfl (wantedS_sound rh (by kernel_rfl)) fun K hK => ?_
              refine wc [.agg K13c2] rh iw (lane_CheckYard_ok n iw.has (Yard.mk ([] : List Int) ([] : List Bus) 0) ((rep_pair (rep_slice RepS.nil) (rep_pair (rep_slice RepS.nil) rep_int)) : rep wy (Yard.mk ([] : List Int) ([] : List Bus) 0) _) ex261) fun am8 aj3 aor vw ap fp => ?_
              replace cl := cl.mono ap
              replace c3 := c3.mono ap
              replace cm := cm.mono ap
              replace c4 := c4.mono ap
              replace c1 := c1.mono ap
              replace ck := ck.mono ap
              replace c2 := c2.mono ap
              replace fk := fk.mono ap
              replace f2 := f2.mono ap
              replace fl := fl.mono ap
              replace f3 := f3.mono ap
              replace fm := fm.mono ap
              replace fn := fn.mono ap
              replace f4 := f4.mono ap
              replace f5 := f5.mono ap
              replace fo := fo.mono ap
              replace fx := fx.mono ap
              replace fd := fd.mono ap
              replace fe := fe.mono ap
              replace ff := ff.mono ap
              replace fg := fg.mono ap
              replace fy := fy.mono ap
              replace fh := fh.mono ap
              replace fz := fz.mono ap
              replace gj := gj.mono ap
              replace g4 := g4.mono ap
              replace g5 := g5.mono ap
              replace ih := ih.mono ap
              replace ii := ii.mono ap
              replace kl := kl.mono ap
              replace cc := cc.mono ap
              replace cd := cd.mono ap
              replace ce := ce.mono ap
              replace cf := cf.mono ap
              replace b8 := b8.mono ap
              replace cb := cb.mono ap
              replace b9 := b9.mono ap
              replace ca := ca.mono ap
              replace e3 := e3.mono ap
              replace e4 := e4.mono ap
              replace e5 := e5.mono ap
              replace e6 := e6.mono ap
              replace e7 := e7.mono ap
              replace e8 := e8.mono ap
              replace e9 := e9.mono ap
              replace fa := fa.mono ap
              replace et := et.mono ap
              replace eu := eu.mono ap
              replace ev := ev.mono ap
              replace ew := ew.mono ap
              replace ex := ex.mono ap
              replace ez := ez.mono ap
              replace ey := ey.mono ap
              replace e0 := e0.mono ap
              replace ep := ep.mono ap
              replace e1 := e1.mono ap
              replace ft := ft.mono ap
              obtain rfl := vw
              refine ⟨.one (.c (.int .i64 x261)), rfl, fun ag9 (za : Kn 280 (K13e27 a q y aj al am aw a8) ((tI 261 x261) :: (tA 260 K13c2) :: (tB 259 true) :: (K13m36 x213 a5 a6)) ag9) => hK _ _ ?_⟩
              refine Rk 45 3 ((tB 264 (x261 == 1)) :: (K13m36 x213 a5 a6)) za fp fun um ri => ?_
              rcases Bool.eq_false_or_eq_true ((x261 == 1)) with ju | ju
              ·
               rw [ju, cond_true] at H
               have zb : Kn 280 (K13e27 a q y aj al am aw a8) ((tB 264 true) :: (K13m36 x213 a5 a6)) um := (ri.setB 264 true (by rfl) ju).kp
               refine Rk 48 4 [(tB 268 (x213.2.2 == 0)), (tI 24 x213.2.1), (tS 23 a5 x213.1.length a6)] zb fp fun un rj => ?_
               rcases Bool.eq_false_or_eq_true ((x213.2.2 == 0)) with jv | jv
               ·
                rw [jv, cond_true] at H
                have zd : Kn 280 (K13e27 a q y aj al am aw a8) [(tB 268 true), (tI 24 x213.2.1), (tS 23 a5 x213.1.length a6)] un := (rj.setB 268 true (by rfl) jv).kp
                refine Rk 52 5 [(tB 273 (((x213.1.length : Nat) : Int) == 0)), (tI 24 x213.2.1)] zd fp fun uo rk => ?_
                rcases Bool.eq_false_or_eq_true ((((x213.1.length : Nat) : Int) == 0)) with jw | jw
                ·
                 rw [jw, cond_true] at H
                 have ze : Kn 280 (K13e27 a q y aj al am aw a8) [(tB 273 true), (tI 24 x213.2.1)] uo := (rk.setB 273 true (by rfl) jw).kp
                 refine Rk 57 4 [(tB 277 (x213.2.1 == 0))] ze fp fun uq rl => ?_
                 rcases Bool.eq_false_or_eq_true ((x213.2.1 == 0)) with jx | jx
                 ·
                  rw [jx, cond_true] at H
                  have rm : Kn 280 (K13e27 a q y aj al am aw a8) [(tB 277 true)] uq := (rl.setB 277 true (by rfl) jx).kp
                  obtain ⟨x278, ex278, H⟩ := bnd H
                  refine wpFrom_loud _ rfl (wantedS_sound rm (by kernel_rfl)) fun K hK => ?_
                  refine wc [] rm fp (law_awake_ok n fp.has  ex278) fun ana aj4 aos vx akk s6 => ?_
                  obtain rfl := vx
                  refine ⟨.one (.c (.bool x278)), rfl, fun aha (zf : Kn 280 (K13e27 a q y aj al am aw a8) [(tB 278 x278), (tB 277 true)] aha) => hK _ _ ?_⟩
                  refine Rk 62 2 [(tB 0 x278)] zf s6 fun ali zg => ?_
                  refine wf (wp_ret ?_)
                  obtain rfl := Option.some.inj H
                  exact rt (.one (.c (.bool x278))) zg s6 rfl
                 ·
                  rw [jx, cond_false] at H
                  have zh : Kn 280 (K13e27 a q y aj al am aw a8) [(tB 277 false)] uq := (rl.setB 277 false (by rfl) jx).kp
                  refine Rk 61 3 [(tB 0 false)] zh fp fun alj zi => ?_
                  refine wf (wp_ret ?_)
                  obtain rfl := Option.some.inj H
                  exact rt (.one (.c (.bool false))) zi fp rfl
                ·
                 rw [jw, cond_false] at H
                 have zj : Kn 280 (K13e27 a q y aj al am aw a8) [(tB 273 false), (tI 24 x213.2.1)] uo := (rk.setB 273 false (by rfl) jw).kp
                 refine Rk 57 7 [(tB 0 false)] zj fp fun alk zk => ?_
                 refine wf (wp_ret ?_)
                 obtain rfl := Option.some.inj H
                 exact rt (.one (.c (.bool false))) zk fp rfl
               ·
                rw [jv, cond_false] at H
                have zl : Kn 280 (K13e27 a q y aj al am aw a8) [(tB 268 false), (tI 24 x213.2.1), (tS 23 a5 x213.1.length a6)] un := (rj.setB 268 false (by rfl) jv).kp
                refine Rk 52 12 [(tB 0 false)] zl fp fun all zm => ?_
                refine wf (wp_ret ?_)
                obtain rfl := Option.some.inj H
                exact rt (.one (.c (.bool false))) zm fp rfl
              ·
               rw [ju, cond_false] at H
               have zn : Kn 280 (K13e27 a q y aj al am aw a8) ((tB 264 false) :: (K13m36 x213 a5 a6)) um := (ri.setB 264 false (by rfl) ju).kp
               refine Rk 48 16 [(tB 0 false)] zn fp fun alm zo => ?_
               refine wf (wp_ret ?_)
               obtain rfl := Option.some.inj H
               exact rt (.one (.c (.bool false))) zo fp rfl
             ·
              rw [jt, cond_false] at H
              have zp : Kn 280 (K13e27 a q y aj al am aw a8) ((tB 259 false) :: (K13m36 x213 a5 a6)) ul := (rg.setB 259 false (by rfl) jt).kp
              refine Rk 43 21 [(tB 0 false)] zp iw fun aln zq => ?_
              refine wf (wp_ret ?_)
              obtain rfl := Option.some.inj H
              exact rt (.one (.c (.bool false))) zq iw rfl
            ·
             rw [js, cond_false] at H
             have zr : Kn 280 (K13e27 a q y aj al am aw a8) [(tB 254 false), (tI 25 x213.2.2), (tI 24 x213.2.1), (tS 23 a5 x213.1.length a6), (tP 22 5 0)] uk := (re.setB 254 false (by rfl) js).kp
             refine Rk 38 26 [(tB 0 false)] zr iv fun alo zs => ?_
             refine wf (wp_ret ?_)
             obtain rfl := Option.some.inj H
             exact rt (.one (.c (.bool false))) zs iv rfl
           ·
            rw [jr, cond_false] at H
            have zt : Kn 280 (K13e27 a q y aj al am aw a8) [(tB 249 false), (tI 25 x213.2.2), (tI 24 x213.2.1), (tS 23 a5 x213.1.length a6), (tP 22 5 0), (tP 21 4 0)] uj := (rc.setB 249 false (by rfl) jr).kp
            refine Rk 33 31 [(tB 0 false)] zt iu fun alp zu => ?_
            refine wf (wp_ret ?_)
            obtain rfl := Option.some.inj H
            exact rt (.one (.c (.bool false))) zu iu rfl
          ·
           rw [cond_f jq] at H
           have zv : Kn 280 (K13e27 a q y aj al am aw a8) [(tB 244 false), (tI 25 x213.2.2), (tI 24 x213.2.1), (tS 23 a5 x213.1.length a6), (tP 22 5 0), (tP 21 4 0), (tP 20 3 0)] ui := (ra.setB 244 false (by rfl) jq).kp
           refine Rk 28 36 [(tB 0 false)] zv ir fun alq zw => ?_
           refine wf (wp_ret ?_)
           obtain rfl := Option.some.inj H
           exact rt (.one (.c (.bool false))) zw ir rfl
         ·
          rw [jp, cond_false] at H
          have zx : Kn 280 (K13e27 a q y aj al am aw a8) [(tB 239 false), (tI 25 x213.2.2), (tI 24 x213.2.1), (tS 23 a5 x213.1.length a6), (tP 22 5 0), (tP 21 4 0), (tP 20 3 0), (tS 18 bb x194.1.length bc)] uh := (q7.setB 239 false (by rfl) jp).kp
          refine Rk 23 41 [(tB 0 false)] zx d7 fun alr zy => ?_
          refine wf (wp_ret ?_)
          obtain rfl := Option.some.inj H
          exact rt (.one (.c (.bool false))) zy d7 rfl
        ·
         rw [jo, cond_false] at H
         have zz : Kn 280 (K13e27 a q y aj al am aw a8) [(tB 235 false), (tI 25 x213.2.2), (tI 24 x213.2.1), (tS 23 a5 x213.1.length a6), (tP 22 5 0), (tP 21 4 0), (tP 20 3 0), (tI 19 x194.2), (tS 18 bb x194.1.length bc)] ug := (q6.setB 235 false (by rfl) jo).kp
         refine Rk 19 45 [(tB 0 false)] zz d7 fun als z0 => ?_
         refine wf (wp_ret ?_)
         obtain rfl := Option.some.inj H
         exact rt (.one (.c (.bool false))) z0 d7 rfl
       ·
        rw [jn, cond_false] at H
        have z1 : Kn 280 (K13e27 a q y aj al am aw a8) [(tB 231 false), (tI 25 x213.2.2), (tI 24 x213.2.1), (tS 23 a5 x213.1.length a6), (tP 22 5 0), (tP 21 4 0), (tP 20 3 0), (tI 19 x194.2), (tS 18 bb x194.1.length bc), (tI 16 x183.2.2)] uf := (q5.setB 231 false (by rfl) jn).kp
        refine Rk 15 49 [(tB 0 false)] z1 d7 fun alt z2 => ?_
        refine wf (wp_ret ?_)
        obtain rfl := Option.some.inj H
        exact rt (.one (.c (.bool false))) z2 d7 rfl
      ·
       rw [jm, cond_false] at H
       have z3 : Kn 280 (K13e27 a q y aj al am aw a8) [(tB 227 false), (tI 25 x213.2.2), (tI 24 x213.2.1), (tS 23 a5 x213.1.length a6), (tP 22 5 0), (tP 21 4 0), (tP 20 3 0), (tI 19 x194.2), (tS 18 bb x194.1.length bc), (tI 16 x183.2.2), (tI 12 x173.2.2.2)] ue := (q4.setB 227 false (by rfl) jm).kp
       refine Rk 11 53 [(tB 0 false)] z3 d7 fun alu z4 => ?_
       refine wf (wp_ret ?_)
       obtain rfl := Option.some.inj H
       exact rt (.one (.c (.bool false))) z4 d7 rfl
     ·
      rw [jl, cond_false] at H
      have z5 : Kn 280 (K13e27 a q y aj al am aw a8) [(tB 223 false), (tI 25 x213.2.2), (tI 24 x213.2.1), (tS 23 a5 x213.1.length a6), (tP 22 5 0), (tP 21 4 0), (tP 20 3 0), (tI 19 x194.2), (tS 18 bb x194.1.length bc), (tI 16 x183.2.2), (tI 12 x173.2.2.2), (tI 8 x167.2)] ud := (q3.setB 223 false (by rfl) jl).kp
      refine Rk 7 57 [(tB 0 false)] z5 d7 fun alv z6 => ?_
      refine wf (wp_ret ?_)
      obtain rfl := Option.some.inj H
      exact rt (.one (.c (.bool false))) z6 d7 rfl
    ·
     rw [jk, cond_false] at H
     have z7 : Kn 280 (K13e27 a q y aj al am aw a8) [(tB 219 false), (tI 25 x213.2.2), (tI 24 x213.2.1), (tS 23 a5 x213.1.length a6), (tP 22 5 0), (tP 21 4 0), (tP 20 3 0), (tI 19 x194.2), (tS 18 bb x194.1.length bc), (tI 16 x183.2.2), (tI 12 x173.2.2.2), (tI 8 x167.2), (tI 4 x159.2)] uc := (q2.setB 219 false (by rfl) jk).kp
     refine Rk 3 61 [(tB 0 false)] z7 d7 fun alw z8 => ?_
     refine wf (wp_ret ?_)
     obtain rfl := Option.some.inj H
     exact rt (.one (.c (.bool false))) z8 d7 rfl
end Go.Proofs.Ythcbemnflgjadaa
