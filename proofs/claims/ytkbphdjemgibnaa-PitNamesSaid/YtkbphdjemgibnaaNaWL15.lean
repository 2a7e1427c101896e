/- Each call computes its plain function. -/
import Derived.Test.YtkbphdjemgibnaaProg
import Derived.Test.YtkbphdjemgibnaaNaP0
import Derived.Test.YtkbphdjemgibnaaNaWA
import Derived.Test.YtkbphdjemgibnaaNaWQ
import Derived.Test.YtkbphdjemgibnaaNaWR
import Derived.Test.YtkbphdjemgibnaaNaWS
import Derived.Test.YtkbphdjemgibnaaNaWT
import Derived.Test.YtkbphdjemgibnaaNaWU
import Derived.Test.YtkbphdjemgibnaaNaWV
import Derived.Test.YtkbphdjemgibnaaNaWW
set_option linter.all false
namespace Go.Proofs.Ytkbphdjemgibnaa
open Go Go.RowKit
open Rep (rep)
open KRep (kv)
open VRep (rv)
abbrev K15e1 (g j y : Nat) : Env := [(g, 0), (j, 0), (y, 0)]
abbrev K15c2 : List SC := [.slice none 0 0, .int .i64 0, .slice none 0 0]
abbrev K15c3 (ax : Option Addr) (x146 : Shop) (az : Nat) (ai : Option Addr) : List SC := [.slice ax x146.buses.length az, .int .i64 x146.days, .slice ai 3 3]
abbrev K15c4 : List SC := [.int .i64 7, .int .i64 7, .int .i64 311, .int .u8 0, .int .i64 5, .int .i64 0]
abbrev K15c5 : List SC := [.int .i64 0, .int .i64 0, .int .i64 0, .int .i64 0, .int .i64 0, .int .i64 1, .int .i64 0]
abbrev K15c6 : List SC := [.int .i64 0, .int .i64 0, .int .i64 0, .int .i64 0, .int .i64 0, .int .i64 1, .int .i64 1]
abbrev K15c7 (a9 : Option Addr) (x165 : List Job) (x154 : Shop) (ap : Option Addr) (x157 : List Int) (ao : Nat) : List SC := [.slice a9 x165.length x165.length, .int .i64 x154.days, .slice ap x157.length ao]
abbrev K15c8 (dh : Option Addr) (x96 : Shop) (dp : Nat) (di : Option Addr) (dq : Nat) : List SC := [.slice dh x96.buses.length dp, .int .i64 x96.days, .slice di x96.pits.length dq]
abbrev K15c9 (dj : Option Addr) (x102 : Shop) (dr : Nat) (dk : Option Addr) (ds : Nat) : List SC := [.slice dj x102.buses.length dr, .int .i64 x102.days, .slice dk x102.pits.length ds]
abbrev K15c10 (dl : Option Addr) (x107 : Shop) (dt : Nat) (dm : Option Addr) (du : Nat) : List SC := [.slice dl x107.buses.length dt, .int .i64 x107.days, .slice dm x107.pits.length du]
abbrev K15c11 (ax : Option Addr) (x146 : Shop) (az : Nat) (cv : Option Addr) (cw : Nat) : List SC := [.slice ax x146.buses.length az, .int .i64 x146.days, .slice cv x146.pits.length cw]
abbrev K15c12 (b7 : Option Addr) (x154 : Shop) (b8 : Nat) (ap : Option Addr) (ao : Nat) : List SC := [.slice b7 x154.buses.length b8, .int .i64 x154.days, .slice ap x154.pits.length ao]
abbrev K15r13 (k : Option Addr) (x24 : List Card) (l : Nat) (b : List Value) (m : Option Addr) (x29 : List Card) (o : Nat) (d : List Value) (q : Option Addr) (x34 : List Card) (s : Nat) (e : List Value) (aa : Option Addr) (x41 : List Card) (ab : Nat) (f a : List Value) (u : Option Addr) (x40 : List Card) (z : Nat) (ak : Option Addr) (x112 : List Card) (am : Nat) (ac : List Value) (aq : Option Addr) (x117 : List Card) (ar : Nat) (ad : List Value) (aw : Option Addr) (x125 : List Card) (ay : Nat) (aj : List Value) (av : Option Addr) : List Row := [⟨k, x24.length, l, 99, 6, b, (b : List Value).length⟩, ⟨m, x29.length, o, 99, 6, d, (d : List Value).length⟩, ⟨q, x34.length, s, 99, 6, e, (e : List Value).length⟩, ⟨aa, x41.length, ab, 99, 6, (f ++ a), ((f ++ a) : List Value).length⟩, ⟨u, x40.length, z, 99, 6, a, 0⟩, ⟨ak, x112.length, am, 99, 6, ac, (ac : List Value).length⟩, ⟨aq, x117.length, ar, 99, 6, ad, (ad : List Value).length⟩, ⟨aw, x125.length, ay, 99, 6, (aj ++ ([.int .i64 7, .int .i64 7, .int .i64 311, .int .u8 0, .int .i64 5, .int .i64 0] : List Value)), ((aj ++ ([.int .i64 7, .int .i64 7, .int .i64 311, .int .u8 0, .int .i64 5, .int .i64 0] : List Value)) : List Value).length⟩, ⟨av, 1, 1, 99, 6, ([.int .i64 7, .int .i64 7, .int .i64 311, .int .u8 0, .int .i64 5, .int .i64 0] : List Value), 0⟩]
abbrev K15r14 (k : Option Addr) (x24 : List Card) (l : Nat) (b : List Value) (m : Option Addr) (x29 : List Card) (o : Nat) (d : List Value) (q : Option Addr) (x34 : List Card) (s : Nat) (e : List Value) (aa : Option Addr) (x41 : List Card) (ab : Nat) (f a : List Value) (u : Option Addr) (x40 : List Card) (z : Nat) (ak : Option Addr) (x112 : List Card) (am : Nat) (ac : List Value) (aq : Option Addr) (x117 : List Card) (ar : Nat) (ad : List Value) (aw : Option Addr) (x125 : List Card) (ay : Nat) (aj : List Value) (av ai : Option Addr) : List Row := [⟨k, x24.length, l, 99, 6, b, (b : List Value).length⟩, ⟨m, x29.length, o, 99, 6, d, (d : List Value).length⟩, ⟨q, x34.length, s, 99, 6, e, (e : List Value).length⟩, ⟨aa, x41.length, ab, 99, 6, (f ++ a), ((f ++ a) : List Value).length⟩, ⟨u, x40.length, z, 99, 6, a, 0⟩, ⟨ak, x112.length, am, 99, 6, ac, (ac : List Value).length⟩, ⟨aq, x117.length, ar, 99, 6, ad, (ad : List Value).length⟩, ⟨aw, x125.length, ay, 99, 6, (aj ++ ([.int .i64 7, .int .i64 7, .int .i64 311, .int .u8 0, .int .i64 5, .int .i64 0] : List Value)), ((aj ++ ([.int .i64 7, .int .i64 7, .int .i64 311, .int .u8 0, .int .i64 5, .int .i64 0] : List Value)) : List Value).length⟩, ⟨av, 1, 1, 99, 6, ([.int .i64 7, .int .i64 7, .int .i64 311, .int .u8 0, .int .i64 5, .int .i64 0] : List Value), 0⟩, ⟨ai, 3, 3, 3, 1, ([.int .i64 6, .int .i64 9, .int .i64 6] : List Value), (([.int .i64 6, .int .i64 9, .int .i64 6] : List Value) : List Value).length⟩]
abbrev K15m15 (x143 x138 : Bool × Int) (x131 : Int × Int × Int) (x126 x118 x113 : (List Int) × Int) : TM := [(tI 13 x143.2), (tB 12 x143.1), (tI 10 x138.2), (tI 8 x131.2.2), (tI 6 x126.2), (tI 4 x118.2), (tI 2 x113.2)]
abbrev K15m16 (x35 : (List Int) × Int) (ag : Option Addr) (ah : Nat) (x30 : (List Int) × Int) (al : Option Addr) (an : Nat) (x25 : (List Int) × Int) (a0 : Option Addr) (a1 : Nat) : TM := [(tI 6 x35.2), (tS 5 ag x35.1.length ah), (tI 4 x30.2), (tS 3 al x30.1.length an), (tI 2 x25.2), (tS 1 a0 x25.1.length a1)]
abbrev K15m17 (x47 : Int × Int) (x42 : (List Int) × Int) (ae : Option Addr) (af : Nat) (x35 : (List Int) × Int) (ag : Option Addr) (ah : Nat) (x30 : (List Int) × Int) (al : Option Addr) (an : Nat) : TM := [(tI 10 x47.2), (tI 9 x47.1), (tI 8 x42.2), (tS 7 ae x42.1.length af), (tI 6 x35.2), (tS 5 ag x35.1.length ah), (tI 4 x30.2), (tS 3 al x30.1.length an)]
abbrev K15m18 (x47 : Int × Int) (x42 : (List Int) × Int) (ae : Option Addr) (af : Nat) (x35 : (List Int) × Int) (ag : Option Addr) (ah : Nat) : TM := [(tI 10 x47.2), (tI 9 x47.1), (tI 8 x42.2), (tS 7 ae x42.1.length af), (tI 6 x35.2), (tS 5 ag x35.1.length ah)]
set_option maxRecDepth 100000 in
set_option maxHeartbeats 4000000 in
theorem law_PitNames_ok (n : Nat) {h : Heap} {w : World} (hh : Has h w)  {r : Bool} (H : law_PitNames n  = some r) :
  Calls Try.prog 15 #[] w (Ret (fun h v => v = .bool r) h w) := by
 refine enter 223 [] Try.func15 rfl rfl rfl rfl fun t hk => ?_
 have hm := Mem.begin h w hh
 unfold law_PitNames at H
 refine wp_seq (wp_region_from (Rk 0 1 [] hk hm fun vj nh => ?_))
 refine wf (wp_seq (wp_region_from ?_))
 obtain ⟨x24, ex24, H⟩ := bnd H
 refine wl fun K hK => ?_
 refine wp_callO [] _ nh hm rfl rfl (by decide) (by rfl) rfl (fun _ _ => by kernel_rfl) (law_board_own n hm.has  ex24) fun xd mu li vg mm u2 gb => ?_
 obtain ⟨k, l, b, rfl, rfl, bb⟩ := mm
 replace gb : Mem ⟨w, h, noX⟩ mu [] [] [⟨k, x24.length, l, 99, 6, b, 0⟩] li := gb
 refine ⟨.one (.c (.slice k x24.length l)), rfl, fun sr (m8 : Kn 223 [] [(tS 24 k x24.length l)] sr) => hK _ _ ?_⟩
 obtain ⟨h2, rg, r7, fm⟩ := gb.settle (i := 0) rfl
 replace bb := bb.mono rg
 replace fm : Mem ⟨w, h, noX⟩ h2 [] [] [⟨k, x24.length, l, 99, 6, b, (b : List Value).length⟩] li := fm
 have bo : RepS h2 k l x24 := ⟨_, bb, r7, gb.rowCap (i := 0) rfl⟩
 obtain ⟨x25, ex25, H⟩ := bnd H
 refine wl fun K hK => ?_
 refine wc [.c (.slice k x24.length l), .c (.int .i64 7), .c (.int .i64 150)] m8 fm (pit_Open_ok n fm.has x24 bo 7 150 ex25) fun xa um ya lx jv gx => ?_
 obtain ⟨_, _, rfl, ⟨a0, a1, rfl, dy⟩, rfl⟩ := lx
 refine ⟨.tup [.c (.slice a0 x25.1.length a1), .c (.int .i64 x25.2)], rfl, fun s2 (ob : Kn 223 [] [(25, .tup [.c (.slice a0 x25.1.length a1), .c (.int .i64 x25.2)]), (tS 24 k x24.length l)] s2) => hK _ _ ?_⟩
 refine Rk 2 5 [(tI 2 x25.2), (tS 1 a0 x25.1.length a1)] ob gx fun vz od => ?_
 refine wf (wp_seq (wp_region_from ?_))
 obtain ⟨x29, ex29, H⟩ := bnd H
 refine wl fun K hK => ?_
 refine wp_callO [] _ od gx rfl rfl (by decide) (by rfl) rfl (fun _ _ => by kernel_rfl) (law_board_own n gx.has  ex29) fun xg mt lc vc l2 gv fs => ?_
 obtain ⟨m, o, d, rfl, rfl, bd⟩ := l2
 replace fs : Mem ⟨w, h, noX⟩ mt [] [] [⟨k, x24.length, l, 99, 6, b, (b : List Value).length⟩, ⟨m, x29.length, o, 99, 6, d, 0⟩] lc := fs
 refine ⟨.one (.c (.slice m x29.length o)), rfl, fun td (oq : Kn 223 [] [(tS 29 m x29.length o), (tI 2 x25.2), (tS 1 a0 x25.1.length a1)] td) => hK _ _ ?_⟩
 obtain ⟨h7, fi, sg, fz⟩ := fs.settle (i := 1) rfl
 replace bd := bd.mono fi
 replace fz : Mem ⟨w, h, noX⟩ h7 [] [] [⟨k, x24.length, l, 99, 6, b, (b : List Value).length⟩, ⟨m, x29.length, o, 99, 6, d, (d : List Value).length⟩] lc := fz
 have bp : RepS h7 m o x29 := ⟨_, bd, sg, fs.rowCap (i := 1) rfl⟩
 obtain ⟨x30, ex30, H⟩ := bnd H
 refine wl fun K hK => ?_
 refine wc [.c (.slice m x29.length o), .c (.int .i64 7), .c (.int .i64 320)] oq fz (pit_Open_ok n fz.has x29 bp 7 320 ex30) fun xq uv yn mc e6 g2 => ?_
 obtain ⟨_, _, rfl, ⟨al, an, rfl, c6⟩, rfl⟩ := mc
 refine ⟨.tup [.c (.slice al x30.1.length an), .c (.int .i64 x30.2)], rfl, fun tq (pk : Kn 223 [] [(30, .tup [.c (.slice al x30.1.length an), .c (.int .i64 x30.2)]), (tS 29 m x29.length o), (tI 2 x25.2), (tS 1 a0 x25.1.length a1)] tq) => hK _ _ ?_⟩
 refine Rk 2 5 [(tI 4 x30.2), (tS 3 al x30.1.length an), (tI 2 x25.2), (tS 1 a0 x25.1.length a1)] pk g2 fun wj pq => ?_
 refine wf (wp_seq (wp_region_from ?_))
 obtain ⟨x34, ex34, H⟩ := bnd H
 refine wl fun K hK => ?_
 refine wp_callO [] _ pq g2 rfl rfl (by decide) (by rfl) rfl (fun _ _ => by kernel_rfl) (law_board_own n g2.has  ex34) fun xy mz ll vh mj d8 f5 => ?_
 obtain ⟨q, s, e, rfl, rfl, be⟩ := mj
 replace f5 : Mem ⟨w, h, noX⟩ mz [] [] [⟨k, x24.length, l, 99, 6, b, (b : List Value).length⟩, ⟨m, x29.length, o, 99, 6, d, (d : List Value).length⟩, ⟨q, x34.length, s, 99, 6, e, 0⟩] ll := f5
 refine ⟨.one (.c (.slice q x34.length s)), rfl, fun t1 (qj : Kn 223 [] [(tS 34 q x34.length s), (tI 4 x30.2), (tS 3 al x30.1.length an), (tI 2 x25.2), (tS 1 a0 x25.1.length a1)] t1) => hK _ _ ?_⟩
 obtain ⟨ib, dw, sl, f9⟩ := f5.settle (i := 2) rfl
 replace be := be.mono dw
 replace f9 : Mem ⟨w, h, noX⟩ ib [] [] [⟨k, x24.length, l, 99, 6, b, (b : List Value).length⟩, ⟨m, x29.length, o, 99, 6, d, (d : List Value).length⟩, ⟨q, x34.length, s, 99, 6, e, (e : List Value).length⟩] ll := f9
 have bq : RepS ib q s x34 := ⟨_, be, sl, f5.rowCap (i := 2) rfl⟩
 obtain ⟨x35, ex35, H⟩ := bnd H
 refine wl fun K hK => ?_
 refine wc [.c (.slice q x34.length s), .c (.int .i64 400)] qj f9 (pit_FitL_ok n f9.has x34 bq 400 ex35) fun x4 u0 yz mr de hc => ?_
 obtain ⟨_, _, rfl, ⟨ag, ah, rfl, ea⟩, rfl⟩ := mr
 refine ⟨.tup [.c (.slice ag x35.1.length ah), .c (.int .i64 x35.2)], rfl, fun t7 (rc : Kn 223 [] [(35, .tup [.c (.slice ag x35.1.length ah), .c (.int .i64 x35.2)]), (tS 34 q x34.length s), (tI 4 x30.2), (tS 3 al x30.1.length an), (tI 2 x25.2), (tS 1 a0 x25.1.length a1)] t7) => hK _ _ ?_⟩
 refine Rk 2 5 (K15m16 x35 ag ah x30 al an x25 a0 a1) rc hc fun w4 rd => ?_
 refine wf (wp_seq (wp_region_from ?_))
 obtain ⟨x39, ex39, H⟩ := bnd H
 refine wl fun K hK => ?_
 refine wp_callO [] _ rd hc rfl rfl (by decide) (by rfl) rfl (fun _ _ => by kernel_rfl) (law_board_own n hc.has  ex39) fun x5 m0 uk vi lp c3 fj => ?_
 obtain ⟨dg, dn, f, rfl, rfl, gp⟩ := lp
 replace fj : Mem ⟨w, h, noX⟩ m0 [] [] [⟨k, x24.length, l, 99, 6, b, (b : List Value).length⟩, ⟨m, x29.length, o, 99, 6, d, (d : List Value).length⟩, ⟨q, x34.length, s, 99, 6, e, (e : List Value).length⟩, ⟨dg, x39.length, dn, 99, 6, f, 0⟩] uk := fj
 refine ⟨.one (.c (.slice dg x39.length dn)), rfl, fun sn (m4 : Kn 223 [] ((tS 39 dg x39.length dn) :: (K15m16 x35 ag ah x30 al an x25 a0 a1)) sn) => hK _ _ ?_⟩
 obtain ⟨x40, ex40, H⟩ := bnd H
 refine wl fun K hK => ?_
 refine wp_callO [] _ m4 fj rfl rfl (by decide) (by rfl) rfl (fun _ _ => by kernel_rfl) (law_board_own n fj.has  ex40) fun w5 gd t8 vb lq cs fk => ?_
 replace gp := gp.mono cs
 obtain ⟨u, z, a, rfl, rfl, ba⟩ := lq
 replace fk : Mem ⟨w, h, noX⟩ gd [] [] [⟨k, x24.length, l, 99, 6, b, (b : List Value).length⟩, ⟨m, x29.length, o, 99, 6, d, (d : List Value).length⟩, ⟨q, x34.length, s, 99, 6, e, (e : List Value).length⟩, ⟨dg, x39.length, dn, 99, 6, f, 0⟩, ⟨u, x40.length, z, 99, 6, a, 0⟩] t8 := fk
 refine ⟨.one (.c (.slice u x40.length z)), rfl, fun sp (m5 : Kn 223 [] ((tS 40 u x40.length z) :: (tS 39 dg x39.length dn) :: (K15m16 x35 ag ah x30 al an x25 a0 a1)) sp) => hK _ _ ?_⟩
 obtain ⟨x41, ex41, H⟩ := bnd H
 obtain ⟨ho, re⟩ := app_some ex41
 refine wl fun K hK => ?_
 refine wp_append 3 48 x40.length _ (x41.length) _ a m5 fk rfl rfl (by decide) rfl (by rfl) (by kernel_rfl) (by rfl) (by rfl) (Cells.len ba) (fk.rowCell (i := 4) rfl) ba.one (by rw [ho]; simp <;> omega) (by rw [ho]; exact re) (by decide) fun aa ab hz sq k7 m2 (m6 : Kn 223 [] ((tS 41 aa x41.length ab) :: (tS 40 u x40.length z) :: (tS 39 dg x39.length dn) :: (K15m16 x35 ag ah x30 al an x25 a0 a1)) sq) (jw : Mem ⟨w, h, noX⟩ gd [] [] [⟨k, x24.length, l, 99, 6, b, (b : List Value).length⟩, ⟨m, x29.length, o, 99, 6, d, (d : List Value).length⟩, ⟨q, x34.length, s, 99, 6, e, (e : List Value).length⟩, ⟨aa, x41.length, ab, 99, 6, (f ++ a), hz⟩, ⟨u, x40.length, z, 99, 6, a, 0⟩] k7) => ?_
 have bc : Cells gd x41 (f ++ a) := by rw [ho]; exact Cells.append gp ba
 obtain rfl : hz = 0 := Nat.le_zero.1 m2
 refine hK _ _ ?_
 obtain ⟨h1, ck, r6, fl⟩ := jw.settle (i := 3) rfl
 replace bc := bc.mono ck
 replace fl : Mem ⟨w, h, noX⟩ h1 [] [] [⟨k, x24.length, l, 99, 6, b, (b : List Value).length⟩, ⟨m, x29.length, o, 99, 6, d, (d : List Value).length⟩, ⟨q, x34.length, s, 99, 6, e, (e : List Value).length⟩, ⟨aa, x41.length, ab, 99, 6, (f ++ a), ((f ++ a) : List Value).length⟩, ⟨u, x40.length, z, 99, 6, a, 0⟩] k7 := fl
 have bn : RepS h1 aa ab x41 := ⟨_, bc, r6, jw.rowCap (i := 3) rfl⟩
 obtain ⟨x42, ex42, H⟩ := bnd H
 refine wl fun K hK => ?_
 refine wc [.c (.slice aa x41.length ab)] m6 fl (pit_Void_ok n fl.has x41 bn ex42) fun w6 ul x6 lr ch gw => ?_
 obtain ⟨_, _, rfl, ⟨ae, af, rfl, co⟩, rfl⟩ := lr
 refine ⟨.tup [.c (.slice ae x42.1.length af), .c (.int .i64 x42.2)], rfl, fun ss (m7 : Kn 223 [] ((42, .tup [.c (.slice ae x42.1.length af), .c (.int .i64 x42.2)]) :: (tS 41 aa x41.length ab) :: (tS 40 u x40.length z) :: (tS 39 dg x39.length dn) :: (K15m16 x35 ag ah x30 al an x25 a0 a1)) ss) => hK _ _ ?_⟩
 refine Rk 4 5 ((tI 8 x42.2) :: (tS 7 ae x42.1.length af) :: (K15m16 x35 ag ah x30 al an x25 a0 a1)) m7 gw fun vk m9 => ?_
 refine wf (wp_seq (wp_region_from ?_))
 obtain ⟨x46, ex46, H⟩ := bnd H
 refine wl fun K hK => ?_
 refine wc [] m9 gw (law_yard_ok n gw.has  ex46) fun w7 ms x7 ls cb jx => ?_
 obtain ⟨_, rfl, ⟨_, _, rfl, ⟨fc, fe, rfl, r2⟩, ⟨_, _, rfl, rfl, ⟨fd, ff, rfl, r3⟩⟩⟩⟩ := ls
 refine ⟨.one (.agg [.slice fc x46.buses.length fe, .int .i64 x46.days, .slice fd x46.pits.length ff]), rfl, fun st (na : Kn 223 [] ((tA 46 [.slice fc x46.buses.length fe, .int .i64 x46.days, .slice fd x46.pits.length ff]) :: (tI 8 x42.2) :: (tS 7 ae x42.1.length af) :: (K15m16 x35 ag ah x30 al an x25 a0 a1)) st) => hK _ _ ?_⟩
 obtain ⟨x47, ex47, H⟩ := bnd H
 refine wl fun K hK => ?_
 refine wc [.agg [.slice fc x46.buses.length fe, .int .i64 x46.days, .slice fd x46.pits.length ff]] na jx (pit_Short_ok n jx.has x46 ((rep_pair (rep_slice r2) (rep_pair rep_int (rep_slice r3))) : rep ms x46 _) ex47) fun w8 eb x8 lu cc d9 => ?_
 replace bo := bo.mono (Heap.le_trans (Heap.le_trans (Heap.le_trans (Heap.le_trans (Heap.le_trans (Heap.le_trans (Heap.le_trans (Heap.le_trans (Heap.le_trans (Heap.le_trans (Heap.le_trans (Heap.le_trans jv gv) fi) e6) d8) dw) de) c3) cs) ck) ch) cb) cc)
 replace dy := dy.mono (Heap.le_trans (Heap.le_trans (Heap.le_trans (Heap.le_trans (Heap.le_trans (Heap.le_trans (Heap.le_trans (Heap.le_trans (Heap.le_trans (Heap.le_trans (Heap.le_trans gv fi) e6) d8) dw) de) c3) cs) ck) ch) cb) cc)
 replace bp := bp.mono (Heap.le_trans (Heap.le_trans (Heap.le_trans (Heap.le_trans (Heap.le_trans (Heap.le_trans (Heap.le_trans (Heap.le_trans (Heap.le_trans e6 d8) dw) de) c3) cs) ck) ch) cb) cc)
 replace c6 := c6.mono (Heap.le_trans (Heap.le_trans (Heap.le_trans (Heap.le_trans (Heap.le_trans (Heap.le_trans (Heap.le_trans (Heap.le_trans d8 dw) de) c3) cs) ck) ch) cb) cc)
 replace bq := bq.mono (Heap.le_trans (Heap.le_trans (Heap.le_trans (Heap.le_trans (Heap.le_trans (Heap.le_trans de c3) cs) ck) ch) cb) cc)
 replace ea := ea.mono (Heap.le_trans (Heap.le_trans (Heap.le_trans (Heap.le_trans (Heap.le_trans c3 cs) ck) ch) cb) cc)
 replace bn := bn.mono (Heap.le_trans (Heap.le_trans ch cb) cc)
 replace co := co.mono (Heap.le_trans cb cc)
 replace bb := bb.mono (Heap.le_trans (Heap.le_trans (Heap.le_trans (Heap.le_trans (Heap.le_trans (Heap.le_trans (Heap.le_trans (Heap.le_trans (Heap.le_trans (Heap.le_trans (Heap.le_trans (Heap.le_trans jv gv) fi) e6) d8) dw) de) c3) cs) ck) ch) cb) cc)
 replace bd := bd.mono (Heap.le_trans (Heap.le_trans (Heap.le_trans (Heap.le_trans (Heap.le_trans (Heap.le_trans (Heap.le_trans (Heap.le_trans (Heap.le_trans e6 d8) dw) de) c3) cs) ck) ch) cb) cc)
 replace be := be.mono (Heap.le_trans (Heap.le_trans (Heap.le_trans (Heap.le_trans (Heap.le_trans (Heap.le_trans de c3) cs) ck) ch) cb) cc)
 replace bc := bc.mono (Heap.le_trans (Heap.le_trans ch cb) cc)
 replace ba := ba.mono (Heap.le_trans (Heap.le_trans (Heap.le_trans ck ch) cb) cc)
 obtain ⟨_, _, rfl, rfl, rfl⟩ := lu
 refine ⟨.tup [.c (.int .i64 x47.1), .c (.int .i64 x47.2)], rfl, fun su (nb : Kn 223 [] ((47, .tup [.c (.int .i64 x47.1), .c (.int .i64 x47.2)]) :: (tA 46 [.slice fc x46.buses.length fe, .int .i64 x46.days, .slice fd x46.pits.length ff]) :: (tI 8 x42.2) :: (tS 7 ae x42.1.length af) :: (K15m16 x35 ag ah x30 al an x25 a0 a1)) su) => hK _ _ ?_⟩
 refine Rk 2 5 ((tI 10 x47.2) :: (tI 9 x47.1) :: (tI 8 x42.2) :: (tS 7 ae x42.1.length af) :: (K15m16 x35 ag ah x30 al an x25 a0 a1)) nb d9 fun vl nc => ?_
 refine wf (wp_seq (wp_seq ?_))
 obtain ⟨gc, p, H⟩ := bnd H
 refine wp_mid' (fun a' w' => ∃ (hq : Array Value) (gf : Heap), a' = ⟨hq, []⟩ ∧ Kn 223 [] [(tB 110 gc)] hq ∧ Mem ⟨w, h, noX⟩ gf [] [] [⟨k, x24.length, l, 99, 6, b, (b : List Value).length⟩, ⟨m, x29.length, o, 99, 6, d, (d : List Value).length⟩, ⟨q, x34.length, s, 99, 6, e, (e : List Value).length⟩, ⟨aa, x41.length, ab, 99, 6, (f ++ a), ((f ++ a) : List Value).length⟩, ⟨u, x40.length, z, 99, 6, a, 0⟩] w' ∧ Heap.le eb gf) ?_ ?_
 ·
  refine wp_region_from (Rk 0 3 [(tB 52 (x25.2 != 0)), (tI 10 x47.2), (tI 9 x47.1), (tI 8 x42.2), (tS 7 ae x42.1.length af), (tI 6 x35.2), (tS 5 ag x35.1.length ah), (tI 4 x30.2), (tS 3 al x30.1.length an), (tS 1 a0 x25.1.length a1)] nc d9 fun kf ih => ?_)
  rcases Bool.eq_false_or_eq_true ((x25.2 != 0)) with eg | eg
  ·
   rw [eg, cond_true] at p
   have nd : Kn 223 [] [(tB 52 true), (tI 10 x47.2), (tI 9 x47.1), (tI 8 x42.2), (tS 7 ae x42.1.length af), (tI 6 x35.2), (tS 5 ag x35.1.length ah), (tI 4 x30.2), (tS 3 al x30.1.length an), (tS 1 a0 x25.1.length a1)] kf := (ih.setB 52 true (by rfl) eg).kp
   refine Rk 3 58 [(tB 110 true)] nd d9 fun vm nf => ?_
   refine wf ?_
   obtain rfl := Option.some.inj p
   exact Exists.intro _ ⟨_, rfl, nf.kp, d9, (Heap.le_refl _)⟩
  ·
   rw [eg, cond_false] at p
   have ng : Kn 223 [] [(tB 52 false), (tI 10 x47.2), (tI 9 x47.1), (tI 8 x42.2), (tS 7 ae x42.1.length af), (tI 6 x35.2), (tS 5 ag x35.1.length ah), (tI 4 x30.2), (tS 3 al x30.1.length an), (tS 1 a0 x25.1.length a1)] kf := (ih.setB 52 false (by rfl) eg).kp
   refine Rk 3 1 ((tS 53 a0 x25.1.length a1) :: (tB 52 false) :: (K15m17 x47 x42 ae af x35 ag ah x30 al an)) ng d9 fun vn ii => ?_
   refine wpFrom_loud _ rfl (wantedS_sound ii (by kernel_rfl)) fun K hK => ?_
   refine wS 3 1 [.int .i64 1, .int .i64 2] ii d9 fun bz sv k8 (ij : Kn 223 [] ((tS 54 bz 2 2) :: (tS 53 a0 x25.1.length a1) :: (tB 52 false) :: (K15m17 x47 x42 ae af x35 ag ah x30 al an)) sv) (jy : Mem ⟨w, h, noX⟩ eb [] [] [⟨k, x24.length, l, 99, 6, b, (b : List Value).length⟩, ⟨m, x29.length, o, 99, 6, d, (d : List Value).length⟩, ⟨q, x34.length, s, 99, 6, e, (e : List Value).length⟩, ⟨aa, x41.length, ab, 99, 6, (f ++ a), ((f ++ a) : List Value).length⟩, ⟨u, x40.length, z, 99, 6, a, 0⟩, ⟨bz, 2, 2, 3, 1, ([.int .i64 1, .int .i64 2] : List Value), 0⟩] k8) => ?_
   have ca : Cells eb ([1, 2] : List Int) ([.int .i64 1, .int .i64 2] : List Value) := ⟨_, _, rfl, (rep_int : rep eb (1 : Int) _), ⟨_, _, rfl, (rep_int : rep eb (2 : Int) _), rfl⟩⟩
   refine hK _ _ ?_
   obtain ⟨h3, a2, r8, fn⟩ := jy.settle (i := 5) rfl
   replace dy := dy.mono a2
   replace ca := ca.mono a2
   replace fn : Mem ⟨w, h, noX⟩ h3 [] [] [⟨k, x24.length, l, 99, 6, b, (b : List Value).length⟩, ⟨m, x29.length, o, 99, 6, d, (d : List Value).length⟩, ⟨q, x34.length, s, 99, 6, e, (e : List Value).length⟩, ⟨aa, x41.length, ab, 99, 6, (f ++ a), ((f ++ a) : List Value).length⟩, ⟨u, x40.length, z, 99, 6, a, 0⟩, ⟨bz, 2, 2, 3, 1, ([.int .i64 1, .int .i64 2] : List Value), (([.int .i64 1, .int .i64 2] : List Value) : List Value).length⟩] k8 := fn
   have cp : RepS h3 bz 2 ([1, 2] : List Int) := ⟨_, ca, r8, jy.rowCap (i := 5) rfl⟩
   obtain ⟨x55, ex55, p⟩ := bnd p
   refine wpFrom_loud _ rfl (wantedS_sound ij (by kernel_rfl)) fun K hK => ?_
   refine wc [.c (.slice a0 x25.1.length a1), .c (.slice bz 2 2)] ij fn (law_ints_ok n fn.has x25.1 dy ([1, 2] : List Int) cp ex55) fun w9 fg x9 lv a3 df => ?_
   replace bo := bo.mono (Heap.le_trans a2 a3)
   replace bp := bp.mono (Heap.le_trans a2 a3)
   replace c6 := c6.mono (Heap.le_trans a2 a3)
   replace bq := bq.mono (Heap.le_trans a2 a3)
   replace ea := ea.mono (Heap.le_trans a2 a3)
   replace bn := bn.mono (Heap.le_trans a2 a3)
   replace co := co.mono (Heap.le_trans a2 a3)
   replace cp := cp.mono a3
   replace bb := bb.mono (Heap.le_trans a2 a3)
   replace bd := bd.mono (Heap.le_trans a2 a3)
   replace be := be.mono (Heap.le_trans a2 a3)
   replace bc := bc.mono (Heap.le_trans a2 a3)
   replace ba := ba.mono (Heap.le_trans a2 a3)
   replace ca := ca.mono a3
   obtain rfl := lv
   refine ⟨.one (.c (.bool x55)), rfl, fun sw (ni : Kn 223 [] ((tB 55 x55) :: (tS 54 bz 2 2) :: (tS 53 a0 x25.1.length a1) :: (tB 52 false) :: (K15m17 x47 x42 ae af x35 ag ah x30 al an)) sw) => hK _ _ ?_⟩
   refine Rk 6 3 ((tB 58 (!x55)) :: (K15m17 x47 x42 ae af x35 ag ah x30 al an)) ni df fun kg ik => ?_
   rcases Bool.eq_false_or_eq_true ((!x55)) with eh | eh
   ·
    rw [eh, cond_true] at p
    have nj : Kn 223 [] ((tB 58 true) :: (K15m17 x47 x42 ae af x35 ag ah x30 al an)) kg := (ik.setB 58 true (by rfl) eh).kp
    refine Rk 9 52 [(tB 110 true)] nj df fun vo nk => ?_
    refine wf ?_
    obtain rfl := Option.some.inj p
    exact Exists.intro _ ⟨_, rfl, nk.kp, (df.cutRw 5), (Heap.le_trans a2 a3)⟩
   ·
    rw [eh, cond_false] at p
    have nl : Kn 223 [] ((tB 58 false) :: (K15m17 x47 x42 ae af x35 ag ah x30 al an)) kg := (ik.setB 58 false (by rfl) eh).kp
    refine Rk 9 4 [(tB 62 (x30.2 != 0)), (tI 10 x47.2), (tI 9 x47.1), (tI 8 x42.2), (tS 7 ae x42.1.length af), (tI 6 x35.2), (tS 5 ag x35.1.length ah), (tS 3 al x30.1.length an)] nl df fun kh il => ?_
    rcases Bool.eq_false_or_eq_true ((x30.2 != 0)) with ei | ei
    ·
     rw [ei, cond_true] at p
     have nm : Kn 223 [] [(tB 62 true), (tI 10 x47.2), (tI 9 x47.1), (tI 8 x42.2), (tS 7 ae x42.1.length af), (tI 6 x35.2), (tS 5 ag x35.1.length ah), (tS 3 al x30.1.length an)] kh := (il.setB 62 true (by rfl) ei).kp
     refine Rk 13 48 [(tB 110 true)] nm df fun vp nn => ?_
     refine wf ?_
     obtain rfl := Option.some.inj p
     exact Exists.intro _ ⟨_, rfl, nn.kp, (df.cutRw 5), (Heap.le_trans a2 a3)⟩
    ·
     rw [ei, cond_false] at p
     have np : Kn 223 [] [(tB 62 false), (tI 10 x47.2), (tI 9 x47.1), (tI 8 x42.2), (tS 7 ae x42.1.length af), (tI 6 x35.2), (tS 5 ag x35.1.length ah), (tS 3 al x30.1.length an)] kh := (il.setB 62 false (by rfl) ei).kp
     refine Rk 13 1 ((tS 63 al x30.1.length an) :: (tB 62 false) :: (K15m18 x47 x42 ae af x35 ag ah)) np df fun vq im => ?_
     refine wpFrom_loud _ rfl (wantedS_sound im (by kernel_rfl)) fun K hK => ?_
     refine wS 3 1 [.int .i64 2, .int .i64 7] im df fun b6 sx k9 (io : Kn 223 [] ((tS 64 b6 2 2) :: (tS 63 al x30.1.length an) :: (tB 62 false) :: (K15m18 x47 x42 ae af x35 ag ah)) sx) (jz : Mem ⟨w, h, noX⟩ fg [] [] [⟨k, x24.length, l, 99, 6, b, (b : List Value).length⟩, ⟨m, x29.length, o, 99, 6, d, (d : List Value).length⟩, ⟨q, x34.length, s, 99, 6, e, (e : List Value).length⟩, ⟨aa, x41.length, ab, 99, 6, (f ++ a), ((f ++ a) : List Value).length⟩, ⟨u, x40.length, z, 99, 6, a, 0⟩, ⟨bz, 2, 2, 3, 1, ([.int .i64 1, .int .i64 2] : List Value), (([.int .i64 1, .int .i64 2] : List Value) : List Value).length⟩, ⟨b6, 2, 2, 3, 1, ([.int .i64 2, .int .i64 7] : List Value), 0⟩] k9) => ?_
     have cj : Cells fg ([2, 7] : List Int) ([.int .i64 2, .int .i64 7] : List Value) := ⟨_, _, rfl, (rep_int : rep fg (2 : Int) _), ⟨_, _, rfl, (rep_int : rep fg (7 : Int) _), rfl⟩⟩
     refine hK _ _ ?_
     obtain ⟨h4, a6, r9, fo⟩ := jz.settle (i := 6) rfl
     replace c6 := c6.mono a6
     replace cj := cj.mono a6
     replace fo : Mem ⟨w, h, noX⟩ h4 [] [] [⟨k, x24.length, l, 99, 6, b, (b : List Value).length⟩, ⟨m, x29.length, o, 99, 6, d, (d : List Value).length⟩, ⟨q, x34.length, s, 99, 6, e, (e : List Value).length⟩, ⟨aa, x41.length, ab, 99, 6, (f ++ a), ((f ++ a) : List Value).length⟩, ⟨u, x40.length, z, 99, 6, a, 0⟩, ⟨bz, 2, 2, 3, 1, ([.int .i64 1, .int .i64 2] : List Value), (([.int .i64 1, .int .i64 2] : List Value) : List Value).length⟩, ⟨b6, 2, 2, 3, 1, ([.int .i64 2, .int .i64 7] : List Value), (([.int .i64 2, .int .i64 7] : List Value) : List Value).length⟩] k9 := fo
     have c5 : RepS h4 b6 2 ([2, 7] : List Int) := ⟨_, cj, r9, jz.rowCap (i := 6) rfl⟩
     obtain ⟨x65, ex65, p⟩ := bnd p
     refine wpFrom_loud _ rfl (wantedS_sound io (by kernel_rfl)) fun K hK => ?_
     refine wc [.c (.slice al x30.1.length an), .c (.slice b6 2 2)] io fo (law_ints_ok n fo.has x30.1 c6 ([2, 7] : List Int) c5 ex65) fun xb gg yb lw a7 b9 => ?_
     replace bo := bo.mono (Heap.le_trans a6 a7)
     replace bp := bp.mono (Heap.le_trans a6 a7)
     replace bq := bq.mono (Heap.le_trans a6 a7)
     replace bn := bn.mono (Heap.le_trans a6 a7)
     replace co := co.mono (Heap.le_trans a6 a7)
     replace cp := cp.mono (Heap.le_trans a6 a7)
     replace c5 := c5.mono a7
     replace bb := bb.mono (Heap.le_trans a6 a7)
     replace bd := bd.mono (Heap.le_trans a6 a7)
     replace be := be.mono (Heap.le_trans a6 a7)
     replace bc := bc.mono (Heap.le_trans a6 a7)
     replace ba := ba.mono (Heap.le_trans a6 a7)
     replace ca := ca.mono (Heap.le_trans a6 a7)
     replace cj := cj.mono a7
     obtain rfl := lw
     refine ⟨.one (.c (.bool x65)), rfl, fun sy (nq : Kn 223 [] ((tB 65 x65) :: (tS 64 b6 2 2) :: (tS 63 al x30.1.length an) :: (tB 62 false) :: (K15m18 x47 x42 ae af x35 ag ah)) sy) => hK _ _ ?_⟩
     refine Rk 16 3 ((tB 68 (!x65)) :: (K15m18 x47 x42 ae af x35 ag ah)) nq b9 fun ki ip => ?_
     rcases Bool.eq_false_or_eq_true ((!x65)) with ej | ej
     ·
      rw [ej, cond_true] at p
      have nr : Kn 223 [] ((tB 68 true) :: (K15m18 x47 x42 ae af x35 ag ah)) ki := (ip.setB 68 true (by rfl) ej).kp
      refine Rk 19 42 [(tB 110 true)] nr b9 fun vr ns => ?_
      refine wf ?_
      obtain rfl := Option.some.inj p
      exact Exists.intro _ ⟨_, rfl, ns.kp, (b9.cutRw 5), (Heap.le_trans a2 (Heap.le_trans a3 (Heap.le_trans a6 a7)))⟩
     ·
      rw [ej, cond_false] at p
      have nt : Kn 223 [] ((tB 68 false) :: (K15m18 x47 x42 ae af x35 ag ah)) ki := (ip.setB 68 false (by rfl) ej).kp
      refine Rk 19 4 [(tB 72 (x35.2 != 0)), (tI 10 x47.2), (tI 9 x47.1), (tI 8 x42.2), (tS 7 ae x42.1.length af), (tS 5 ag x35.1.length ah)] nt b9 fun kj iq => ?_
      rcases Bool.eq_false_or_eq_true ((x35.2 != 0)) with ek | ek
      ·
       rw [ek, cond_true] at p
       have nu : Kn 223 [] [(tB 72 true), (tI 10 x47.2), (tI 9 x47.1), (tI 8 x42.2), (tS 7 ae x42.1.length af), (tS 5 ag x35.1.length ah)] kj := (iq.setB 72 true (by rfl) ek).kp
       refine Rk 23 38 [(tB 110 true)] nu b9 fun vs nv => ?_
       refine wf ?_
       obtain rfl := Option.some.inj p
       exact Exists.intro _ ⟨_, rfl, nv.kp, (b9.cutRw 5), (Heap.le_trans a2 (Heap.le_trans a3 (Heap.le_trans a6 a7)))⟩
      ·
       rw [ek, cond_false] at p
       have nw : Kn 223 [] [(tB 72 false), (tI 10 x47.2), (tI 9 x47.1), (tI 8 x42.2), (tS 7 ae x42.1.length af), (tS 5 ag x35.1.length ah)] kj := (iq.setB 72 false (by rfl) ek).kp
       refine Rk 23 5 [(tB 77 (((x35.1.length : Nat) : Int) != 0)), (tI 10 x47.2), (tI 9 x47.1), (tI 8 x42.2), (tS 7 ae x42.1.length af)] nw b9 fun kk ir => ?_
       rcases Bool.eq_false_or_eq_true ((((x35.1.length : Nat) : Int) != 0)) with el | el
       ·
        rw [el, cond_true] at p
        have nx : Kn 223 [] [(tB 77 true), (tI 10 x47.2), (tI 9 x47.1), (tI 8 x42.2), (tS 7 ae x42.1.length af)] kk := (ir.setB 77 true (by rfl) el).kp
        refine Rk 28 33 [(tB 110 true)] nx b9 fun vt ny => ?_
        refine wf ?_
        obtain rfl := Option.some.inj p
        exact Exists.intro _ ⟨_, rfl, ny.kp, (b9.cutRw 5), (Heap.le_trans a2 (Heap.le_trans a3 (Heap.le_trans a6 a7)))⟩
       ·
        rw [el, cond_false] at p
        have nz : Kn 223 [] [(tB 77 false), (tI 10 x47.2), (tI 9 x47.1), (tI 8 x42.2), (tS 7 ae x42.1.length af)] kk := (ir.setB 77 false (by rfl) el).kp
        refine Rk 28 4 [(tB 81 (x42.2 != 0)), (tI 10 x47.2), (tI 9 x47.1), (tS 7 ae x42.1.length af)] nz b9 fun kl iu => ?_
        rcases Bool.eq_false_or_eq_true ((x42.2 != 0)) with em | em
        ·
         rw [em, cond_true] at p
         have n0 : Kn 223 [] [(tB 81 true), (tI 10 x47.2), (tI 9 x47.1), (tS 7 ae x42.1.length af)] kl := (iu.setB 81 true (by rfl) em).kp
         refine Rk 32 29 [(tB 110 true)] n0 b9 fun vu n1 => ?_
         refine wf ?_
         obtain rfl := Option.some.inj p
         exact Exists.intro _ ⟨_, rfl, n1.kp, (b9.cutRw 5), (Heap.le_trans a2 (Heap.le_trans a3 (Heap.le_trans a6 a7)))⟩
        ·
         rw [em, cond_false] at p
         have n2 : Kn 223 [] [(tB 81 false), (tI 10 x47.2), (tI 9 x47.1), (tS 7 ae x42.1.length af)] kl := (iu.setB 81 false (by rfl) em).kp
         refine Rk 32 1 [(tS 82 ae x42.1.length af), (tB 81 false), (tI 10 x47.2), (tI 9 x47.1)] n2 b9 fun vv iv => ?_
         refine wpFrom_loud _ rfl (wantedS_sound iv (by kernel_rfl)) fun K hK => ?_
         refine wS 3 1 [.int .i64 6] iv b9 fun cg s0 la (iw : Kn 223 [] [(tS 83 cg 1 1), (tS 82 ae x42.1.length af), (tB 81 false), (tI 10 x47.2), (tI 9 x47.1)] s0) (j0 : Mem ⟨w, h, noX⟩ gg [] [] [⟨k, x24.length, l, 99, 6, b, (b : List Value).length⟩, ⟨m, x29.length, o, 99, 6, d, (d : List Value).length⟩, ⟨q, x34.length, s, 99, 6, e, (e : List Value).length⟩, ⟨aa, x41.length, ab, 99, 6, (f ++ a), ((f ++ a) : List Value).length⟩, ⟨u, x40.length, z, 99, 6, a, 0⟩, ⟨bz, 2, 2, 3, 1, ([.int .i64 1, .int .i64 2] : List Value), (([.int .i64 1, .int .i64 2] : List Value) : List Value).length⟩, ⟨b6, 2, 2, 3, 1, ([.int .i64 2, .int .i64 7] : List Value), (([.int .i64 2, .int .i64 7] : List Value) : List Value).length⟩, ⟨cg, 1, 1, 3, 1, ([.int .i64 6] : List Value), 0⟩] la) => ?_
         have cx : Cells gg ([6] : List Int) ([.int .i64 6] : List Value) := ⟨_, _, rfl, (rep_int : rep gg (6 : Int) _), rfl⟩
         refine hK _ _ ?_
         obtain ⟨h5, bi, sa, fp⟩ := j0.settle (i := 7) rfl
         replace co := co.mono bi
         replace cx := cx.mono bi
         replace fp : Mem ⟨w, h, noX⟩ h5 [] [] [⟨k, x24.length, l, 99, 6, b, (b : List Value).length⟩, ⟨m, x29.length, o, 99, 6, d, (d : List Value).length⟩, ⟨q, x34.length, s, 99, 6, e, (e : List Value).length⟩, ⟨aa, x41.length, ab, 99, 6, (f ++ a), ((f ++ a) : List Value).length⟩, ⟨u, x40.length, z, 99, 6, a, 0⟩, ⟨bz, 2, 2, 3, 1, ([.int .i64 1, .int .i64 2] : List Value), (([.int .i64 1, .int .i64 2] : List Value) : List Value).length⟩, ⟨b6, 2, 2, 3, 1, ([.int .i64 2, .int .i64 7] : List Value), (([.int .i64 2, .int .i64 7] : List Value) : List Value).length⟩, ⟨cg, 1, 1, 3, 1, ([.int .i64 6] : List Value), (([.int .i64 6] : List Value) : List Value).length⟩] la := fp
         have dx : RepS h5 cg 1 ([6] : List Int) := ⟨_, cx, sa, j0.rowCap (i := 7) rfl⟩
         obtain ⟨x84, ex84, p⟩ := bnd p
         refine wpFrom_loud _ rfl (wantedS_sound iw (by kernel_rfl)) fun K hK => ?_
         refine wc [.c (.slice ae x42.1.length af), .c (.slice cg 1 1)] iw fp (law_ints_ok n fp.has x42.1 co ([6] : List Int) dx ex84) fun xc un yc ly bj cn => ?_
         replace bo := bo.mono (Heap.le_trans bi bj)
         replace bp := bp.mono (Heap.le_trans bi bj)
         replace bq := bq.mono (Heap.le_trans bi bj)
         replace bn := bn.mono (Heap.le_trans bi bj)
         replace cp := cp.mono (Heap.le_trans bi bj)
         replace c5 := c5.mono (Heap.le_trans bi bj)
         replace dx := dx.mono bj
         replace bb := bb.mono (Heap.le_trans bi bj)
         replace bd := bd.mono (Heap.le_trans bi bj)
         replace be := be.mono (Heap.le_trans bi bj)
         replace bc := bc.mono (Heap.le_trans bi bj)
         replace ba := ba.mono (Heap.le_trans bi bj)
         replace ca := ca.mono (Heap.le_trans bi bj)
         replace cj := cj.mono (Heap.le_trans bi bj)
         replace cx := cx.mono bj
         obtain rfl := ly
         refine ⟨.one (.c (.bool x84)), rfl, fun s1 (n3 : Kn 223 [] [(tB 84 x84), (tS 83 cg 1 1), (tS 82 ae x42.1.length af), (tB 81 false), (tI 10 x47.2), (tI 9 x47.1)] s1) => hK _ _ ?_⟩
         refine Rk 35 3 [(tB 87 (!x84)), (tI 10 x47.2), (tI 9 x47.1)] n3 cn fun km ix => ?_
         rcases Bool.eq_false_or_eq_true ((!x84)) with en | en
         ·
          rw [en, cond_true] at p
          have n4 : Kn 223 [] [(tB 87 true), (tI 10 x47.2), (tI 9 x47.1)] km := (ix.setB 87 true (by rfl) en).kp
          refine Rk 38 23 [(tB 110 true)] n4 cn fun vw n5 => ?_
          refine wf ?_
          obtain rfl := Option.some.inj p
          exact Exists.intro _ ⟨_, rfl, n5.kp, (cn.cutRw 5), (Heap.le_trans a2 (Heap.le_trans a3 (Heap.le_trans a6 (Heap.le_trans a7 (Heap.le_trans bi bj)))))⟩
         ·
          rw [en, cond_false] at p
          have n6 : Kn 223 [] [(tB 87 false), (tI 10 x47.2), (tI 9 x47.1)] km := (ix.setB 87 false (by rfl) en).kp
          refine Rk 38 4 [(tB 91 (x47.2 != 0)), (tI 9 x47.1)] n6 cn fun kn iy => ?_
          rcases Bool.eq_false_or_eq_true ((x47.2 != 0)) with eo | eo
          ·
           rw [eo, cond_true] at p
           have n7 : Kn 223 [] [(tB 91 true), (tI 9 x47.1)] kn := (iy.setB 91 true (by rfl) eo).kp
           refine Rk 42 19 [(tB 110 true)] n7 cn fun vx n8 => ?_
           refine wf ?_
           obtain rfl := Option.some.inj p
           exact Exists.intro _ ⟨_, rfl, n8.kp, (cn.cutRw 5), (Heap.le_trans a2 (Heap.le_trans a3 (Heap.le_trans a6 (Heap.le_trans a7 (Heap.le_trans bi bj)))))⟩
          ·
           rw [eo, cond_false] at p
           have n9 : Kn 223 [] [(tB 91 false), (tI 9 x47.1)] kn := (iy.setB 91 false (by rfl) eo).kp
           refine Rk 42 4 [(tB 95 (x47.1 != 1))] n9 cn fun ko iz => ?_
           rcases Bool.eq_false_or_eq_true ((x47.1 != 1)) with ep | ep
           ·
            rw [ep, cond_true] at p
            have oa : Kn 223 [] [(tB 95 true)] ko := (iz.setB 95 true (by rfl) ep).kp
            refine Rk 46 15 [(tB 110 true)] oa cn fun vy oc => ?_
            refine wf ?_
            obtain rfl := Option.some.inj p
            exact Exists.intro _ ⟨_, rfl, oc.kp, (cn.cutRw 5), (Heap.le_trans a2 (Heap.le_trans a3 (Heap.le_trans a6 (Heap.le_trans a7 (Heap.le_trans bi bj)))))⟩
           ·
            rw [ep, cond_false] at p
            have i0 : Kn 223 [] [(tB 95 false)] ko := (iz.setB 95 false (by rfl) ep).kp
            obtain ⟨x96, ex96, p⟩ := bnd p
            refine wpFrom_loud _ rfl (wantedS_sound i0 (by kernel_rfl)) fun K hK => ?_
            refine wc [] i0 cn (law_yard_ok n cn.has  ex96) fun xe ec yd lz bw rj => ?_
            obtain ⟨_, rfl, ⟨_, _, rfl, ⟨dh, dp, rfl, hd⟩, ⟨_, _, rfl, rfl, ⟨di, dq, rfl, he⟩⟩⟩⟩ := lz
            refine ⟨.one (.agg (K15c8 dh x96 dp di dq)), rfl, fun s3 (i1 : Kn 223 [] [(tA 96 (K15c8 dh x96 dp di dq)), (tB 95 false)] s3) => hK _ _ ?_⟩
            refine wpFrom_loud _ rfl (wantedS_sound i1 (by kernel_rfl)) fun K hK => ?_
            refine wS 3 1 [.int .i64 0, .int .i64 2, .int .i64 1] i1 rj fun cq s4 lb (i2 : Kn 223 [] [(tS 97 cq 3 3), (tA 96 (K15c8 dh x96 dp di dq)), (tB 95 false)] s4) (j1 : Mem ⟨w, h, noX⟩ ec [] [] [⟨k, x24.length, l, 99, 6, b, (b : List Value).length⟩, ⟨m, x29.length, o, 99, 6, d, (d : List Value).length⟩, ⟨q, x34.length, s, 99, 6, e, (e : List Value).length⟩, ⟨aa, x41.length, ab, 99, 6, (f ++ a), ((f ++ a) : List Value).length⟩, ⟨u, x40.length, z, 99, 6, a, 0⟩, ⟨bz, 2, 2, 3, 1, ([.int .i64 1, .int .i64 2] : List Value), (([.int .i64 1, .int .i64 2] : List Value) : List Value).length⟩, ⟨b6, 2, 2, 3, 1, ([.int .i64 2, .int .i64 7] : List Value), (([.int .i64 2, .int .i64 7] : List Value) : List Value).length⟩, ⟨cg, 1, 1, 3, 1, ([.int .i64 6] : List Value), (([.int .i64 6] : List Value) : List Value).length⟩, ⟨cq, 3, 3, 3, 1, ([.int .i64 0, .int .i64 2, .int .i64 1] : List Value), 0⟩] lb) => ?_
            have dv : Cells ec ([0, 2, 1] : List Int) ([.int .i64 0, .int .i64 2, .int .i64 1] : List Value) := ⟨_, _, rfl, (rep_int : rep ec (0 : Int) _), ⟨_, _, rfl, (rep_int : rep ec (2 : Int) _), ⟨_, _, rfl, (rep_int : rep ec (1 : Int) _), rfl⟩⟩⟩
            refine hK _ _ ?_
            obtain ⟨gh, bk, sb, fq⟩ := j1.settle (i := 8) rfl
            replace hd := hd.mono bk
            replace he := he.mono bk
            replace dv := dv.mono bk
            replace fq : Mem ⟨w, h, noX⟩ gh [] [] [⟨k, x24.length, l, 99, 6, b, (b : List Value).length⟩, ⟨m, x29.length, o, 99, 6, d, (d : List Value).length⟩, ⟨q, x34.length, s, 99, 6, e, (e : List Value).length⟩, ⟨aa, x41.length, ab, 99, 6, (f ++ a), ((f ++ a) : List Value).length⟩, ⟨u, x40.length, z, 99, 6, a, 0⟩, ⟨bz, 2, 2, 3, 1, ([.int .i64 1, .int .i64 2] : List Value), (([.int .i64 1, .int .i64 2] : List Value) : List Value).length⟩, ⟨b6, 2, 2, 3, 1, ([.int .i64 2, .int .i64 7] : List Value), (([.int .i64 2, .int .i64 7] : List Value) : List Value).length⟩, ⟨cg, 1, 1, 3, 1, ([.int .i64 6] : List Value), (([.int .i64 6] : List Value) : List Value).length⟩, ⟨cq, 3, 3, 3, 1, ([.int .i64 0, .int .i64 2, .int .i64 1] : List Value), (([.int .i64 0, .int .i64 2, .int .i64 1] : List Value) : List Value).length⟩] lb := fq
            have fa : RepS gh cq 3 ([0, 2, 1] : List Int) := ⟨_, dv, sb, j1.rowCap (i := 8) rfl⟩
            obtain ⟨x98, ex98, p⟩ := bnd p
            refine wpFrom_loud _ rfl (wantedS_sound i2 (by kernel_rfl)) fun K hK => ?_
            refine wc [.agg (K15c8 dh x96 dp di dq), .c (.slice cq 3 3), .c (.int .i64 2)] i2 fq (pit_ProvePlan_ok n fq.has x96 ((rep_pair (rep_slice hd) (rep_pair rep_int (rep_slice he))) : rep gh x96 _) ([0, 2, 1] : List Int) fa 2 ex98) fun xf uo ye l0 br e7 => ?_
            replace bo := bo.mono (Heap.le_trans (Heap.le_trans bw bk) br)
            replace bp := bp.mono (Heap.le_trans (Heap.le_trans bw bk) br)
            replace bq := bq.mono (Heap.le_trans (Heap.le_trans bw bk) br)
            replace bn := bn.mono (Heap.le_trans (Heap.le_trans bw bk) br)
            replace cp := cp.mono (Heap.le_trans (Heap.le_trans bw bk) br)
            replace c5 := c5.mono (Heap.le_trans (Heap.le_trans bw bk) br)
            replace dx := dx.mono (Heap.le_trans (Heap.le_trans bw bk) br)
            replace fa := fa.mono br
            replace bb := bb.mono (Heap.le_trans (Heap.le_trans bw bk) br)
            replace bd := bd.mono (Heap.le_trans (Heap.le_trans bw bk) br)
            replace be := be.mono (Heap.le_trans (Heap.le_trans bw bk) br)
            replace bc := bc.mono (Heap.le_trans (Heap.le_trans bw bk) br)
            replace ba := ba.mono (Heap.le_trans (Heap.le_trans bw bk) br)
            replace ca := ca.mono (Heap.le_trans (Heap.le_trans bw bk) br)
            replace cj := cj.mono (Heap.le_trans (Heap.le_trans bw bk) br)
            replace cx := cx.mono (Heap.le_trans (Heap.le_trans bw bk) br)
            replace dv := dv.mono br
            obtain rfl := l0
            refine ⟨.one (.c (.bool x98)), rfl, fun s5 (oe : Kn 223 [] [(tB 98 x98), (tS 97 cq 3 3), (tA 96 (K15c8 dh x96 dp di dq)), (tB 95 false)] s5) => hK _ _ ?_⟩
            refine Rk 49 3 [(tB 101 (!x98))] oe e7 fun kq i3 => ?_
            rcases Bool.eq_false_or_eq_true ((!x98)) with er | er
            ·
             rw [er, cond_true] at p
             have og : Kn 223 [] [(tB 101 true)] kq := (i3.setB 101 true (by rfl) er).kp
             refine Rk 52 9 [(tB 110 true)] og e7 fun v0 oh => ?_
             refine wf ?_
             obtain rfl := Option.some.inj p
             exact Exists.intro _ ⟨_, rfl, oh.kp, (e7.cutRw 5), (Heap.le_trans a2 (Heap.le_trans a3 (Heap.le_trans a6 (Heap.le_trans a7 (Heap.le_trans bi (Heap.le_trans bj (Heap.le_trans bw (Heap.le_trans bk br))))))))⟩
            ·
             rw [er, cond_false] at p
             have i4 : Kn 223 [] [(tB 101 false)] kq := (i3.setB 101 false (by rfl) er).kp
             obtain ⟨x102, ex102, p⟩ := bnd p
             refine wpFrom_loud _ rfl (wantedS_sound i4 (by kernel_rfl)) fun K hK => ?_
             refine wc [] i4 e7 (law_yard_ok n e7.has  ex102) fun xh ed yf l1 bt rk => ?_
             obtain ⟨_, rfl, ⟨_, _, rfl, ⟨dj, dr, rfl, hf⟩, ⟨_, _, rfl, rfl, ⟨dk, ds, rfl, hg⟩⟩⟩⟩ := l1
             refine ⟨.one (.agg (K15c9 dj x102 dr dk ds)), rfl, fun s6 (i5 : Kn 223 [] [(tA 102 (K15c9 dj x102 dr dk ds)), (tB 101 false)] s6) => hK _ _ ?_⟩
             refine wpFrom_loud _ rfl (wantedS_sound i5 (by kernel_rfl)) fun K hK => ?_
             refine wS 3 1 [.int .i64 0, .int .i64 2, .int .i64 1] i5 rk fun c8 s7 ld (i6 : Kn 223 [] [(tS 103 c8 3 3), (tA 102 (K15c9 dj x102 dr dk ds)), (tB 101 false)] s7) (j2 : Mem ⟨w, h, noX⟩ ed [] [] [⟨k, x24.length, l, 99, 6, b, (b : List Value).length⟩, ⟨m, x29.length, o, 99, 6, d, (d : List Value).length⟩, ⟨q, x34.length, s, 99, 6, e, (e : List Value).length⟩, ⟨aa, x41.length, ab, 99, 6, (f ++ a), ((f ++ a) : List Value).length⟩, ⟨u, x40.length, z, 99, 6, a, 0⟩, ⟨bz, 2, 2, 3, 1, ([.int .i64 1, .int .i64 2] : List Value), (([.int .i64 1, .int .i64 2] : List Value) : List Value).length⟩, ⟨b6, 2, 2, 3, 1, ([.int .i64 2, .int .i64 7] : List Value), (([.int .i64 2, .int .i64 7] : List Value) : List Value).length⟩, ⟨cg, 1, 1, 3, 1, ([.int .i64 6] : List Value), (([.int .i64 6] : List Value) : List Value).length⟩, ⟨cq, 3, 3, 3, 1, ([.int .i64 0, .int .i64 2, .int .i64 1] : List Value), (([.int .i64 0, .int .i64 2, .int .i64 1] : List Value) : List Value).length⟩, ⟨c8, 3, 3, 3, 1, ([.int .i64 0, .int .i64 2, .int .i64 1] : List Value), 0⟩] ld) => ?_
             have e5 : Cells ed ([0, 2, 1] : List Int) ([.int .i64 0, .int .i64 2, .int .i64 1] : List Value) := ⟨_, _, rfl, (rep_int : rep ed (0 : Int) _), ⟨_, _, rfl, (rep_int : rep ed (2 : Int) _), ⟨_, _, rfl, (rep_int : rep ed (1 : Int) _), rfl⟩⟩⟩
             refine hK _ _ ?_
             obtain ⟨gi, bg, sc, fr⟩ := j2.settle (i := 9) rfl
             replace hf := hf.mono bg
             replace hg := hg.mono bg
             replace e5 := e5.mono bg
             replace fr : Mem ⟨w, h, noX⟩ gi [] [] [⟨k, x24.length, l, 99, 6, b, (b : List Value).length⟩, ⟨m, x29.length, o, 99, 6, d, (d : List Value).length⟩, ⟨q, x34.length, s, 99, 6, e, (e : List Value).length⟩, ⟨aa, x41.length, ab, 99, 6, (f ++ a), ((f ++ a) : List Value).length⟩, ⟨u, x40.length, z, 99, 6, a, 0⟩, ⟨bz, 2, 2, 3, 1, ([.int .i64 1, .int .i64 2] : List Value), (([.int .i64 1, .int .i64 2] : List Value) : List Value).length⟩, ⟨b6, 2, 2, 3, 1, ([.int .i64 2, .int .i64 7] : List Value), (([.int .i64 2, .int .i64 7] : List Value) : List Value).length⟩, ⟨cg, 1, 1, 3, 1, ([.int .i64 6] : List Value), (([.int .i64 6] : List Value) : List Value).length⟩, ⟨cq, 3, 3, 3, 1, ([.int .i64 0, .int .i64 2, .int .i64 1] : List Value), (([.int .i64 0, .int .i64 2, .int .i64 1] : List Value) : List Value).length⟩, ⟨c8, 3, 3, 3, 1, ([.int .i64 0, .int .i64 2, .int .i64 1] : List Value), (([.int .i64 0, .int .i64 2, .int .i64 1] : List Value) : List Value).length⟩] ld := fr
             have hi : RepS gi c8 3 ([0, 2, 1] : List Int) := ⟨_, e5, sc, j2.rowCap (i := 9) rfl⟩
             obtain ⟨x104, ex104, p⟩ := bnd p
             refine wpFrom_loud _ rfl (wantedS_sound i6 (by kernel_rfl)) fun K hK => ?_
             refine wc [.agg (K15c9 dj x102 dr dk ds), .c (.slice c8 3 3), .c (.int .i64 1)] i6 fr (pit_ProvePlan_ok n fr.has x102 ((rep_pair (rep_slice hf) (rep_pair rep_int (rep_slice hg))) : rep gi x102 _) ([0, 2, 1] : List Int) hi 1 ex104) fun xi uq yg l3 bl e8 => ?_
             replace bo := bo.mono (Heap.le_trans (Heap.le_trans bt bg) bl)
             replace bp := bp.mono (Heap.le_trans (Heap.le_trans bt bg) bl)
             replace bq := bq.mono (Heap.le_trans (Heap.le_trans bt bg) bl)
             replace bn := bn.mono (Heap.le_trans (Heap.le_trans bt bg) bl)
             replace cp := cp.mono (Heap.le_trans (Heap.le_trans bt bg) bl)
             replace c5 := c5.mono (Heap.le_trans (Heap.le_trans bt bg) bl)
             replace dx := dx.mono (Heap.le_trans (Heap.le_trans bt bg) bl)
             replace fa := fa.mono (Heap.le_trans (Heap.le_trans bt bg) bl)
             replace hi := hi.mono bl
             replace bb := bb.mono (Heap.le_trans (Heap.le_trans bt bg) bl)
             replace bd := bd.mono (Heap.le_trans (Heap.le_trans bt bg) bl)
             replace be := be.mono (Heap.le_trans (Heap.le_trans bt bg) bl)
             replace bc := bc.mono (Heap.le_trans (Heap.le_trans bt bg) bl)
             replace ba := ba.mono (Heap.le_trans (Heap.le_trans bt bg) bl)
             replace ca := ca.mono (Heap.le_trans (Heap.le_trans bt bg) bl)
             replace cj := cj.mono (Heap.le_trans (Heap.le_trans bt bg) bl)
             replace cx := cx.mono (Heap.le_trans (Heap.le_trans bt bg) bl)
             replace dv := dv.mono (Heap.le_trans (Heap.le_trans bt bg) bl)
             replace e5 := e5.mono bl
             obtain rfl := l3
             refine ⟨.one (.c (.bool x104)), rfl, fun s8 (oi : Kn 223 [] [(tB 104 x104), (tS 103 c8 3 3), (tA 102 (K15c9 dj x102 dr dk ds)), (tB 101 false)] s8) => hK _ _ ?_⟩
             refine Rk 55 2 [(tB 106 x104)] oi e8 fun kr i7 => ?_
             rcases Bool.eq_false_or_eq_true (x104) with es | es
             ·
              rw [es, cond_true] at p
              have oj : Kn 223 [] [(tB 106 true)] kr := (i7.setB 106 true (by rfl) es).kp
              refine Rk 57 4 [(tB 110 true)] oj e8 fun v1 ok => ?_
              refine wf ?_
              obtain rfl := Option.some.inj p
              exact Exists.intro _ ⟨_, rfl, ok.kp, (e8.cutRw 5), (Heap.le_trans a2 (Heap.le_trans a3 (Heap.le_trans a6 (Heap.le_trans a7 (Heap.le_trans bi (Heap.le_trans bj (Heap.le_trans bw (Heap.le_trans bk (Heap.le_trans br (Heap.le_trans bt (Heap.le_trans bg bl)))))))))))⟩
             ·
              rw [es, cond_false] at p
              have i8 : Kn 223 [] [(tB 106 false)] kr := (i7.setB 106 false (by rfl) es).kp
              obtain ⟨x107, ex107, p⟩ := bnd p
              refine wpFrom_loud _ rfl (wantedS_sound i8 (by kernel_rfl)) fun K hK => ?_
              refine wc [] i8 e8 (law_yard_ok n e8.has  ex107) fun xj ee yh l4 rh rl => ?_
              obtain ⟨_, rfl, ⟨_, _, rfl, ⟨dl, dt, rfl, hj⟩, ⟨_, _, rfl, rfl, ⟨dm, du, rfl, hl⟩⟩⟩⟩ := l4
              refine ⟨.one (.agg (K15c10 dl x107 dt dm du)), rfl, fun s9 (i9 : Kn 223 [] [(tA 107 (K15c10 dl x107 dt dm du)), (tB 106 false)] s9) => hK _ _ ?_⟩
              refine wpFrom_loud _ rfl (wantedS_sound i9 (by kernel_rfl)) fun K hK => ?_
              refine wS 3 1 [.int .i64 0, .int .i64 1, .int .i64 1] i9 rl fun d4 ta lf (ja : Kn 223 [] [(tS 108 d4 3 3), (tA 107 (K15c10 dl x107 dt dm du)), (tB 106 false)] ta) (j3 : Mem ⟨w, h, noX⟩ ee [] [] [⟨k, x24.length, l, 99, 6, b, (b : List Value).length⟩, ⟨m, x29.length, o, 99, 6, d, (d : List Value).length⟩, ⟨q, x34.length, s, 99, 6, e, (e : List Value).length⟩, ⟨aa, x41.length, ab, 99, 6, (f ++ a), ((f ++ a) : List Value).length⟩, ⟨u, x40.length, z, 99, 6, a, 0⟩, ⟨bz, 2, 2, 3, 1, ([.int .i64 1, .int .i64 2] : List Value), (([.int .i64 1, .int .i64 2] : List Value) : List Value).length⟩, ⟨b6, 2, 2, 3, 1, ([.int .i64 2, .int .i64 7] : List Value), (([.int .i64 2, .int .i64 7] : List Value) : List Value).length⟩, ⟨cg, 1, 1, 3, 1, ([.int .i64 6] : List Value), (([.int .i64 6] : List Value) : List Value).length⟩, ⟨cq, 3, 3, 3, 1, ([.int .i64 0, .int .i64 2, .int .i64 1] : List Value), (([.int .i64 0, .int .i64 2, .int .i64 1] : List Value) : List Value).length⟩, ⟨c8, 3, 3, 3, 1, ([.int .i64 0, .int .i64 2, .int .i64 1] : List Value), (([.int .i64 0, .int .i64 2, .int .i64 1] : List Value) : List Value).length⟩, ⟨d4, 3, 3, 3, 1, ([.int .i64 0, .int .i64 1, .int .i64 1] : List Value), 0⟩] lf) => ?_
              have gq : Cells ee ([0, 1, 1] : List Int) ([.int .i64 0, .int .i64 1, .int .i64 1] : List Value) := ⟨_, _, rfl, (rep_int : rep ee (0 : Int) _), ⟨_, _, rfl, (rep_int : rep ee (1 : Int) _), ⟨_, _, rfl, (rep_int : rep ee (1 : Int) _), rfl⟩⟩⟩
              refine hK _ _ ?_
              obtain ⟨gj, fh, sd, ft⟩ := j3.settle (i := 10) rfl
              replace hj := hj.mono fh
              replace hl := hl.mono fh
              replace gq := gq.mono fh
              replace ft : Mem ⟨w, h, noX⟩ gj [] [] [⟨k, x24.length, l, 99, 6, b, (b : List Value).length⟩, ⟨m, x29.length, o, 99, 6, d, (d : List Value).length⟩, ⟨q, x34.length, s, 99, 6, e, (e : List Value).length⟩, ⟨aa, x41.length, ab, 99, 6, (f ++ a), ((f ++ a) : List Value).length⟩, ⟨u, x40.length, z, 99, 6, a, 0⟩, ⟨bz, 2, 2, 3, 1, ([.int .i64 1, .int .i64 2] : List Value), (([.int .i64 1, .int .i64 2] : List Value) : List Value).length⟩, ⟨b6, 2, 2, 3, 1, ([.int .i64 2, .int .i64 7] : List Value), (([.int .i64 2, .int .i64 7] : List Value) : List Value).length⟩, ⟨cg, 1, 1, 3, 1, ([.int .i64 6] : List Value), (([.int .i64 6] : List Value) : List Value).length⟩, ⟨cq, 3, 3, 3, 1, ([.int .i64 0, .int .i64 2, .int .i64 1] : List Value), (([.int .i64 0, .int .i64 2, .int .i64 1] : List Value) : List Value).length⟩, ⟨c8, 3, 3, 3, 1, ([.int .i64 0, .int .i64 2, .int .i64 1] : List Value), (([.int .i64 0, .int .i64 2, .int .i64 1] : List Value) : List Value).length⟩, ⟨d4, 3, 3, 3, 1, ([.int .i64 0, .int .i64 1, .int .i64 1] : List Value), (([.int .i64 0, .int .i64 1, .int .i64 1] : List Value) : List Value).length⟩] lf := ft
              have r4 : RepS gj d4 3 ([0, 1, 1] : List Int) := ⟨_, gq, sd, j3.rowCap (i := 10) rfl⟩
              obtain ⟨x109, ex109, p⟩ := bnd p
              refine wpFrom_loud _ rfl (wantedS_sound ja (by kernel_rfl)) fun K hK => ?_
              refine wc [.agg (K15c10 dl x107 dt dm du), .c (.slice d4 3 3), .c (.int .i64 99)] ja ft (pit_ProvePlan_ok n ft.has x107 ((rep_pair (rep_slice hj) (rep_pair rep_int (rep_slice hl))) : rep gj x107 _) ([0, 1, 1] : List Int) r4 99 ex109) fun xk ur yi l5 ri j4 => ?_
              obtain rfl := l5
              refine ⟨.one (.c (.bool x109)), rfl, fun tb (ol : Kn 223 [] [(tB 109 x109), (tS 108 d4 3 3), (tA 107 (K15c10 dl x107 dt dm du)), (tB 106 false)] tb) => hK _ _ ?_⟩
              refine Rk 60 1 [(tB 110 x109)] ol j4 fun v2 om => ?_
              refine wf ?_
              obtain rfl := Option.some.inj p
              exact Exists.intro _ ⟨_, rfl, om.kp, (j4.cutRw 5), (Heap.le_trans a2 (Heap.le_trans a3 (Heap.le_trans a6 (Heap.le_trans a7 (Heap.le_trans bi (Heap.le_trans bj (Heap.le_trans bw (Heap.le_trans bk (Heap.le_trans br (Heap.le_trans bt (Heap.le_trans bg (Heap.le_trans bl (Heap.le_trans rh (Heap.le_trans fh ri))))))))))))))⟩
 ·
  rintro _ yj ⟨hq, gf, rfl, gr, fu, cd⟩
  replace bo := bo.mono cd
  replace dy := dy.mono cd
  replace bp := bp.mono cd
  replace c6 := c6.mono cd
  replace bq := bq.mono cd
  replace ea := ea.mono cd
  replace bn := bn.mono cd
  replace co := co.mono cd
  replace bb := bb.mono cd
  replace bd := bd.mono cd
  replace be := be.mono cd
  replace bc := bc.mono cd
  replace ba := ba.mono cd
  refine wC (gc) gr (fun go => ?_) (fun go => ?_)
  ·
   rw [go, cond_true] at H
   refine wp_seq (wp_region_from (Rk 0 1 [(tB 0 false)] gr fu fun v3 oo => ?_))
   refine wf (wp_ret ?_)
   obtain rfl := Option.some.inj H
   exact rt (.one (.c (.bool false))) oo fu rfl
  ·
   rw [go, cond_false] at H
   refine wp_skip (wp_seq (wp_region_from ?_))
   obtain ⟨x112, ex112, H⟩ := bnd H
   refine wl fun K hK => ?_
   refine wp_callO [] _ gr fu rfl rfl (by decide) (by rfl) rfl (fun _ _ => by kernel_rfl) (law_board_own n fu.has  ex112) fun xl mv lg vd l6 c4 fv => ?_
   obtain ⟨ak, am, ac, rfl, rfl, cy⟩ := l6
   replace fv : Mem ⟨w, h, noX⟩ mv [] [] [⟨k, x24.length, l, 99, 6, b, (b : List Value).length⟩, ⟨m, x29.length, o, 99, 6, d, (d : List Value).length⟩, ⟨q, x34.length, s, 99, 6, e, (e : List Value).length⟩, ⟨aa, x41.length, ab, 99, 6, (f ++ a), ((f ++ a) : List Value).length⟩, ⟨u, x40.length, z, 99, 6, a, 0⟩, ⟨ak, x112.length, am, 99, 6, ac, 0⟩] lg := fv
   refine ⟨.one (.c (.slice ak x112.length am)), rfl, fun tc (op : Kn 223 [] [(tS 112 ak x112.length am), (tB 110 gc)] tc) => hK _ _ ?_⟩
   obtain ⟨h6, ct, se, fw⟩ := fv.settle (i := 5) rfl
   replace cy := cy.mono ct
   replace fw : Mem ⟨w, h, noX⟩ h6 [] [] [⟨k, x24.length, l, 99, 6, b, (b : List Value).length⟩, ⟨m, x29.length, o, 99, 6, d, (d : List Value).length⟩, ⟨q, x34.length, s, 99, 6, e, (e : List Value).length⟩, ⟨aa, x41.length, ab, 99, 6, (f ++ a), ((f ++ a) : List Value).length⟩, ⟨u, x40.length, z, 99, 6, a, 0⟩, ⟨ak, x112.length, am, 99, 6, ac, (ac : List Value).length⟩] lg := fw
   have dz : RepS h6 ak am x112 := ⟨_, cy, se, fv.rowCap (i := 5) rfl⟩
   obtain ⟨x113, ex113, H⟩ := bnd H
   refine wl fun K hK => ?_
   refine wc [.c (.slice ak x112.length am), .c (.int .i64 100), .c (.int .i64 150)] op fw (pit_Open_ok n fw.has x112 dz 100 150 ex113) fun xm ut yk l7 cl gy => ?_
   obtain ⟨_, _, rfl, ⟨hr, hv, rfl, u5⟩, rfl⟩ := l7
   refine ⟨.tup [.c (.slice hr x113.1.length hv), .c (.int .i64 x113.2)], rfl, fun te (os : Kn 223 [] [(113, .tup [.c (.slice hr x113.1.length hv), .c (.int .i64 x113.2)]), (tS 112 ak x112.length am), (tB 110 gc)] te) => hK _ _ ?_⟩
   refine Rk 2 4 [(tI 2 x113.2)] os gy fun v4 ot => ?_
   refine wf (wp_seq (wp_region_from ?_))
   obtain ⟨x117, ex117, H⟩ := bnd H
   refine wl fun K hK => ?_
   refine wp_callO [] _ ot gy rfl rfl (by decide) (by rfl) rfl (fun _ _ => by kernel_rfl) (law_board_own n gy.has  ex117) fun xn mw lh ve l8 cm fx => ?_
   obtain ⟨aq, ar, ad, rfl, rfl, cz⟩ := l8
   replace fx : Mem ⟨w, h, noX⟩ mw [] [] [⟨k, x24.length, l, 99, 6, b, (b : List Value).length⟩, ⟨m, x29.length, o, 99, 6, d, (d : List Value).length⟩, ⟨q, x34.length, s, 99, 6, e, (e : List Value).length⟩, ⟨aa, x41.length, ab, 99, 6, (f ++ a), ((f ++ a) : List Value).length⟩, ⟨u, x40.length, z, 99, 6, a, 0⟩, ⟨ak, x112.length, am, 99, 6, ac, (ac : List Value).length⟩, ⟨aq, x117.length, ar, 99, 6, ad, 0⟩] lh := fx
   refine ⟨.one (.c (.slice aq x117.length ar)), rfl, fun tf (ou : Kn 223 [] [(tS 117 aq x117.length ar), (tI 2 x113.2)] tf) => hK _ _ ?_⟩
   obtain ⟨h8, ci, sf, fy⟩ := fx.settle (i := 6) rfl
   replace cz := cz.mono ci
   replace fy : Mem ⟨w, h, noX⟩ h8 [] [] [⟨k, x24.length, l, 99, 6, b, (b : List Value).length⟩, ⟨m, x29.length, o, 99, 6, d, (d : List Value).length⟩, ⟨q, x34.length, s, 99, 6, e, (e : List Value).length⟩, ⟨aa, x41.length, ab, 99, 6, (f ++ a), ((f ++ a) : List Value).length⟩, ⟨u, x40.length, z, 99, 6, a, 0⟩, ⟨ak, x112.length, am, 99, 6, ac, (ac : List Value).length⟩, ⟨aq, x117.length, ar, 99, 6, ad, (ad : List Value).length⟩] lh := fy
   have d0 : RepS h8 aq ar x117 := ⟨_, cz, sf, fx.rowCap (i := 6) rfl⟩
   obtain ⟨x118, ex118, H⟩ := bnd H
   refine wl fun K hK => ?_
   refine wc [.c (.slice aq x117.length ar), .c (.int .i64 1000001)] ou fy (pit_FitL_ok n fy.has x117 d0 1000001 ex118) fun xo uu yl l9 ce gz => ?_
   obtain ⟨_, _, rfl, ⟨hs, hw, rfl, u6⟩, rfl⟩ := l9
   refine ⟨.tup [.c (.slice hs x118.1.length hw), .c (.int .i64 x118.2)], rfl, fun tg (ov : Kn 223 [] [(118, .tup [.c (.slice hs x118.1.length hw), .c (.int .i64 x118.2)]), (tS 117 aq x117.length ar), (tI 2 x113.2)] tg) => hK _ _ ?_⟩
   refine Rk 2 4 [(tI 4 x118.2), (tI 2 x113.2)] ov gz fun v5 ow => ?_
   refine wf (wp_seq (wp_region_from ?_))
   obtain ⟨x122, ex122, H⟩ := bnd H
   refine wl fun K hK => ?_
   refine wp_callO [] _ ow gz rfl rfl (by decide) (by rfl) rfl (fun _ _ => by kernel_rfl) (law_board_own n gz.has  ex122) fun xp d6 t9 vf ma cf f0 => ?_
   obtain ⟨c9, db, aj, rfl, rfl, m1⟩ := ma
   replace f0 : Mem ⟨w, h, noX⟩ d6 [] [] [⟨k, x24.length, l, 99, 6, b, (b : List Value).length⟩, ⟨m, x29.length, o, 99, 6, d, (d : List Value).length⟩, ⟨q, x34.length, s, 99, 6, e, (e : List Value).length⟩, ⟨aa, x41.length, ab, 99, 6, (f ++ a), ((f ++ a) : List Value).length⟩, ⟨u, x40.length, z, 99, 6, a, 0⟩, ⟨ak, x112.length, am, 99, 6, ac, (ac : List Value).length⟩, ⟨aq, x117.length, ar, 99, 6, ad, (ad : List Value).length⟩, ⟨c9, x122.length, db, 99, 6, aj, 0⟩] t9 := f0
   refine ⟨.one (.c (.slice c9 x122.length db)), rfl, fun th (ox : Kn 223 [] [(tS 122 c9 x122.length db), (tI 4 x118.2), (tI 2 x113.2)] th) => hK _ _ ?_⟩
   refine Rk 1 1 [(tA 123 K15c4), (tS 122 c9 x122.length db), (tI 4 x118.2), (tI 2 x113.2)] ox f0 fun v6 oy => ?_
   refine wl fun K hK => ?_
   refine wS 99 6 K15c4 oy f0 fun av ti ua (oz : Kn 223 [] [(tS 124 av 1 1), (tA 123 K15c4), (tS 122 c9 x122.length db), (tI 4 x118.2), (tI 2 x113.2)] ti) (j5 : Mem ⟨w, h, noX⟩ d6 [] [] [⟨k, x24.length, l, 99, 6, b, (b : List Value).length⟩, ⟨m, x29.length, o, 99, 6, d, (d : List Value).length⟩, ⟨q, x34.length, s, 99, 6, e, (e : List Value).length⟩, ⟨aa, x41.length, ab, 99, 6, (f ++ a), ((f ++ a) : List Value).length⟩, ⟨u, x40.length, z, 99, 6, a, 0⟩, ⟨ak, x112.length, am, 99, 6, ac, (ac : List Value).length⟩, ⟨aq, x117.length, ar, 99, 6, ad, (ad : List Value).length⟩, ⟨c9, x122.length, db, 99, 6, aj, 0⟩, ⟨av, 1, 1, 99, 6, ([.int .i64 7, .int .i64 7, .int .i64 311, .int .u8 0, .int .i64 5, .int .i64 0] : List Value), 0⟩] ua) => ?_
   have c0 : Cells d6 ([(Card.mk 7 7 311 (IK.mk 0) 5 0)] : List Card) ([.int .i64 7, .int .i64 7, .int .i64 311, .int .u8 0, .int .i64 5, .int .i64 0] : List Value) := ⟨_, _, rfl, ((rep_pair rep_int (rep_pair rep_int (rep_pair rep_int (rep_pair rep_ik (rep_pair rep_int rep_int))))) : rep d6 ((Card.mk 7 7 311 (IK.mk 0) 5 0) : Card) _), rfl⟩
   refine hK _ _ ?_
   obtain ⟨x125, ex125, H⟩ := bnd H
   obtain ⟨hp, rf⟩ := app_some ex125
   refine wl fun K hK => ?_
   refine wp_append 7 48 1 _ (x125.length) _ ([.int .i64 7, .int .i64 7, .int .i64 311, .int .u8 0, .int .i64 5, .int .i64 0] : List Value) oz j5 rfl rfl (by decide) rfl (by rfl) (by kernel_rfl) (by rfl) (by rfl) (Cells.len c0) (j5.rowCell (i := 8) rfl) c0.one (by rw [hp]; simp <;> omega) (by rw [hp]; exact rf) (by decide) fun aw ay h0 tj lj m3 (o0 : Kn 223 [] [(tS 125 aw x125.length ay), (tS 124 av 1 1), (tA 123 K15c4), (tS 122 c9 x122.length db), (tI 4 x118.2), (tI 2 x113.2)] tj) (j6 : Mem ⟨w, h, noX⟩ d6 [] [] [⟨k, x24.length, l, 99, 6, b, (b : List Value).length⟩, ⟨m, x29.length, o, 99, 6, d, (d : List Value).length⟩, ⟨q, x34.length, s, 99, 6, e, (e : List Value).length⟩, ⟨aa, x41.length, ab, 99, 6, (f ++ a), ((f ++ a) : List Value).length⟩, ⟨u, x40.length, z, 99, 6, a, 0⟩, ⟨ak, x112.length, am, 99, 6, ac, (ac : List Value).length⟩, ⟨aq, x117.length, ar, 99, 6, ad, (ad : List Value).length⟩, ⟨aw, x125.length, ay, 99, 6, (aj ++ ([.int .i64 7, .int .i64 7, .int .i64 311, .int .u8 0, .int .i64 5, .int .i64 0] : List Value)), h0⟩, ⟨av, 1, 1, 99, 6, ([.int .i64 7, .int .i64 7, .int .i64 311, .int .u8 0, .int .i64 5, .int .i64 0] : List Value), 0⟩] lj) => ?_
   have c1 : Cells d6 x125 (aj ++ ([.int .i64 7, .int .i64 7, .int .i64 311, .int .u8 0, .int .i64 5, .int .i64 0] : List Value)) := by rw [hp]; exact Cells.append m1 c0
   obtain rfl : h0 = 0 := Nat.le_zero.1 m3
   refine hK _ _ ?_
   obtain ⟨h9, b5, sh, f1⟩ := j6.settle (i := 7) rfl
   replace c1 := c1.mono b5
   replace f1 : Mem ⟨w, h, noX⟩ h9 [] [] (K15r13 k x24 l b m x29 o d q x34 s e aa x41 ab f a u x40 z ak x112 am ac aq x117 ar ad aw x125 ay aj av) lj := f1
   have d1 : RepS h9 aw ay x125 := ⟨_, c1, sh, j6.rowCap (i := 7) rfl⟩
   obtain ⟨x126, ex126, H⟩ := bnd H
   refine wl fun K hK => ?_
   refine wc [.c (.slice aw x125.length ay)] o0 f1 (pit_Void_ok n f1.has x125 d1 ex126) fun xr mx ym mb b0 f2 => ?_
   obtain ⟨_, _, rfl, ⟨ht, hx, rfl, u7⟩, rfl⟩ := mb
   refine ⟨.tup [.c (.slice ht x126.1.length hx), .c (.int .i64 x126.2)], rfl, fun tk (o1 : Kn 223 [] [(126, .tup [.c (.slice ht x126.1.length hx), .c (.int .i64 x126.2)]), (tS 125 aw x125.length ay), (tS 124 av 1 1), (tA 123 K15c4), (tS 122 c9 x122.length db), (tI 4 x118.2), (tI 2 x113.2)] tk) => hK _ _ ?_⟩
   refine Rk 5 4 [(tI 6 x126.2), (tI 4 x118.2), (tI 2 x113.2)] o1 f2 fun v7 o2 => ?_
   refine wf (wp_seq (wp_region_from (Rk 0 1 [(tA 130 K15c5), (tI 6 x126.2), (tI 4 x118.2), (tI 2 x113.2)] o2 f2 fun v8 o3 => ?_)))
   obtain ⟨x131, ex131, H⟩ := bnd H
   refine wl fun K hK => ?_
   refine wc [.agg K15c5] o3 f2 (pit_Due_ok n f2.has (Wear.mk (Rg.mk 0 0) (Rg.mk 0 0) 0 1 0) ((rep_pair (rep_pair rep_int rep_int) (rep_pair (rep_pair rep_int rep_int) (rep_pair rep_int (rep_pair rep_int rep_int)))) : rep mx (Wear.mk (Rg.mk 0 0) (Rg.mk 0 0) 0 1 0) _) ex131) fun xs gk yo md b1 g0 => ?_
   obtain ⟨_, _, _, rfl, rfl, rfl, rfl⟩ := md
   refine ⟨.tup [.c (.int .i64 x131.1), .c (.int .i64 x131.2.1), .c (.int .i64 x131.2.2)], rfl, fun tl (o4 : Kn 223 [] [(131, .tup [.c (.int .i64 x131.1), .c (.int .i64 x131.2.1), .c (.int .i64 x131.2.2)]), (tA 130 K15c5), (tI 6 x126.2), (tI 4 x118.2), (tI 2 x113.2)] tl) => hK _ _ ?_⟩
   refine Rk 2 5 [(tI 8 x131.2.2), (tI 6 x126.2), (tI 4 x118.2), (tI 2 x113.2)] o4 g0 fun v9 o5 => ?_
   refine wf (wp_seq (wp_region_from (Rk 0 1 [(tA 135 K15c6), (tI 8 x131.2.2), (tI 6 x126.2), (tI 4 x118.2), (tI 2 x113.2)] o5 g0 fun wb o6 => ?_)))
   refine wl fun K hK => ?_
   refine wa [.int .i64 0, .int .i64 0, .int .i64 0, .int .i64 0, .int .i64 0, .int .i64 0, .int .i64 0] o6 g0 fun g ks ub (o7 : Kn 223 [(g, 0)] [(tP 11 0 0), (tA 135 K15c6), (tI 8 x131.2.2), (tI 6 x126.2), (tI 4 x118.2), (tI 2 x113.2)] ks) (rm : Mem ⟨w, h, noX⟩ gk [(g, 0)] [⟨[.int .i64 0, .int .i64 0, .int .i64 0, .int .i64 0, .int .i64 0, .int .i64 0, .int .i64 0], some 53⟩] (K15r13 k x24 l b m x29 o d q x34 s e aa x41 ab f a u x40 z ak x112 am ac aq x117 ar ad aw x125 ay aj av) ub) => hK _ _ ?_
   refine wl fun K hK => ?_
   refine wst 0 0 (.agg K15c6) K15c6 o7 rm fun uc o8 (g1 : Mem ⟨w, h, noX⟩ gk [(g, 0)] [⟨K15c6, some 53⟩] (K15r13 k x24 l b m x29 o d q x34 s e aa x41 ab f a u x40 z ak x112 am ac aq x117 ar ad aw x125 ay aj av) uc) => hK _ _ ?_
   have o9 : Kn 223 [(g, 0)] [(tP 11 0 0), (tI 8 x131.2.2), (tI 6 x126.2), (tI 4 x118.2), (tI 2 x113.2)] ks := o8.kp
   refine wf (wp_seq (wp_region_from (Rk 0 1 [(tA 137 K15c6), (tP 11 0 0), (tI 8 x131.2.2), (tI 6 x126.2), (tI 4 x118.2), (tI 2 x113.2)] o9 g1 fun wd pa => ?_)))
   obtain ⟨x138, ex138, H⟩ := bnd H
   refine wl fun K hK => ?_
   refine wc [.agg K15c6, .c (.int .i64 1), .c (.slice none 0 0)] pa g1 (pit_Over_ok n g1.has (Wear.mk (Rg.mk 0 0) (Rg.mk 0 0) 0 1 1) ((rep_pair (rep_pair rep_int rep_int) (rep_pair (rep_pair rep_int rep_int) (rep_pair rep_int (rep_pair rep_int rep_int)))) : rep gk (Wear.mk (Rg.mk 0 0) (Rg.mk 0 0) 0 1 1) _) 1 ([] : List Int) RepS.nil ex138) fun xt my yp me b2 f3 => ?_
   obtain ⟨_, _, rfl, rfl, rfl⟩ := me
   refine ⟨.tup [.c (.bool x138.1), .c (.int .i64 x138.2)], rfl, fun tm (pb : Kn 223 [(g, 0)] [(138, .tup [.c (.bool x138.1), .c (.int .i64 x138.2)]), (tA 137 K15c6), (tP 11 0 0), (tI 8 x131.2.2), (tI 6 x126.2), (tI 4 x118.2), (tI 2 x113.2)] tm) => hK _ _ ?_⟩
   refine Rk 2 4 [(tI 10 x138.2), (tP 11 0 0), (tI 8 x131.2.2), (tI 6 x126.2), (tI 4 x118.2), (tI 2 x113.2)] pb f3 fun we pc => ?_
   refine wf (wp_seq (wp_region_from (Rk 0 1 [(tA 142 K15c6), (tI 10 x138.2), (tI 8 x131.2.2), (tI 6 x126.2), (tI 4 x118.2), (tI 2 x113.2)] pc f3 fun wg pd => ?_)))
   obtain ⟨x143, ex143, H⟩ := bnd H
   refine wl fun K hK => ?_
   refine wc [.agg K15c6, .c (.int .i64 0), .c (.slice none 0 0)] pd f3 (pit_Over_ok n f3.has (Wear.mk (Rg.mk 0 0) (Rg.mk 0 0) 0 1 1) ((rep_pair (rep_pair rep_int rep_int) (rep_pair (rep_pair rep_int rep_int) (rep_pair rep_int (rep_pair rep_int rep_int)))) : rep my (Wear.mk (Rg.mk 0 0) (Rg.mk 0 0) 0 1 1) _) 0 ([] : List Int) RepS.nil ex143) fun xu uw yq mf b3 g3 => ?_
   obtain ⟨_, _, rfl, rfl, rfl⟩ := mf
   refine ⟨.tup [.c (.bool x143.1), .c (.int .i64 x143.2)], rfl, fun tn (pe : Kn 223 [(g, 0)] [(143, .tup [.c (.bool x143.1), .c (.int .i64 x143.2)]), (tA 142 K15c6), (tI 10 x138.2), (tI 8 x131.2.2), (tI 6 x126.2), (tI 4 x118.2), (tI 2 x113.2)] tn) => hK _ _ ?_⟩
   refine Rk 2 5 (K15m15 x143 x138 x131 x126 x118 x113) pe g3 fun wh pf => ?_
   refine wf (wp_seq (wp_region_from ?_))
   obtain ⟨x146, ex146, H⟩ := bnd H
   refine wl fun K hK => ?_
   refine wc [] pf g3 (law_yard_ok n g3.has  ex146) fun xv dc yr mg b4 rn => ?_
   obtain ⟨_, rfl, ⟨_, _, rfl, ⟨ax, az, rfl, c7⟩, ⟨_, _, rfl, rfl, ⟨cv, cw, rfl, u9⟩⟩⟩⟩ := mg
   refine ⟨.one (.agg (K15c11 ax x146 az cv cw)), rfl, fun tp (pg : Kn 223 [(g, 0)] ((tA 146 (K15c11 ax x146 az cv cw)) :: (K15m15 x143 x138 x131 x126 x118 x113)) tp) => hK _ _ ?_⟩
   refine wl fun K hK => ?_
   refine wa K15c2 pg rn fun j kt ud (ph : Kn 223 [(g, 0), (j, 0)] ((tP 14 1 0) :: (tA 146 (K15c11 ax x146 az cv cw)) :: (K15m15 x143 x138 x131 x126 x118 x113)) kt) (ro : Mem ⟨w, h, noX⟩ dc [(g, 0), (j, 0)] [⟨K15c6, some 53⟩, ⟨K15c2, some 79⟩] (K15r13 k x24 l b m x29 o d q x34 s e aa x41 ab f a u x40 z ak x112 am ac aq x117 ar ad aw x125 ay aj av) ud) => hK _ _ ?_
   refine wl fun K hK => ?_
   refine wst 1 0 (.agg (K15c11 ax x146 az cv cw)) (K15c11 ax x146 az cv cw) ph ro fun ue pi (rp : Mem ⟨w, h, noX⟩ dc [(g, 0), (j, 0)] [⟨K15c6, some 53⟩, ⟨(K15c11 ax x146 az cv cw), some 79⟩] (K15r13 k x24 l b m x29 o d q x34 s e aa x41 ab f a u x40 z ak x112 am ac aq x117 ar ad aw x125 ay aj av) ue) => hK _ _ ?_
   have pj : Kn 223 [(g, 0), (j, 0)] ((tP 14 1 0) :: (K15m15 x143 x138 x131 x126 x118 x113)) kt := pi.kp
   refine wf (wp_seq (wp_region_from (wl fun K hK => ?_)))
   refine wS 3 1 [.int .i64 6, .int .i64 9, .int .i64 6] pj rp fun ai tr uf (pl : Kn 223 [(g, 0), (j, 0)] ((tS 147 ai 3 3) :: (tP 14 1 0) :: (K15m15 x143 x138 x131 x126 x118 x113)) tr) (j7 : Mem ⟨w, h, noX⟩ dc [(g, 0), (j, 0)] [⟨K15c6, some 53⟩, ⟨(K15c11 ax x146 az cv cw), some 79⟩] [⟨k, x24.length, l, 99, 6, b, (b : List Value).length⟩, ⟨m, x29.length, o, 99, 6, d, (d : List Value).length⟩, ⟨q, x34.length, s, 99, 6, e, (e : List Value).length⟩, ⟨aa, x41.length, ab, 99, 6, (f ++ a), ((f ++ a) : List Value).length⟩, ⟨u, x40.length, z, 99, 6, a, 0⟩, ⟨ak, x112.length, am, 99, 6, ac, (ac : List Value).length⟩, ⟨aq, x117.length, ar, 99, 6, ad, (ad : List Value).length⟩, ⟨aw, x125.length, ay, 99, 6, (aj ++ ([.int .i64 7, .int .i64 7, .int .i64 311, .int .u8 0, .int .i64 5, .int .i64 0] : List Value)), ((aj ++ ([.int .i64 7, .int .i64 7, .int .i64 311, .int .u8 0, .int .i64 5, .int .i64 0] : List Value)) : List Value).length⟩, ⟨av, 1, 1, 99, 6, ([.int .i64 7, .int .i64 7, .int .i64 311, .int .u8 0, .int .i64 5, .int .i64 0] : List Value), 0⟩, ⟨ai, 3, 3, 3, 1, ([.int .i64 6, .int .i64 9, .int .i64 6] : List Value), 0⟩] uf) => ?_
   have c2 : Cells dc ([6, 9, 6] : List Int) ([.int .i64 6, .int .i64 9, .int .i64 6] : List Value) := ⟨_, _, rfl, (rep_int : rep dc (6 : Int) _), ⟨_, _, rfl, (rep_int : rep dc (9 : Int) _), ⟨_, _, rfl, (rep_int : rep dc (6 : Int) _), rfl⟩⟩⟩
   refine hK _ _ ?_
   refine Rk 1 1 ((tP 148 1 2) :: (tS 147 ai 3 3) :: (tP 14 1 0) :: (K15m15 x143 x138 x131 x126 x118 x113)) pl j7 fun ts pm => ?_
   refine wl fun K hK => ?_
   refine wst 1 2 (.c (.slice ai 3 3)) (K15c3 ax x146 az ai) pm j7 fun lk pn (g4 : Mem ⟨w, h, noX⟩ dc [(g, 0), (j, 0)] [⟨K15c6, some 53⟩, ⟨(K15c3 ax x146 az ai), some 79⟩] [⟨k, x24.length, l, 99, 6, b, (b : List Value).length⟩, ⟨m, x29.length, o, 99, 6, d, (d : List Value).length⟩, ⟨q, x34.length, s, 99, 6, e, (e : List Value).length⟩, ⟨aa, x41.length, ab, 99, 6, (f ++ a), ((f ++ a) : List Value).length⟩, ⟨u, x40.length, z, 99, 6, a, 0⟩, ⟨ak, x112.length, am, 99, 6, ac, (ac : List Value).length⟩, ⟨aq, x117.length, ar, 99, 6, ad, (ad : List Value).length⟩, ⟨aw, x125.length, ay, 99, 6, (aj ++ ([.int .i64 7, .int .i64 7, .int .i64 311, .int .u8 0, .int .i64 5, .int .i64 0] : List Value)), ((aj ++ ([.int .i64 7, .int .i64 7, .int .i64 311, .int .u8 0, .int .i64 5, .int .i64 0] : List Value)) : List Value).length⟩, ⟨av, 1, 1, 99, 6, ([.int .i64 7, .int .i64 7, .int .i64 311, .int .u8 0, .int .i64 5, .int .i64 0] : List Value), 0⟩, ⟨ai, 3, 3, 3, 1, ([.int .i64 6, .int .i64 9, .int .i64 6] : List Value), 0⟩] lk) => hK _ _ ?_
   have po : Kn 223 [(g, 0), (j, 0)] ((tP 14 1 0) :: (K15m15 x143 x138 x131 x126 x118 x113)) ts := pn.kp
   refine wf (wp_seq (wp_region_from (Rk 0 1 ((tA 150 (K15c3 ax x146 az ai)) :: (K15m15 x143 x138 x131 x126 x118 x113)) po g4 fun wi pp => ?_)))
   obtain ⟨gl, bx, si, f4⟩ := g4.settle (i := 9) rfl
   replace c7 := c7.mono bx
   replace c2 := c2.mono bx
   replace f4 : Mem ⟨w, h, noX⟩ gl [(g, 0), (j, 0)] [⟨K15c6, some 53⟩, ⟨(K15c3 ax x146 az ai), some 79⟩] (K15r14 k x24 l b m x29 o d q x34 s e aa x41 ab f a u x40 z ak x112 am ac aq x117 ar ad aw x125 ay aj av ai) lk := f4
   have d2 : RepS gl ai 3 ([6, 9, 6] : List Int) := ⟨_, c2, si, g4.rowCap (i := 9) rfl⟩
   obtain ⟨x151, ex151, H⟩ := bnd H
   refine wl fun K hK => ?_
   refine wc [.agg (K15c3 ax x146 az ai)] pp f4 (pit_Short_ok n f4.has (Shop.mk x146.buses x146.days ([6, 9, 6] : List Int)) ((rep_pair (rep_slice c7) (rep_pair rep_int (rep_slice d2))) : rep gl (Shop.mk x146.buses x146.days ([6, 9, 6] : List Int)) _) ex151) fun xw ux ys mh bu g5 => ?_
   obtain ⟨_, _, rfl, rfl, rfl⟩ := mh
   refine ⟨.tup [.c (.int .i64 x151.1), .c (.int .i64 x151.2)], rfl, fun tt (pr : Kn 223 [(g, 0), (j, 0)] ((151, .tup [.c (.int .i64 x151.1), .c (.int .i64 x151.2)]) :: (tA 150 (K15c3 ax x146 az ai)) :: (K15m15 x143 x138 x131 x126 x118 x113)) tt) => hK _ _ ?_⟩
   refine Rk 2 5 ((tI 16 x151.2) :: (K15m15 x143 x138 x131 x126 x118 x113)) pr g5 fun wk ps => ?_
   refine wf (wp_seq (wp_region_from ?_))
   obtain ⟨x154, ex154, H⟩ := bnd H
   refine wl fun K hK => ?_
   refine wc [] ps g5 (law_yard_ok n g5.has  ex154) fun xx ef yt mi bv rq => ?_
   obtain ⟨_, rfl, ⟨_, _, rfl, ⟨b7, b8, rfl, r5⟩, ⟨_, _, rfl, rfl, ⟨ap, ao, rfl, ka⟩⟩⟩⟩ := mi
   refine ⟨.one (.agg (K15c12 b7 x154 b8 ap ao)), rfl, fun tu (pt : Kn 223 [(g, 0), (j, 0)] ((tA 154 (K15c12 b7 x154 b8 ap ao)) :: (tI 16 x151.2) :: (K15m15 x143 x138 x131 x126 x118 x113)) tu) => hK _ _ ?_⟩
   refine wl fun K hK => ?_
   refine wa K15c2 pt rq fun y ku ug (pu : Kn 223 (K15e1 g j y) ((tP 17 2 0) :: (tA 154 (K15c12 b7 x154 b8 ap ao)) :: (tI 16 x151.2) :: (K15m15 x143 x138 x131 x126 x118 x113)) ku) (rr : Mem ⟨w, h, noX⟩ ef (K15e1 g j y) [⟨K15c6, some 53⟩, ⟨(K15c3 ax x146 az ai), some 79⟩, ⟨K15c2, some 79⟩] (K15r14 k x24 l b m x29 o d q x34 s e aa x41 ab f a u x40 z ak x112 am ac aq x117 ar ad aw x125 ay aj av ai) ug) => hK _ _ ?_
   refine wl fun K hK => ?_
   refine wst 2 0 (.agg (K15c12 b7 x154 b8 ap ao)) (K15c12 b7 x154 b8 ap ao) pu rr fun uh pv (g6 : Mem ⟨w, h, noX⟩ ef (K15e1 g j y) [⟨K15c6, some 53⟩, ⟨(K15c3 ax x146 az ai), some 79⟩, ⟨(K15c12 b7 x154 b8 ap ao), some 79⟩] (K15r14 k x24 l b m x29 o d q x34 s e aa x41 ab f a u x40 z ak x112 am ac aq x117 ar ad aw x125 ay aj av ai) uh) => hK _ _ ?_
   have pw : Kn 223 (K15e1 g j y) ((tP 17 2 0) :: (tI 16 x151.2) :: (K15m15 x143 x138 x131 x126 x118 x113)) ku := pv.kp
   refine wf (wp_seq (wp_region_from (Rk 0 2 ((tS 156 ap x154.pits.length ao) :: (tP 17 2 0) :: (tI 16 x151.2) :: (K15m15 x143 x138 x131 x126 x118 x113)) pw g6 fun wm jb => ?_)))
   obtain ⟨x157, ex157, H⟩ := bnd H
   obtain ⟨ru, u4, kb⟩ := subTo_some ex157
   have u1 : x154.pits.length ≤ ao := ka.cap
   have cu : RepS ef ap ao x157 := by rw [kb]; exact ka.take _
   have rs : (2 : Int).toNat = x157.length := by rw [kb, List.length_take]; omega
   refine R_one 2 (.one (.c (.slice ap x157.length ao))) rfl (rfl) rfl (run_sliceT (T := 29) (E := 3) (sz := 1) jb rfl rfl rfl (by kernel_rfl) (by kernel_rfl) ru (by omega) rs) (jb.put (by decide) _) fun tv (px : Kn 223 (K15e1 g j y) ((tS 157 ap x157.length ao) :: (tS 156 ap x154.pits.length ao) :: (tP 17 2 0) :: (tI 16 x151.2) :: (K15m15 x143 x138 x131 x126 x118 x113)) tv) => ?_
   refine Rk 3 1 ((tP 158 2 2) :: (tS 157 ap x157.length ao) :: (tP 17 2 0) :: (tI 16 x151.2) :: (K15m15 x143 x138 x131 x126 x118 x113)) px g6 fun tw py => ?_
   refine wl fun K hK => ?_
   refine wst 2 2 (.c (.slice ap x157.length ao)) [.slice b7 x154.buses.length b8, .int .i64 x154.days, .slice ap x157.length ao] py g6 fun ui pz (g7 : Mem ⟨w, h, noX⟩ ef (K15e1 g j y) [⟨K15c6, some 53⟩, ⟨(K15c3 ax x146 az ai), some 79⟩, ⟨[.slice b7 x154.buses.length b8, .int .i64 x154.days, .slice ap x157.length ao], some 79⟩] (K15r14 k x24 l b m x29 o d q x34 s e aa x41 ab f a u x40 z ak x112 am ac aq x117 ar ad aw x125 ay aj av ai) ui) => hK _ _ ?_
   have p0 : Kn 223 (K15e1 g j y) ((tP 17 2 0) :: (tI 16 x151.2) :: (K15m15 x143 x138 x131 x126 x118 x113)) tw := pz.kp
   refine wf (wp_seq (wp_region_from (Rk 0 1 ((tA 160 [.slice b7 x154.buses.length b8, .int .i64 x154.days, .slice ap x157.length ao]) :: (tP 17 2 0) :: (tI 16 x151.2) :: (K15m15 x143 x138 x131 x126 x118 x113)) p0 g7 fun wn p1 => ?_)))
   obtain ⟨x161, ex161, H⟩ := bnd H
   refine wl fun K hK => ?_
   refine wc [.agg [.slice b7 x154.buses.length b8, .int .i64 x154.days, .slice ap x157.length ao]] p1 g7 (pit_Best_ok n g7.has (Shop.mk x154.buses x154.days x157) ((rep_pair (rep_slice r5) (rep_pair rep_int (rep_slice cu))) : rep ef (Shop.mk x154.buses x154.days x157) _) ex161) fun xz gm yu ml bs j8 => ?_
   obtain ⟨_, _, _, rfl, ⟨hu, hy, rfl, va⟩, rfl, rfl⟩ := ml
   refine ⟨.tup [.c (.slice hu x161.1.length hy), .c (.int .i64 x161.2.1), .c (.int .i64 x161.2.2)], rfl, fun tx (p2 : Kn 223 (K15e1 g j y) ((161, .tup [.c (.slice hu x161.1.length hy), .c (.int .i64 x161.2.1), .c (.int .i64 x161.2.2)]) :: (tA 160 [.slice b7 x154.buses.length b8, .int .i64 x154.days, .slice ap x157.length ao]) :: (tP 17 2 0) :: (tI 16 x151.2) :: (K15m15 x143 x138 x131 x126 x118 x113)) tx) => hK _ _ ?_⟩
   refine Rk 2 7 ((tI 20 x161.2.2) :: (tP 17 2 0) :: (tI 16 x151.2) :: (K15m15 x143 x138 x131 x126 x118 x113)) p2 j8 fun wo p3 => ?_
   refine wf (wp_seq (wp_region_from ?_))
   obtain ⟨x165, ex165, H⟩ := bnd H
   obtain ⟨rv, rz, kc⟩ := mk_some ex165
   refine wl fun K hK => ?_
   refine wp_makeSlice 120 3 24 [.int .i64 0, .int .i64 0, .int .i64 0] (9) p3 j8 rfl rfl (by decide) (by rfl) (by kernel_rfl) (by kernel_rfl) (by rfl) rv rz (by decide) fun a9 ty uj (jc : Kn 223 [(g, 0), (j, 0), (y, 0)] [(165, .one (.c (.slice a9 ((9 : Int).toNat) ((9 : Int).toNat)))), (20, .one (.c (.int .i64 x161.2.2))), (17, .one (.c (.ptr 2 0))), (16, .one (.c (.int .i64 x151.2))), (13, .one (.c (.int .i64 x143.2))), (12, .one (.c (.bool x143.1))), (10, .one (.c (.int .i64 x138.2))), (8, .one (.c (.int .i64 x131.2.2))), (6, .one (.c (.int .i64 x126.2))), (4, .one (.c (.int .i64 x118.2))), (2, .one (.c (.int .i64 x113.2)))] ty) (g8 : Mem ⟨w, h, noX⟩ gm [(g, 0), (j, 0), (y, 0)] [⟨[.int .i64 0, .int .i64 0, .int .i64 0, .int .i64 0, .int .i64 0, .int .i64 1, .int .i64 1], some 53⟩, ⟨[.slice ax x146.buses.length az, .int .i64 x146.days, .slice ai 3 3], some 79⟩, ⟨[.slice b7 x154.buses.length b8, .int .i64 x154.days, .slice ap x157.length ao], some 79⟩] [⟨k, x24.length, l, 99, 6, b, (b : List Value).length⟩, ⟨m, x29.length, o, 99, 6, d, (d : List Value).length⟩, ⟨q, x34.length, s, 99, 6, e, (e : List Value).length⟩, ⟨aa, x41.length, ab, 99, 6, (f ++ a), ((f ++ a) : List Value).length⟩, ⟨u, x40.length, z, 99, 6, a, 0⟩, ⟨ak, x112.length, am, 99, 6, ac, (ac : List Value).length⟩, ⟨aq, x117.length, ar, 99, 6, ad, (ad : List Value).length⟩, ⟨aw, x125.length, ay, 99, 6, (aj ++ ([.int .i64 7, .int .i64 7, .int .i64 311, .int .u8 0, .int .i64 5, .int .i64 0] : List Value)), ((aj ++ ([.int .i64 7, .int .i64 7, .int .i64 311, .int .u8 0, .int .i64 5, .int .i64 0] : List Value)) : List Value).length⟩, ⟨av, 1, 1, 99, 6, ([.int .i64 7, .int .i64 7, .int .i64 311, .int .u8 0, .int .i64 5, .int .i64 0] : List Value), 0⟩, ⟨ai, 3, 3, 3, 1, ([.int .i64 6, .int .i64 9, .int .i64 6] : List Value), (([.int .i64 6, .int .i64 9, .int .i64 6] : List Value) : List Value).length⟩, ⟨a9, (9 : Int).toNat, (9 : Int).toNat, 120, 3, (List.flatten (List.replicate (9 : Int).toNat ([.int .i64 0, .int .i64 0, .int .i64 0] : List Value))), 0⟩] uj) => ?_
   have cr : Cells gm x165 (List.flatten (List.replicate (9 : Int).toNat ([.int .i64 0, .int .i64 0, .int .i64 0] : List Value))) := by rw [kc]; exact Cells.replicate (α := Job) (x := (Job.mk 0 0 0)) (rep_pair rep_int (rep_pair rep_int rep_int)) _
   have js : (9 : Int).toNat = x165.length := by rw [kc]; simp
   rw [js] at jc g8
   skip
   rw [js] at cr
   refine hK _ _ ?_
   refine Rk 1 1 ((tP 166 2 0) :: (tS 165 a9 x165.length x165.length) :: (tI 20 x161.2.2) :: (tP 17 2 0) :: (tI 16 x151.2) :: (K15m15 x143 x138 x131 x126 x118 x113)) jc g8 fun tz p4 => ?_
   refine wl fun K hK => ?_
   refine wst 2 0 (.c (.slice a9 x165.length x165.length)) (K15c7 a9 x165 x154 ap x157 ao) p4 g8 fun lm p5 (g9 : Mem ⟨w, h, noX⟩ gm (K15e1 g j y) [⟨K15c6, some 53⟩, ⟨(K15c3 ax x146 az ai), some 79⟩, ⟨(K15c7 a9 x165 x154 ap x157 ao), some 79⟩] [⟨k, x24.length, l, 99, 6, b, (b : List Value).length⟩, ⟨m, x29.length, o, 99, 6, d, (d : List Value).length⟩, ⟨q, x34.length, s, 99, 6, e, (e : List Value).length⟩, ⟨aa, x41.length, ab, 99, 6, (f ++ a), ((f ++ a) : List Value).length⟩, ⟨u, x40.length, z, 99, 6, a, 0⟩, ⟨ak, x112.length, am, 99, 6, ac, (ac : List Value).length⟩, ⟨aq, x117.length, ar, 99, 6, ad, (ad : List Value).length⟩, ⟨aw, x125.length, ay, 99, 6, (aj ++ ([.int .i64 7, .int .i64 7, .int .i64 311, .int .u8 0, .int .i64 5, .int .i64 0] : List Value)), ((aj ++ ([.int .i64 7, .int .i64 7, .int .i64 311, .int .u8 0, .int .i64 5, .int .i64 0] : List Value)) : List Value).length⟩, ⟨av, 1, 1, 99, 6, ([.int .i64 7, .int .i64 7, .int .i64 311, .int .u8 0, .int .i64 5, .int .i64 0] : List Value), 0⟩, ⟨ai, 3, 3, 3, 1, ([.int .i64 6, .int .i64 9, .int .i64 6] : List Value), (([.int .i64 6, .int .i64 9, .int .i64 6] : List Value) : List Value).length⟩, ⟨a9, x165.length, x165.length, 120, 3, (List.flatten (List.replicate x165.length ([.int .i64 0, .int .i64 0, .int .i64 0] : List Value))), 0⟩] lm) => hK _ _ ?_
   have p6 : Kn 223 (K15e1 g j y) ((tI 20 x161.2.2) :: (tP 17 2 0) :: (tI 16 x151.2) :: (K15m15 x143 x138 x131 x126 x118 x113)) tz := p5.kp
   refine wf (wp_seq (wp_region_from (Rk 0 1 ((tA 168 (K15c7 a9 x165 x154 ap x157 ao)) :: (tI 20 x161.2.2) :: (tI 16 x151.2) :: (K15m15 x143 x138 x131 x126 x118 x113)) p6 g9 fun wp p7 => ?_)))
   obtain ⟨gn, bm, sj, f6⟩ := g9.settle (i := 10) rfl
   replace cu := cu.mono (Heap.le_trans bs bm)
   replace cr := cr.mono bm
   replace f6 : Mem ⟨w, h, noX⟩ gn (K15e1 g j y) [⟨K15c6, some 53⟩, ⟨(K15c3 ax x146 az ai), some 79⟩, ⟨(K15c7 a9 x165 x154 ap x157 ao), some 79⟩] [⟨k, x24.length, l, 99, 6, b, (b : List Value).length⟩, ⟨m, x29.length, o, 99, 6, d, (d : List Value).length⟩, ⟨q, x34.length, s, 99, 6, e, (e : List Value).length⟩, ⟨aa, x41.length, ab, 99, 6, (f ++ a), ((f ++ a) : List Value).length⟩, ⟨u, x40.length, z, 99, 6, a, 0⟩, ⟨ak, x112.length, am, 99, 6, ac, (ac : List Value).length⟩, ⟨aq, x117.length, ar, 99, 6, ad, (ad : List Value).length⟩, ⟨aw, x125.length, ay, 99, 6, (aj ++ ([.int .i64 7, .int .i64 7, .int .i64 311, .int .u8 0, .int .i64 5, .int .i64 0] : List Value)), ((aj ++ ([.int .i64 7, .int .i64 7, .int .i64 311, .int .u8 0, .int .i64 5, .int .i64 0] : List Value)) : List Value).length⟩, ⟨av, 1, 1, 99, 6, ([.int .i64 7, .int .i64 7, .int .i64 311, .int .u8 0, .int .i64 5, .int .i64 0] : List Value), 0⟩, ⟨ai, 3, 3, 3, 1, ([.int .i64 6, .int .i64 9, .int .i64 6] : List Value), (([.int .i64 6, .int .i64 9, .int .i64 6] : List Value) : List Value).length⟩, ⟨a9, x165.length, x165.length, 120, 3, (List.flatten (List.replicate x165.length ([.int .i64 0, .int .i64 0, .int .i64 0] : List Value))), ((List.flatten (List.replicate x165.length ([.int .i64 0, .int .i64 0, .int .i64 0] : List Value))) : List Value).length⟩] lm := f6
   have d3 : RepS gn a9 x165.length x165 := ⟨_, cr, sj, g9.rowCap (i := 10) rfl⟩
   obtain ⟨x169, ex169, H⟩ := bnd H
   refine wl fun K hK => ?_
   refine wc [.agg (K15c7 a9 x165 x154 ap x157 ao)] p7 f6 (pit_Short_ok n f6.has (Shop.mk x165 x154.days x157) ((rep_pair (rep_slice d3) (rep_pair rep_int (rep_slice cu))) : rep gn (Shop.mk x165 x154.days x157) _) ex169) fun x0 ia yv mn bh au => ?_
   replace bo := bo.mono (Heap.le_trans (Heap.le_trans (Heap.le_trans (Heap.le_trans (Heap.le_trans (Heap.le_trans (Heap.le_trans (Heap.le_trans (Heap.le_trans (Heap.le_trans (Heap.le_trans (Heap.le_trans (Heap.le_trans (Heap.le_trans (Heap.le_trans (Heap.le_trans (Heap.le_trans (Heap.le_trans c4 ct) cl) cm) ci) ce) cf) b5) b0) b1) b2) b3) b4) bx) bu) bv) bs) bm) bh)
   replace bp := bp.mono (Heap.le_trans (Heap.le_trans (Heap.le_trans (Heap.le_trans (Heap.le_trans (Heap.le_trans (Heap.le_trans (Heap.le_trans (Heap.le_trans (Heap.le_trans (Heap.le_trans (Heap.le_trans (Heap.le_trans (Heap.le_trans (Heap.le_trans (Heap.le_trans (Heap.le_trans (Heap.le_trans c4 ct) cl) cm) ci) ce) cf) b5) b0) b1) b2) b3) b4) bx) bu) bv) bs) bm) bh)
   replace bq := bq.mono (Heap.le_trans (Heap.le_trans (Heap.le_trans (Heap.le_trans (Heap.le_trans (Heap.le_trans (Heap.le_trans (Heap.le_trans (Heap.le_trans (Heap.le_trans (Heap.le_trans (Heap.le_trans (Heap.le_trans (Heap.le_trans (Heap.le_trans (Heap.le_trans (Heap.le_trans (Heap.le_trans c4 ct) cl) cm) ci) ce) cf) b5) b0) b1) b2) b3) b4) bx) bu) bv) bs) bm) bh)
   replace bn := bn.mono (Heap.le_trans (Heap.le_trans (Heap.le_trans (Heap.le_trans (Heap.le_trans (Heap.le_trans (Heap.le_trans (Heap.le_trans (Heap.le_trans (Heap.le_trans (Heap.le_trans (Heap.le_trans (Heap.le_trans (Heap.le_trans (Heap.le_trans (Heap.le_trans (Heap.le_trans (Heap.le_trans c4 ct) cl) cm) ci) ce) cf) b5) b0) b1) b2) b3) b4) bx) bu) bv) bs) bm) bh)
   replace dz := dz.mono (Heap.le_trans (Heap.le_trans (Heap.le_trans (Heap.le_trans (Heap.le_trans (Heap.le_trans (Heap.le_trans (Heap.le_trans (Heap.le_trans (Heap.le_trans (Heap.le_trans (Heap.le_trans (Heap.le_trans (Heap.le_trans (Heap.le_trans (Heap.le_trans cl cm) ci) ce) cf) b5) b0) b1) b2) b3) b4) bx) bu) bv) bs) bm) bh)
   replace d0 := d0.mono (Heap.le_trans (Heap.le_trans (Heap.le_trans (Heap.le_trans (Heap.le_trans (Heap.le_trans (Heap.le_trans (Heap.le_trans (Heap.le_trans (Heap.le_trans (Heap.le_trans (Heap.le_trans (Heap.le_trans ce cf) b5) b0) b1) b2) b3) b4) bx) bu) bv) bs) bm) bh)
   replace d1 := d1.mono (Heap.le_trans (Heap.le_trans (Heap.le_trans (Heap.le_trans (Heap.le_trans (Heap.le_trans (Heap.le_trans (Heap.le_trans (Heap.le_trans (Heap.le_trans b0 b1) b2) b3) b4) bx) bu) bv) bs) bm) bh)
   replace c7 := c7.mono (Heap.le_trans (Heap.le_trans (Heap.le_trans (Heap.le_trans bu bv) bs) bm) bh)
   replace d2 := d2.mono (Heap.le_trans (Heap.le_trans (Heap.le_trans (Heap.le_trans bu bv) bs) bm) bh)
   replace cu := cu.mono bh
   replace d3 := d3.mono bh
   replace bb := bb.mono (Heap.le_trans (Heap.le_trans (Heap.le_trans (Heap.le_trans (Heap.le_trans (Heap.le_trans (Heap.le_trans (Heap.le_trans (Heap.le_trans (Heap.le_trans (Heap.le_trans (Heap.le_trans (Heap.le_trans (Heap.le_trans (Heap.le_trans (Heap.le_trans (Heap.le_trans (Heap.le_trans c4 ct) cl) cm) ci) ce) cf) b5) b0) b1) b2) b3) b4) bx) bu) bv) bs) bm) bh)
   replace bd := bd.mono (Heap.le_trans (Heap.le_trans (Heap.le_trans (Heap.le_trans (Heap.le_trans (Heap.le_trans (Heap.le_trans (Heap.le_trans (Heap.le_trans (Heap.le_trans (Heap.le_trans (Heap.le_trans (Heap.le_trans (Heap.le_trans (Heap.le_trans (Heap.le_trans (Heap.le_trans (Heap.le_trans c4 ct) cl) cm) ci) ce) cf) b5) b0) b1) b2) b3) b4) bx) bu) bv) bs) bm) bh)
   replace be := be.mono (Heap.le_trans (Heap.le_trans (Heap.le_trans (Heap.le_trans (Heap.le_trans (Heap.le_trans (Heap.le_trans (Heap.le_trans (Heap.le_trans (Heap.le_trans (Heap.le_trans (Heap.le_trans (Heap.le_trans (Heap.le_trans (Heap.le_trans (Heap.le_trans (Heap.le_trans (Heap.le_trans c4 ct) cl) cm) ci) ce) cf) b5) b0) b1) b2) b3) b4) bx) bu) bv) bs) bm) bh)
   replace bc := bc.mono (Heap.le_trans (Heap.le_trans (Heap.le_trans (Heap.le_trans (Heap.le_trans (Heap.le_trans (Heap.le_trans (Heap.le_trans (Heap.le_trans (Heap.le_trans (Heap.le_trans (Heap.le_trans (Heap.le_trans (Heap.le_trans (Heap.le_trans (Heap.le_trans (Heap.le_trans (Heap.le_trans c4 ct) cl) cm) ci) ce) cf) b5) b0) b1) b2) b3) b4) bx) bu) bv) bs) bm) bh)
   replace ba := ba.mono (Heap.le_trans (Heap.le_trans (Heap.le_trans (Heap.le_trans (Heap.le_trans (Heap.le_trans (Heap.le_trans (Heap.le_trans (Heap.le_trans (Heap.le_trans (Heap.le_trans (Heap.le_trans (Heap.le_trans (Heap.le_trans (Heap.le_trans (Heap.le_trans (Heap.le_trans (Heap.le_trans c4 ct) cl) cm) ci) ce) cf) b5) b0) b1) b2) b3) b4) bx) bu) bv) bs) bm) bh)
   replace cy := cy.mono (Heap.le_trans (Heap.le_trans (Heap.le_trans (Heap.le_trans (Heap.le_trans (Heap.le_trans (Heap.le_trans (Heap.le_trans (Heap.le_trans (Heap.le_trans (Heap.le_trans (Heap.le_trans (Heap.le_trans (Heap.le_trans (Heap.le_trans (Heap.le_trans cl cm) ci) ce) cf) b5) b0) b1) b2) b3) b4) bx) bu) bv) bs) bm) bh)
   replace cz := cz.mono (Heap.le_trans (Heap.le_trans (Heap.le_trans (Heap.le_trans (Heap.le_trans (Heap.le_trans (Heap.le_trans (Heap.le_trans (Heap.le_trans (Heap.le_trans (Heap.le_trans (Heap.le_trans (Heap.le_trans ce cf) b5) b0) b1) b2) b3) b4) bx) bu) bv) bs) bm) bh)
   replace c1 := c1.mono (Heap.le_trans (Heap.le_trans (Heap.le_trans (Heap.le_trans (Heap.le_trans (Heap.le_trans (Heap.le_trans (Heap.le_trans (Heap.le_trans (Heap.le_trans b0 b1) b2) b3) b4) bx) bu) bv) bs) bm) bh)
   replace c0 := c0.mono (Heap.le_trans (Heap.le_trans (Heap.le_trans (Heap.le_trans (Heap.le_trans (Heap.le_trans (Heap.le_trans (Heap.le_trans (Heap.le_trans (Heap.le_trans (Heap.le_trans b5 b0) b1) b2) b3) b4) bx) bu) bv) bs) bm) bh)
   replace c2 := c2.mono (Heap.le_trans (Heap.le_trans (Heap.le_trans (Heap.le_trans bu bv) bs) bm) bh)
   replace cr := cr.mono bh
   obtain ⟨_, _, rfl, rfl, rfl⟩ := mn
   refine ⟨.tup [.c (.int .i64 x169.1), .c (.int .i64 x169.2)], rfl, fun t0 (p8 : Kn 223 (K15e1 g j y) ((169, .tup [.c (.int .i64 x169.1), .c (.int .i64 x169.2)]) :: (tA 168 (K15c7 a9 x165 x154 ap x157 ao)) :: (tI 20 x161.2.2) :: (tI 16 x151.2) :: (K15m15 x143 x138 x131 x126 x118 x113)) t0) => hK _ _ ?_⟩
   refine Rk 2 5 ((tI 22 x169.2) :: (tI 20 x161.2.2) :: (tI 16 x151.2) :: (K15m15 x143 x138 x131 x126 x118 x113)) p8 au fun wq p9 => ?_
   refine wf (wp_seq (wp_region_from (Rk 0 3 [(tB 174 (x113.2 == 2)), (tI 22 x169.2), (tI 20 x161.2.2), (tI 16 x151.2), (tI 13 x143.2), (tB 12 x143.1), (tI 10 x138.2), (tI 8 x131.2.2), (tI 6 x126.2), (tI 4 x118.2)] p9 au fun kv jd => ?_)))
   rcases Bool.eq_false_or_eq_true ((x113.2 == 2)) with et | et
   ·
    rw [et, cond_true] at H
    have qa : Kn 223 (K15e1 g j y) [(tB 174 true), (tI 22 x169.2), (tI 20 x161.2.2), (tI 16 x151.2), (tI 13 x143.2), (tB 12 x143.1), (tI 10 x138.2), (tI 8 x131.2.2), (tI 6 x126.2), (tI 4 x118.2)] kv := (jd.setB 174 true (by rfl) et).kp
    refine Rk 3 4 [(tB 178 (x118.2 == 2)), (tI 22 x169.2), (tI 20 x161.2.2), (tI 16 x151.2), (tI 13 x143.2), (tB 12 x143.1), (tI 10 x138.2), (tI 8 x131.2.2), (tI 6 x126.2)] qa au fun kw je => ?_
    rcases Bool.eq_false_or_eq_true ((x118.2 == 2)) with eu | eu
    ·
     rw [eu, cond_true] at H
     have qb : Kn 223 (K15e1 g j y) [(tB 178 true), (tI 22 x169.2), (tI 20 x161.2.2), (tI 16 x151.2), (tI 13 x143.2), (tB 12 x143.1), (tI 10 x138.2), (tI 8 x131.2.2), (tI 6 x126.2)] kw := (je.setB 178 true (by rfl) eu).kp
     refine Rk 7 4 [(tB 182 (x126.2 == 6)), (tI 22 x169.2), (tI 20 x161.2.2), (tI 16 x151.2), (tI 13 x143.2), (tB 12 x143.1), (tI 10 x138.2), (tI 8 x131.2.2)] qb au fun kx jf => ?_
     rcases Bool.eq_false_or_eq_true ((x126.2 == 6)) with ev | ev
     ·
      rw [ev, cond_true] at H
      have qc : Kn 223 (K15e1 g j y) [(tB 182 true), (tI 22 x169.2), (tI 20 x161.2.2), (tI 16 x151.2), (tI 13 x143.2), (tB 12 x143.1), (tI 10 x138.2), (tI 8 x131.2.2)] kx := (jf.setB 182 true (by rfl) ev).kp
      refine Rk 11 4 [(tB 186 (x131.2.2 == 1)), (tI 22 x169.2), (tI 20 x161.2.2), (tI 16 x151.2), (tI 13 x143.2), (tB 12 x143.1), (tI 10 x138.2)] qc au fun ky jg => ?_
      rcases Bool.eq_false_or_eq_true ((x131.2.2 == 1)) with ew | ew
      ·
       rw [ew, cond_true] at H
       have qd : Kn 223 (K15e1 g j y) [(tB 186 true), (tI 22 x169.2), (tI 20 x161.2.2), (tI 16 x151.2), (tI 13 x143.2), (tB 12 x143.1), (tI 10 x138.2)] ky := (jg.setB 186 true (by rfl) ew).kp
       refine Rk 15 4 [(tB 190 (x138.2 == 2)), (tI 22 x169.2), (tI 20 x161.2.2), (tI 16 x151.2), (tI 13 x143.2), (tB 12 x143.1)] qd au fun kz jh => ?_
       rcases Bool.eq_false_or_eq_true ((x138.2 == 2)) with ex | ex
       ·
        rw [ex, cond_true] at H
        have qe : Kn 223 (K15e1 g j y) [(tB 190 true), (tI 22 x169.2), (tI 20 x161.2.2), (tI 16 x151.2), (tI 13 x143.2), (tB 12 x143.1)] kz := (jh.setB 190 true (by rfl) ex).kp
        refine Rk 19 4 [(tB 194 (x143.2 == 0)), (tI 22 x169.2), (tI 20 x161.2.2), (tI 16 x151.2), (tB 12 x143.1)] qe au fun k0 ji => ?_
        rcases Bool.eq_false_or_eq_true ((x143.2 == 0)) with ey | ey
        ·
         rw [ey, cond_true] at H
         have qf : Kn 223 (K15e1 g j y) [(tB 194 true), (tI 22 x169.2), (tI 20 x161.2.2), (tI 16 x151.2), (tB 12 x143.1)] k0 := (ji.setB 194 true (by rfl) ey).kp
         refine Rk 23 4 [(tB 198 (!x143.1)), (tI 22 x169.2), (tI 20 x161.2.2), (tI 16 x151.2)] qf au fun k1 jj => ?_
         rcases Bool.eq_false_or_eq_true ((!x143.1)) with ez | ez
         ·
          rw [ez, cond_true] at H
          have qg : Kn 223 (K15e1 g j y) [(tB 198 true), (tI 22 x169.2), (tI 20 x161.2.2), (tI 16 x151.2)] k1 := (jj.setB 198 true (by rfl) ez).kp
          refine Rk 27 4 [(tB 202 (x151.2 == 7)), (tI 22 x169.2), (tI 20 x161.2.2)] qg au fun k2 jk => ?_
          rcases Bool.eq_false_or_eq_true ((x151.2 == 7)) with e0 | e0
          ·
           rw [e0, cond_true] at H
           have qh : Kn 223 (K15e1 g j y) [(tB 202 true), (tI 22 x169.2), (tI 20 x161.2.2)] k2 := (jk.setB 202 true (by rfl) e0).kp
           refine Rk 31 4 [(tB 206 (x161.2.2 == 1)), (tI 22 x169.2)] qh au fun k3 jl => ?_
           rcases Bool.eq_false_or_eq_true ((x161.2.2 == 1)) with e1 | e1
           ·
            rw [e1, cond_true] at H
            have qi : Kn 223 (K15e1 g j y) [(tB 206 true), (tI 22 x169.2)] k3 := (jl.setB 206 true (by rfl) e1).kp
            refine Rk 35 4 [(tB 210 (x169.2 == 3))] qi au fun k4 jm => ?_
            rcases Bool.eq_false_or_eq_true ((x169.2 == 3)) with e2 | e2
            ·
             rw [e2, cond_true] at H
             have jn : Kn 223 (K15e1 g j y) [(tB 210 true)] k4 := (jm.setB 210 true (by rfl) e2).kp
             obtain ⟨x211, ex211, H⟩ := bnd H
             obtain ⟨rx, r0, kd⟩ := mk_some ex211
             refine wpFrom_loud _ rfl (wantedS_sound jn (by kernel_rfl)) fun K hK => ?_
             refine wp_makeSlice 99 6 48 [.int .i64 0, .int .i64 0, .int .i64 0, .int .u8 0, .int .i64 0, .int .i64 0] (41) jn au rfl rfl (by decide) (by rfl) (by kernel_rfl) (by kernel_rfl) (by rfl) rx r0 (by decide) fun da t2 ln (gs : Kn 223 [(g, 0), (j, 0), (y, 0)] [(211, .one (.c (.slice da ((41 : Int).toNat) ((41 : Int).toNat)))), (210, .one (.c (.bool true)))] t2) (ha : Mem ⟨w, h, noX⟩ ia [(g, 0), (j, 0), (y, 0)] [⟨[.int .i64 0, .int .i64 0, .int .i64 0, .int .i64 0, .int .i64 0, .int .i64 1, .int .i64 1], some 53⟩, ⟨[.slice ax x146.buses.length az, .int .i64 x146.days, .slice ai 3 3], some 79⟩, ⟨[.slice a9 x165.length x165.length, .int .i64 x154.days, .slice ap x157.length ao], some 79⟩] [⟨k, x24.length, l, 99, 6, b, (b : List Value).length⟩, ⟨m, x29.length, o, 99, 6, d, (d : List Value).length⟩, ⟨q, x34.length, s, 99, 6, e, (e : List Value).length⟩, ⟨aa, x41.length, ab, 99, 6, (f ++ a), ((f ++ a) : List Value).length⟩, ⟨u, x40.length, z, 99, 6, a, 0⟩, ⟨ak, x112.length, am, 99, 6, ac, (ac : List Value).length⟩, ⟨aq, x117.length, ar, 99, 6, ad, (ad : List Value).length⟩, ⟨aw, x125.length, ay, 99, 6, (aj ++ ([.int .i64 7, .int .i64 7, .int .i64 311, .int .u8 0, .int .i64 5, .int .i64 0] : List Value)), ((aj ++ ([.int .i64 7, .int .i64 7, .int .i64 311, .int .u8 0, .int .i64 5, .int .i64 0] : List Value)) : List Value).length⟩, ⟨av, 1, 1, 99, 6, ([.int .i64 7, .int .i64 7, .int .i64 311, .int .u8 0, .int .i64 5, .int .i64 0] : List Value), 0⟩, ⟨ai, 3, 3, 3, 1, ([.int .i64 6, .int .i64 9, .int .i64 6] : List Value), (([.int .i64 6, .int .i64 9, .int .i64 6] : List Value) : List Value).length⟩, ⟨a9, x165.length, x165.length, 120, 3, (List.flatten (List.replicate x165.length ([.int .i64 0, .int .i64 0, .int .i64 0] : List Value))), ((List.flatten (List.replicate x165.length ([.int .i64 0, .int .i64 0, .int .i64 0] : List Value))) : List Value).length⟩, ⟨da, (41 : Int).toNat, (41 : Int).toNat, 99, 6, (List.flatten (List.replicate (41 : Int).toNat ([.int .i64 0, .int .i64 0, .int .i64 0, .int .u8 0, .int .i64 0, .int .i64 0] : List Value))), 0⟩] ln) => ?_
             have dd : Cells ia x211 (List.flatten (List.replicate (41 : Int).toNat ([.int .i64 0, .int .i64 0, .int .i64 0, .int .u8 0, .int .i64 0, .int .i64 0] : List Value))) := by rw [kd]; exact Cells.replicate (α := Card) (x := (Card.mk 0 0 0 (IK.mk 0) 0 0)) (rep_pair rep_int (rep_pair rep_int (rep_pair rep_int (rep_pair rep_ik (rep_pair rep_int rep_int))))) _
             have jt : (41 : Int).toNat = x211.length := by rw [kd]; simp
             rw [jt] at gs ha
             skip
             rw [jt] at dd
             refine hK _ _ ?_
             obtain ⟨ic, bf, sk, f7⟩ := ha.settle (i := 11) rfl
             replace dd := dd.mono bf
             replace f7 : Mem ⟨w, h, noX⟩ ic (K15e1 g j y) [⟨K15c6, some 53⟩, ⟨(K15c3 ax x146 az ai), some 79⟩, ⟨(K15c7 a9 x165 x154 ap x157 ao), some 79⟩] [⟨k, x24.length, l, 99, 6, b, (b : List Value).length⟩, ⟨m, x29.length, o, 99, 6, d, (d : List Value).length⟩, ⟨q, x34.length, s, 99, 6, e, (e : List Value).length⟩, ⟨aa, x41.length, ab, 99, 6, (f ++ a), ((f ++ a) : List Value).length⟩, ⟨u, x40.length, z, 99, 6, a, 0⟩, ⟨ak, x112.length, am, 99, 6, ac, (ac : List Value).length⟩, ⟨aq, x117.length, ar, 99, 6, ad, (ad : List Value).length⟩, ⟨aw, x125.length, ay, 99, 6, (aj ++ ([.int .i64 7, .int .i64 7, .int .i64 311, .int .u8 0, .int .i64 5, .int .i64 0] : List Value)), ((aj ++ ([.int .i64 7, .int .i64 7, .int .i64 311, .int .u8 0, .int .i64 5, .int .i64 0] : List Value)) : List Value).length⟩, ⟨av, 1, 1, 99, 6, ([.int .i64 7, .int .i64 7, .int .i64 311, .int .u8 0, .int .i64 5, .int .i64 0] : List Value), 0⟩, ⟨ai, 3, 3, 3, 1, ([.int .i64 6, .int .i64 9, .int .i64 6] : List Value), (([.int .i64 6, .int .i64 9, .int .i64 6] : List Value) : List Value).length⟩, ⟨a9, x165.length, x165.length, 120, 3, (List.flatten (List.replicate x165.length ([.int .i64 0, .int .i64 0, .int .i64 0] : List Value))), ((List.flatten (List.replicate x165.length ([.int .i64 0, .int .i64 0, .int .i64 0] : List Value))) : List Value).length⟩, ⟨da, x211.length, x211.length, 99, 6, (List.flatten (List.replicate x211.length ([.int .i64 0, .int .i64 0, .int .i64 0, .int .u8 0, .int .i64 0, .int .i64 0] : List Value))), ((List.flatten (List.replicate x211.length ([.int .i64 0, .int .i64 0, .int .i64 0, .int .u8 0, .int .i64 0, .int .i64 0] : List Value))) : List Value).length⟩] ln := f7
             have fb : RepS ic da x211.length x211 := ⟨_, dd, sk, ha.rowCap (i := 11) rfl⟩
             obtain ⟨x212, ex212, H⟩ := bnd H
             refine wpFrom_loud _ rfl (wantedS_sound gs (by kernel_rfl)) fun K hK => ?_
             refine wc [.c (.slice da x211.length x211.length)] gs f7 (pit_CheckCards_ok n f7.has x211 fb ex212) fun x1 ie yw mo a8 f8 => ?_
             replace bo := bo.mono (Heap.le_trans bf a8)
             replace bp := bp.mono (Heap.le_trans bf a8)
             replace bq := bq.mono (Heap.le_trans bf a8)
             replace bn := bn.mono (Heap.le_trans bf a8)
             replace dz := dz.mono (Heap.le_trans bf a8)
             replace d0 := d0.mono (Heap.le_trans bf a8)
             replace d1 := d1.mono (Heap.le_trans bf a8)
             replace c7 := c7.mono (Heap.le_trans bf a8)
             replace d2 := d2.mono (Heap.le_trans bf a8)
             replace cu := cu.mono (Heap.le_trans bf a8)
             replace d3 := d3.mono (Heap.le_trans bf a8)
             replace fb := fb.mono a8
             replace bb := bb.mono (Heap.le_trans bf a8)
             replace bd := bd.mono (Heap.le_trans bf a8)
             replace be := be.mono (Heap.le_trans bf a8)
             replace bc := bc.mono (Heap.le_trans bf a8)
             replace ba := ba.mono (Heap.le_trans bf a8)
             replace cy := cy.mono (Heap.le_trans bf a8)
             replace cz := cz.mono (Heap.le_trans bf a8)
             replace c1 := c1.mono (Heap.le_trans bf a8)
             replace c0 := c0.mono (Heap.le_trans bf a8)
             replace c2 := c2.mono (Heap.le_trans bf a8)
             replace cr := cr.mono (Heap.le_trans bf a8)
             replace dd := dd.mono a8
             obtain rfl := mo
             refine ⟨.one (.c (.int .i64 x212)), rfl, fun t3 (qk : Kn 223 (K15e1 g j y) [(tI 212 x212), (tS 211 da x211.length x211.length), (tB 210 true)] t3) => hK _ _ ?_⟩
             refine Rk 41 3 [(tB 215 (x212 == 3))] qk f8 fun k5 jo => ?_
             rcases Bool.eq_false_or_eq_true ((x212 == 3)) with e3 | e3
             ·
              rw [e3, cond_true] at H
              have jp : Kn 223 (K15e1 g j y) [(tB 215 true)] k5 := (jo.setB 215 true (by rfl) e3).kp
              obtain ⟨x216, ex216, H⟩ := bnd H
              obtain ⟨ry, r1, ke⟩ := mk_some ex216
              refine wpFrom_loud _ rfl (wantedS_sound jp (by kernel_rfl)) fun K hK => ?_
              refine wp_makeSlice 99 6 48 [.int .i64 0, .int .i64 0, .int .i64 0, .int .u8 0, .int .i64 0, .int .i64 0] (1) jp f8 rfl rfl (by decide) (by rfl) (by kernel_rfl) (by kernel_rfl) (by rfl) ry r1 (by decide) fun d5 t4 lo (gu : Kn 223 [(g, 0), (j, 0), (y, 0)] [(216, .one (.c (.slice d5 ((1 : Int).toNat) ((1 : Int).toNat)))), (215, .one (.c (.bool true)))] t4) (hb : Mem ⟨w, h, noX⟩ ie [(g, 0), (j, 0), (y, 0)] [⟨[.int .i64 0, .int .i64 0, .int .i64 0, .int .i64 0, .int .i64 0, .int .i64 1, .int .i64 1], some 53⟩, ⟨[.slice ax x146.buses.length az, .int .i64 x146.days, .slice ai 3 3], some 79⟩, ⟨[.slice a9 x165.length x165.length, .int .i64 x154.days, .slice ap x157.length ao], some 79⟩] [⟨k, x24.length, l, 99, 6, b, (b : List Value).length⟩, ⟨m, x29.length, o, 99, 6, d, (d : List Value).length⟩, ⟨q, x34.length, s, 99, 6, e, (e : List Value).length⟩, ⟨aa, x41.length, ab, 99, 6, (f ++ a), ((f ++ a) : List Value).length⟩, ⟨u, x40.length, z, 99, 6, a, 0⟩, ⟨ak, x112.length, am, 99, 6, ac, (ac : List Value).length⟩, ⟨aq, x117.length, ar, 99, 6, ad, (ad : List Value).length⟩, ⟨aw, x125.length, ay, 99, 6, (aj ++ ([.int .i64 7, .int .i64 7, .int .i64 311, .int .u8 0, .int .i64 5, .int .i64 0] : List Value)), ((aj ++ ([.int .i64 7, .int .i64 7, .int .i64 311, .int .u8 0, .int .i64 5, .int .i64 0] : List Value)) : List Value).length⟩, ⟨av, 1, 1, 99, 6, ([.int .i64 7, .int .i64 7, .int .i64 311, .int .u8 0, .int .i64 5, .int .i64 0] : List Value), 0⟩, ⟨ai, 3, 3, 3, 1, ([.int .i64 6, .int .i64 9, .int .i64 6] : List Value), (([.int .i64 6, .int .i64 9, .int .i64 6] : List Value) : List Value).length⟩, ⟨a9, x165.length, x165.length, 120, 3, (List.flatten (List.replicate x165.length ([.int .i64 0, .int .i64 0, .int .i64 0] : List Value))), ((List.flatten (List.replicate x165.length ([.int .i64 0, .int .i64 0, .int .i64 0] : List Value))) : List Value).length⟩, ⟨da, x211.length, x211.length, 99, 6, (List.flatten (List.replicate x211.length ([.int .i64 0, .int .i64 0, .int .i64 0, .int .u8 0, .int .i64 0, .int .i64 0] : List Value))), ((List.flatten (List.replicate x211.length ([.int .i64 0, .int .i64 0, .int .i64 0, .int .u8 0, .int .i64 0, .int .i64 0] : List Value))) : List Value).length⟩, ⟨d5, (1 : Int).toNat, (1 : Int).toNat, 99, 6, (List.flatten (List.replicate (1 : Int).toNat ([.int .i64 0, .int .i64 0, .int .i64 0, .int .u8 0, .int .i64 0, .int .i64 0] : List Value))), 0⟩] lo) => ?_
              have d7 : Cells ie x216 (List.flatten (List.replicate (1 : Int).toNat ([.int .i64 0, .int .i64 0, .int .i64 0, .int .u8 0, .int .i64 0, .int .i64 0] : List Value))) := by rw [ke]; exact Cells.replicate (α := Card) (x := (Card.mk 0 0 0 (IK.mk 0) 0 0)) (rep_pair rep_int (rep_pair rep_int (rep_pair rep_int (rep_pair rep_ik (rep_pair rep_int rep_int))))) _
              have ju : (1 : Int).toNat = x216.length := by rw [ke]; simp
              rw [ju] at gu hb
              skip
              rw [ju] at d7
              refine hK _ _ ?_
              obtain ⟨ig, a5, sm, ga⟩ := hb.settle (i := 12) rfl
              replace d7 := d7.mono a5
              replace ga : Mem ⟨w, h, noX⟩ ig (K15e1 g j y) [⟨K15c6, some 53⟩, ⟨(K15c3 ax x146 az ai), some 79⟩, ⟨(K15c7 a9 x165 x154 ap x157 ao), some 79⟩] [⟨k, x24.length, l, 99, 6, b, (b : List Value).length⟩, ⟨m, x29.length, o, 99, 6, d, (d : List Value).length⟩, ⟨q, x34.length, s, 99, 6, e, (e : List Value).length⟩, ⟨aa, x41.length, ab, 99, 6, (f ++ a), ((f ++ a) : List Value).length⟩, ⟨u, x40.length, z, 99, 6, a, 0⟩, ⟨ak, x112.length, am, 99, 6, ac, (ac : List Value).length⟩, ⟨aq, x117.length, ar, 99, 6, ad, (ad : List Value).length⟩, ⟨aw, x125.length, ay, 99, 6, (aj ++ ([.int .i64 7, .int .i64 7, .int .i64 311, .int .u8 0, .int .i64 5, .int .i64 0] : List Value)), ((aj ++ ([.int .i64 7, .int .i64 7, .int .i64 311, .int .u8 0, .int .i64 5, .int .i64 0] : List Value)) : List Value).length⟩, ⟨av, 1, 1, 99, 6, ([.int .i64 7, .int .i64 7, .int .i64 311, .int .u8 0, .int .i64 5, .int .i64 0] : List Value), 0⟩, ⟨ai, 3, 3, 3, 1, ([.int .i64 6, .int .i64 9, .int .i64 6] : List Value), (([.int .i64 6, .int .i64 9, .int .i64 6] : List Value) : List Value).length⟩, ⟨a9, x165.length, x165.length, 120, 3, (List.flatten (List.replicate x165.length ([.int .i64 0, .int .i64 0, .int .i64 0] : List Value))), ((List.flatten (List.replicate x165.length ([.int .i64 0, .int .i64 0, .int .i64 0] : List Value))) : List Value).length⟩, ⟨da, x211.length, x211.length, 99, 6, (List.flatten (List.replicate x211.length ([.int .i64 0, .int .i64 0, .int .i64 0, .int .u8 0, .int .i64 0, .int .i64 0] : List Value))), ((List.flatten (List.replicate x211.length ([.int .i64 0, .int .i64 0, .int .i64 0, .int .u8 0, .int .i64 0, .int .i64 0] : List Value))) : List Value).length⟩, ⟨d5, x216.length, x216.length, 99, 6, (List.flatten (List.replicate x216.length ([.int .i64 0, .int .i64 0, .int .i64 0, .int .u8 0, .int .i64 0, .int .i64 0] : List Value))), ((List.flatten (List.replicate x216.length ([.int .i64 0, .int .i64 0, .int .i64 0, .int .u8 0, .int .i64 0, .int .i64 0] : List Value))) : List Value).length⟩] lo := ga
              have hn : RepS ig d5 x216.length x216 := ⟨_, d7, sm, hb.rowCap (i := 12) rfl⟩
              obtain ⟨x217, ex217, H⟩ := bnd H
              refine wpFrom_loud _ rfl (wantedS_sound gu (by kernel_rfl)) fun K hK => ?_
              refine wc [.c (.slice d5 x216.length x216.length)] gu ga (pit_CheckCards_ok n ga.has x216 hn ex217) fun x2 uy yx mp a4 e9 => ?_
              replace bo := bo.mono (Heap.le_trans a5 a4)
              replace bp := bp.mono (Heap.le_trans a5 a4)
              replace bq := bq.mono (Heap.le_trans a5 a4)
              replace bn := bn.mono (Heap.le_trans a5 a4)
              replace dz := dz.mono (Heap.le_trans a5 a4)
              replace d0 := d0.mono (Heap.le_trans a5 a4)
              replace d1 := d1.mono (Heap.le_trans a5 a4)
              replace c7 := c7.mono (Heap.le_trans a5 a4)
              replace d2 := d2.mono (Heap.le_trans a5 a4)
              replace cu := cu.mono (Heap.le_trans a5 a4)
              replace d3 := d3.mono (Heap.le_trans a5 a4)
              replace fb := fb.mono (Heap.le_trans a5 a4)
              replace hn := hn.mono a4
              replace bb := bb.mono (Heap.le_trans a5 a4)
              replace bd := bd.mono (Heap.le_trans a5 a4)
              replace be := be.mono (Heap.le_trans a5 a4)
              replace bc := bc.mono (Heap.le_trans a5 a4)
              replace ba := ba.mono (Heap.le_trans a5 a4)
              replace cy := cy.mono (Heap.le_trans a5 a4)
              replace cz := cz.mono (Heap.le_trans a5 a4)
              replace c1 := c1.mono (Heap.le_trans a5 a4)
              replace c0 := c0.mono (Heap.le_trans a5 a4)
              replace c2 := c2.mono (Heap.le_trans a5 a4)
              replace cr := cr.mono (Heap.le_trans a5 a4)
              replace dd := dd.mono (Heap.le_trans a5 a4)
              replace d7 := d7.mono a4
              obtain rfl := mp
              refine ⟨.one (.c (.int .i64 x217)), rfl, fun t5 (ql : Kn 223 (K15e1 g j y) [(tI 217 x217), (tS 216 d5 x216.length x216.length), (tB 215 true)] t5) => hK _ _ ?_⟩
              refine Rk 46 3 [(tB 220 (x217 == 1))] ql e9 fun k6 jq => ?_
              rcases Bool.eq_false_or_eq_true ((x217 == 1)) with e4 | e4
              ·
               rw [e4, cond_true] at H
               have jr : Kn 223 (K15e1 g j y) [(tB 220 true)] k6 := (jq.setB 220 true (by rfl) e4).kp
               obtain ⟨x221, ex221, H⟩ := bnd H
               refine wpFrom_loud _ rfl (wantedS_sound jr (by kernel_rfl)) fun K hK => ?_
               refine wc [] jr e9 (law_wakes_ok n e9.has  ex221) fun x3 uz yy mq u3 j9 => ?_
               obtain rfl := mq
               refine ⟨.one (.c (.bool x221)), rfl, fun t6 (qm : Kn 223 (K15e1 g j y) [(tB 221 x221), (tB 220 true)] t6) => hK _ _ ?_⟩
               refine Rk 50 2 [(tB 0 x221)] qm j9 fun wr qn => ?_
               refine wf (wp_ret ?_)
               obtain rfl := Option.some.inj H
               exact rt (.one (.c (.bool x221))) qn j9 rfl
              ·
               rw [e4, cond_false] at H
               have qo : Kn 223 (K15e1 g j y) [(tB 220 false)] k6 := (jq.setB 220 false (by rfl) e4).kp
               refine Rk 49 3 [(tB 0 false)] qo e9 fun ws qp => ?_
               refine wf (wp_ret ?_)
               obtain rfl := Option.some.inj H
               exact rt (.one (.c (.bool false))) qp e9 rfl
             ·
              rw [e3, cond_false] at H
              have qq : Kn 223 (K15e1 g j y) [(tB 215 false)] k5 := (jo.setB 215 false (by rfl) e3).kp
              refine Rk 44 8 [(tB 0 false)] qq f8 fun wt qr => ?_
              refine wf (wp_ret ?_)
              obtain rfl := Option.some.inj H
              exact rt (.one (.c (.bool false))) qr f8 rfl
            ·
             rw [e2, cond_false] at H
             have qs : Kn 223 (K15e1 g j y) [(tB 210 false)] k4 := (jm.setB 210 false (by rfl) e2).kp
             refine Rk 39 13 [(tB 0 false)] qs au fun wu qt => ?_
             refine wf (wp_ret ?_)
             obtain rfl := Option.some.inj H
             exact rt (.one (.c (.bool false))) qt au rfl
           ·
            rw [e1, cond_false] at H
            have qu : Kn 223 (K15e1 g j y) [(tB 206 false), (tI 22 x169.2)] k3 := (jl.setB 206 false (by rfl) e1).kp
            refine Rk 35 17 [(tB 0 false)] qu au fun wv qv => ?_
            refine wf (wp_ret ?_)
            obtain rfl := Option.some.inj H
            exact rt (.one (.c (.bool false))) qv au rfl
          ·
           rw [e0, cond_false] at H
           have qw : Kn 223 (K15e1 g j y) [(tB 202 false), (tI 22 x169.2), (tI 20 x161.2.2)] k2 := (jk.setB 202 false (by rfl) e0).kp
           refine Rk 31 21 [(tB 0 false)] qw au fun ww qx => ?_
           refine wf (wp_ret ?_)
           obtain rfl := Option.some.inj H
           exact rt (.one (.c (.bool false))) qx au rfl
         ·
          rw [ez, cond_false] at H
          have qy : Kn 223 (K15e1 g j y) [(tB 198 false), (tI 22 x169.2), (tI 20 x161.2.2), (tI 16 x151.2)] k1 := (jj.setB 198 false (by rfl) ez).kp
          refine Rk 27 25 [(tB 0 false)] qy au fun wx qz => ?_
          refine wf (wp_ret ?_)
          obtain rfl := Option.some.inj H
          exact rt (.one (.c (.bool false))) qz au rfl
        ·
         rw [ey, cond_false] at H
         have q0 : Kn 223 (K15e1 g j y) [(tB 194 false), (tI 22 x169.2), (tI 20 x161.2.2), (tI 16 x151.2), (tB 12 x143.1)] k0 := (ji.setB 194 false (by rfl) ey).kp
         refine Rk 23 29 [(tB 0 false)] q0 au fun wy q1 => ?_
         refine wf (wp_ret ?_)
         obtain rfl := Option.some.inj H
         exact rt (.one (.c (.bool false))) q1 au rfl
       ·
        rw [ex, cond_false] at H
        have q2 : Kn 223 (K15e1 g j y) [(tB 190 false), (tI 22 x169.2), (tI 20 x161.2.2), (tI 16 x151.2), (tI 13 x143.2), (tB 12 x143.1)] kz := (jh.setB 190 false (by rfl) ex).kp
        refine Rk 19 33 [(tB 0 false)] q2 au fun wz q3 => ?_
        refine wf (wp_ret ?_)
        obtain rfl := Option.some.inj H
        exact rt (.one (.c (.bool false))) q3 au rfl
      ·
       rw [ew, cond_false] at H
       have q4 : Kn 223 (K15e1 g j y) [(tB 186 false), (tI 22 x169.2), (tI 20 x161.2.2), (tI 16 x151.2), (tI 13 x143.2), (tB 12 x143.1), (tI 10 x138.2)] ky := (jg.setB 186 false (by rfl) ew).kp
       refine Rk 15 37 [(tB 0 false)] q4 au fun w0 q5 => ?_
       refine wf (wp_ret ?_)
       obtain rfl := Option.some.inj H
       exact rt (.one (.c (.bool false))) q5 au rfl
     ·
      rw [ev, cond_false] at H
      have q6 : Kn 223 (K15e1 g j y) [(tB 182 false), (tI 22 x169.2), (tI 20 x161.2.2), (tI 16 x151.2), (tI 13 x143.2), (tB 12 x143.1), (tI 10 x138.2), (tI 8 x131.2.2)] kx := (jf.setB 182 false (by rfl) ev).kp
      refine Rk 11 41 [(tB 0 false)] q6 au fun w1 q7 => ?_
      refine wf (wp_ret ?_)
      obtain rfl := Option.some.inj H
      exact rt (.one (.c (.bool false))) q7 au rfl
    ·
     rw [eu, cond_false] at H
     have q8 : Kn 223 (K15e1 g j y) [(tB 178 false), (tI 22 x169.2), (tI 20 x161.2.2), (tI 16 x151.2), (tI 13 x143.2), (tB 12 x143.1), (tI 10 x138.2), (tI 8 x131.2.2), (tI 6 x126.2)] kw := (je.setB 178 false (by rfl) eu).kp
     refine Rk 7 45 [(tB 0 false)] q8 au fun w2 q9 => ?_
     refine wf (wp_ret ?_)
     obtain rfl := Option.some.inj H
     exact rt (.one (.c (.bool false))) q9 au rfl
   ·
    rw [et, cond_false] at H
    have ra : Kn 223 (K15e1 g j y) [(tB 174 false), (tI 22 x169.2), (tI 20 x161.2.2), (tI 16 x151.2), (tI 13 x143.2), (tB 12 x143.1), (tI 10 x138.2), (tI 8 x131.2.2), (tI 6 x126.2), (tI 4 x118.2)] kv := (jd.setB 174 false (by rfl) et).kp
    refine Rk 3 49 [(tB 0 false)] ra au fun w3 rb => ?_
    refine wf (wp_ret ?_)
    obtain rfl := Option.some.inj H
    exact rt (.one (.c (.bool false))) rb au rfl
end Go.Proofs.Ytkbphdjemgibnaa
