/- Each call computes its plain function. -/
import Derived.Test.YtkbphdjemgibnaaProg
import Derived.Test.YtkbphdjemgibnaaSsP0
import Derived.Test.YtkbphdjemgibnaaSsWA
import Derived.Test.YtkbphdjemgibnaaSsWR
import Derived.Test.YtkbphdjemgibnaaSsWS
import Derived.Test.YtkbphdjemgibnaaSsWT
import Derived.Test.YtkbphdjemgibnaaSsWV
set_option linter.all false
namespace Go.Proofs.Ytkbphdjemgibnaa
open Go Go.RowKit
open Rep (rep)
open KRep (kv)
open VRep (rv)
set_option maxRecDepth 100000 in
set_option maxHeartbeats 4000000 in
theorem law_board_ok (n : Nat) {h : Heap} {w : World} (hh : Has h w)  {r : List Card} (H : law_board n  = some r) :
  Calls Try.prog 52 #[] w (Ret (fun h v => ∃ a c, v = .slice a r.length c ∧ RepS h a c r) h w) := by
 refine enter 9 [] Try.func52 rfl rfl rfl rfl fun t hk => ?_
 have hm := Mem.begin h w hh
 unfold law_board at H
 refine wp_seq (wp_region_from (Rk 0 1 [] hk hm fun x l => ?_))
 refine wf (wp_seq (wp_region_from (Rk 0 7 [(tA 7 [.int .i64 7, .int .i64 7, .int .i64 310, .int .u8 0, .int .i64 5, .int .i64 0]), (tA 6 [.int .i64 8, .int .i64 6, .int .i64 400, .int .u8 2, .int .i64 0, .int .i64 1]), (tA 5 [.int .i64 8, .int .i64 5, .int .i64 150, .int .u8 0, .int .i64 1, .int .i64 0]), (tA 4 [.int .i64 7, .int .i64 4, .int .i64 300, .int .u8 3, .int .i64 0, .int .i64 0]), (tA 3 [.int .i64 7, .int .i64 3, .int .i64 200, .int .u8 2, .int .i64 0, .int .i64 1]), (tA 2 [.int .i64 7, .int .i64 2, .int .i64 120, .int .u8 1, .int .i64 4, .int .i64 0]), (tA 1 [.int .i64 7, .int .i64 1, .int .i64 100, .int .u8 0, .int .i64 3, .int .i64 0])] l hm fun z m => ?_)))
 refine wl fun K hK => ?_
 refine wS 99 6 (.int .i64 7 :: .int .i64 1 :: .int .i64 100 :: .int .u8 0 :: .int .i64 3 :: .int .i64 0 :: .int .i64 7 :: .int .i64 2 :: .int .i64 120 :: .int .u8 1 :: .int .i64 4 :: .int .i64 0 :: .int .i64 7 :: .int .i64 3 :: .int .i64 200 :: .int .u8 2 :: .int .i64 0 :: .int .i64 1 :: .int .i64 7 :: .int .i64 4 :: .int .i64 300 :: .int .u8 3 :: .int .i64 0 :: .int .i64 0 :: .int .i64 8 :: .int .i64 5 :: .int .i64 150 :: .int .u8 0 :: .int .i64 1 :: .int .i64 0 :: .int .i64 8 :: .int .i64 6 :: .int .i64 400 :: .int .u8 2 :: .int .i64 0 :: .int .i64 1 :: .int .i64 7 :: .int .i64 7 :: .int .i64 310 :: .int .u8 0 :: .int .i64 5 :: .int .i64 0 :: []) m hm fun b u j (o : Kn 9 [] [(tS 8 b 7 7), (tA 7 [.int .i64 7, .int .i64 7, .int .i64 310, .int .u8 0, .int .i64 5, .int .i64 0]), (tA 6 [.int .i64 8, .int .i64 6, .int .i64 400, .int .u8 2, .int .i64 0, .int .i64 1]), (tA 5 [.int .i64 8, .int .i64 5, .int .i64 150, .int .u8 0, .int .i64 1, .int .i64 0]), (tA 4 [.int .i64 7, .int .i64 4, .int .i64 300, .int .u8 3, .int .i64 0, .int .i64 0]), (tA 3 [.int .i64 7, .int .i64 3, .int .i64 200, .int .u8 2, .int .i64 0, .int .i64 1]), (tA 2 [.int .i64 7, .int .i64 2, .int .i64 120, .int .u8 1, .int .i64 4, .int .i64 0]), (tA 1 [.int .i64 7, .int .i64 1, .int .i64 100, .int .u8 0, .int .i64 3, .int .i64 0])] u) (f : Mem ⟨w, h, noX⟩ h [] [] [⟨b, 7, 7, 99, 6, ((.int .i64 7 :: .int .i64 1 :: .int .i64 100 :: .int .u8 0 :: .int .i64 3 :: .int .i64 0 :: .int .i64 7 :: .int .i64 2 :: .int .i64 120 :: .int .u8 1 :: .int .i64 4 :: .int .i64 0 :: .int .i64 7 :: .int .i64 3 :: .int .i64 200 :: .int .u8 2 :: .int .i64 0 :: .int .i64 1 :: .int .i64 7 :: .int .i64 4 :: .int .i64 300 :: .int .u8 3 :: .int .i64 0 :: .int .i64 0 :: .int .i64 8 :: .int .i64 5 :: .int .i64 150 :: .int .u8 0 :: .int .i64 1 :: .int .i64 0 :: .int .i64 8 :: .int .i64 6 :: .int .i64 400 :: .int .u8 2 :: .int .i64 0 :: .int .i64 1 :: .int .i64 7 :: .int .i64 7 :: .int .i64 310 :: .int .u8 0 :: .int .i64 5 :: .int .i64 0 :: []) : List Value), 0⟩] j) => ?_
 have d : Cells h ([(Card.mk 7 1 100 (IK.mk 0) 3 0), (Card.mk 7 2 120 (IK.mk 1) 4 0), (Card.mk 7 3 200 (IK.mk 2) 0 1), (Card.mk 7 4 300 (IK.mk 3) 0 0), (Card.mk 8 5 150 (IK.mk 0) 1 0), (Card.mk 8 6 400 (IK.mk 2) 0 1), (Card.mk 7 7 310 (IK.mk 0) 5 0)] : List Card) ((.int .i64 7 :: .int .i64 1 :: .int .i64 100 :: .int .u8 0 :: .int .i64 3 :: .int .i64 0 :: .int .i64 7 :: .int .i64 2 :: .int .i64 120 :: .int .u8 1 :: .int .i64 4 :: .int .i64 0 :: .int .i64 7 :: .int .i64 3 :: .int .i64 200 :: .int .u8 2 :: .int .i64 0 :: .int .i64 1 :: .int .i64 7 :: .int .i64 4 :: .int .i64 300 :: .int .u8 3 :: .int .i64 0 :: .int .i64 0 :: .int .i64 8 :: .int .i64 5 :: .int .i64 150 :: .int .u8 0 :: .int .i64 1 :: .int .i64 0 :: .int .i64 8 :: .int .i64 6 :: .int .i64 400 :: .int .u8 2 :: .int .i64 0 :: .int .i64 1 :: .int .i64 7 :: .int .i64 7 :: .int .i64 310 :: .int .u8 0 :: .int .i64 5 :: .int .i64 0 :: []) : List Value) := ⟨_, _, rfl, ((rep_pair rep_int (rep_pair rep_int (rep_pair rep_int (rep_pair rep_ik (rep_pair rep_int rep_int))))) : rep h ((Card.mk 7 1 100 (IK.mk 0) 3 0) : Card) _), ⟨_, _, rfl, ((rep_pair rep_int (rep_pair rep_int (rep_pair rep_int (rep_pair rep_ik (rep_pair rep_int rep_int))))) : rep h ((Card.mk 7 2 120 (IK.mk 1) 4 0) : Card) _), ⟨_, _, rfl, ((rep_pair rep_int (rep_pair rep_int (rep_pair rep_int (rep_pair rep_ik (rep_pair rep_int rep_int))))) : rep h ((Card.mk 7 3 200 (IK.mk 2) 0 1) : Card) _), ⟨_, _, rfl, ((rep_pair rep_int (rep_pair rep_int (rep_pair rep_int (rep_pair rep_ik (rep_pair rep_int rep_int))))) : rep h ((Card.mk 7 4 300 (IK.mk 3) 0 0) : Card) _), ⟨_, _, rfl, ((rep_pair rep_int (rep_pair rep_int (rep_pair rep_int (rep_pair rep_ik (rep_pair rep_int rep_int))))) : rep h ((Card.mk 8 5 150 (IK.mk 0) 1 0) : Card) _), ⟨_, _, rfl, ((rep_pair rep_int (rep_pair rep_int (rep_pair rep_int (rep_pair rep_ik (rep_pair rep_int rep_int))))) : rep h ((Card.mk 8 6 400 (IK.mk 2) 0 1) : Card) _), ⟨_, _, rfl, ((rep_pair rep_int (rep_pair rep_int (rep_pair rep_int (rep_pair rep_ik (rep_pair rep_int rep_int))))) : rep h ((Card.mk 7 7 310 (IK.mk 0) 5 0) : Card) _), rfl⟩⟩⟩⟩⟩⟩⟩
 refine hK _ _ ?_
 refine Rk 8 1 [(tS 0 b 7 7)] o f fun y k => ?_
 refine wf (wp_ret ?_)
 obtain ⟨g, p, s, e⟩ := f.settle (i := 0) rfl
 replace d := d.mono p
 replace e : Mem ⟨w, h, noX⟩ g [] [] [⟨b, 7, 7, 99, 6, ((.int .i64 7 :: .int .i64 1 :: .int .i64 100 :: .int .u8 0 :: .int .i64 3 :: .int .i64 0 :: .int .i64 7 :: .int .i64 2 :: .int .i64 120 :: .int .u8 1 :: .int .i64 4 :: .int .i64 0 :: .int .i64 7 :: .int .i64 3 :: .int .i64 200 :: .int .u8 2 :: .int .i64 0 :: .int .i64 1 :: .int .i64 7 :: .int .i64 4 :: .int .i64 300 :: .int .u8 3 :: .int .i64 0 :: .int .i64 0 :: .int .i64 8 :: .int .i64 5 :: .int .i64 150 :: .int .u8 0 :: .int .i64 1 :: .int .i64 0 :: .int .i64 8 :: .int .i64 6 :: .int .i64 400 :: .int .u8 2 :: .int .i64 0 :: .int .i64 1 :: .int .i64 7 :: .int .i64 7 :: .int .i64 310 :: .int .u8 0 :: .int .i64 5 :: .int .i64 0 :: []) : List Value), (((.int .i64 7 :: .int .i64 1 :: .int .i64 100 :: .int .u8 0 :: .int .i64 3 :: .int .i64 0 :: .int .i64 7 :: .int .i64 2 :: .int .i64 120 :: .int .u8 1 :: .int .i64 4 :: .int .i64 0 :: .int .i64 7 :: .int .i64 3 :: .int .i64 200 :: .int .u8 2 :: .int .i64 0 :: .int .i64 1 :: .int .i64 7 :: .int .i64 4 :: .int .i64 300 :: .int .u8 3 :: .int .i64 0 :: .int .i64 0 :: .int .i64 8 :: .int .i64 5 :: .int .i64 150 :: .int .u8 0 :: .int .i64 1 :: .int .i64 0 :: .int .i64 8 :: .int .i64 6 :: .int .i64 400 :: .int .u8 2 :: .int .i64 0 :: .int .i64 1 :: .int .i64 7 :: .int .i64 7 :: .int .i64 310 :: .int .u8 0 :: .int .i64 5 :: .int .i64 0 :: []) : List Value) : List Value).length⟩] j := e
 have q : RepS g b 7 ([(Card.mk 7 1 100 (IK.mk 0) 3 0), (Card.mk 7 2 120 (IK.mk 1) 4 0), (Card.mk 7 3 200 (IK.mk 2) 0 1), (Card.mk 7 4 300 (IK.mk 3) 0 0), (Card.mk 8 5 150 (IK.mk 0) 1 0), (Card.mk 8 6 400 (IK.mk 2) 0 1), (Card.mk 7 7 310 (IK.mk 0) 5 0)] : List Card) := ⟨_, d, s, f.rowCap (i := 0) rfl⟩
 obtain rfl := Option.some.inj H
 exact rt (.one (.c (.slice b 7 7))) k e ⟨_, _, rfl, q⟩
abbrev K53c1 (b a : Option Addr) : List SC := [.slice b 3 3, .int .i64 3, .slice a 3 3]
abbrev K53c2 : List SC := [.slice none 0 0, .int .i64 0, .slice none 0 0]
abbrev K53r3 (a b : Option Addr) : List Row := [⟨a, 3, 3, 3, 1, ([.int .i64 6, .int .i64 5, .int .i64 6] : List Value), 0⟩, ⟨b, 3, 3, 120, 3, ([.int .i64 0, .int .i64 4, .int .i64 5, .int .i64 1, .int .i64 6, .int .i64 2, .int .i64 1, .int .i64 4, .int .i64 3] : List Value), 0⟩]
set_option maxRecDepth 100000 in
set_option maxHeartbeats 4000000 in
theorem law_yard_ok (n : Nat) {h : Heap} {w : World} (hh : Has h w)  {r : Shop} (H : law_yard n  = some r) :
  Calls Try.prog 53 #[] w (Ret (fun h v => ∃ cs, v = .agg cs.toArray ∧ rep h r cs) h w) := by
 refine enter 7 [] Try.func53 rfl rfl rfl rfl fun t hk => ?_
 have hm := Mem.begin h w hh
 unfold law_yard at H
 refine wp_seq (wp_region_from (wl fun K hK => ?_))
 refine wa K53c2 hk hm fun c aj an (ac : Kn 7 [(c, 0)] [(tP 0 0 0)] aj) (ae : Mem ⟨w, h, noX⟩ h [(c, 0)] [⟨K53c2, some 79⟩] [] an) => hK _ _ ?_
 refine wf (wp_seq (wp_region_from (wl fun K hK => ?_)))
 refine wS 3 1 [.int .i64 6, .int .i64 5, .int .i64 6] ac ae fun a al ao (ad : Kn 7 [(c, 0)] [(tS 1 a 3 3), (tP 0 0 0)] al) (q : Mem ⟨w, h, noX⟩ h [(c, 0)] [⟨K53c2, some 79⟩] [⟨a, 3, 3, 3, 1, ([.int .i64 6, .int .i64 5, .int .i64 6] : List Value), 0⟩] ao) => ?_
 have f : Cells h ([6, 5, 6] : List Int) ([.int .i64 6, .int .i64 5, .int .i64 6] : List Value) := ⟨_, _, rfl, (rep_int : rep h (6 : Int) _), ⟨_, _, rfl, (rep_int : rep h (5 : Int) _), ⟨_, _, rfl, (rep_int : rep h (6 : Int) _), rfl⟩⟩⟩
 refine hK _ _ ?_
 refine Rk 1 3 [(tA 4 [.int .i64 1, .int .i64 4, .int .i64 3]), (tA 3 [.int .i64 1, .int .i64 6, .int .i64 2]), (tA 2 [.int .i64 0, .int .i64 4, .int .i64 5]), (tS 1 a 3 3), (tP 0 0 0)] ad q fun ap x => ?_
 refine wl fun K hK => ?_
 refine wS 120 3 [.int .i64 0, .int .i64 4, .int .i64 5, .int .i64 1, .int .i64 6, .int .i64 2, .int .i64 1, .int .i64 4, .int .i64 3] x q fun b ai am (y : Kn 7 [(c, 0)] [(tS 5 b 3 3), (tA 4 [.int .i64 1, .int .i64 4, .int .i64 3]), (tA 3 [.int .i64 1, .int .i64 6, .int .i64 2]), (tA 2 [.int .i64 0, .int .i64 4, .int .i64 5]), (tS 1 a 3 3), (tP 0 0 0)] ai) (s : Mem ⟨w, h, noX⟩ h [(c, 0)] [⟨K53c2, some 79⟩] (K53r3 a b) am) => ?_
 have g : Cells h ([(Job.mk 0 4 5), (Job.mk 1 6 2), (Job.mk 1 4 3)] : List Job) ([.int .i64 0, .int .i64 4, .int .i64 5, .int .i64 1, .int .i64 6, .int .i64 2, .int .i64 1, .int .i64 4, .int .i64 3] : List Value) := ⟨_, _, rfl, ((rep_pair rep_int (rep_pair rep_int rep_int)) : rep h ((Job.mk 0 4 5) : Job) _), ⟨_, _, rfl, ((rep_pair rep_int (rep_pair rep_int rep_int)) : rep h ((Job.mk 1 6 2) : Job) _), ⟨_, _, rfl, ((rep_pair rep_int (rep_pair rep_int rep_int)) : rep h ((Job.mk 1 4 3) : Job) _), rfl⟩⟩⟩
 refine hK _ _ ?_
 refine Rk 5 1 [(tA 6 (K53c1 b a)), (tP 0 0 0)] y s fun ak z => ?_
 refine wl fun K hK => ?_
 refine wst 0 0 (.agg (K53c1 b a)) (K53c1 b a) z s fun l aa (u : Mem ⟨w, h, noX⟩ h [(c, 0)] [⟨(K53c1 b a), some 79⟩] (K53r3 a b) l) => hK _ _ ?_
 have ab : Kn 7 [(c, 0)] [(tP 0 0 0)] ak := aa.kp
 refine wf (wp_ret ?_)
 obtain ⟨m, o, ag, d⟩ := u.settle (i := 1) rfl
 replace g := g.mono o
 replace d : Mem ⟨w, h, noX⟩ m [(c, 0)] [⟨(K53c1 b a), some 79⟩] [⟨a, 3, 3, 3, 1, ([.int .i64 6, .int .i64 5, .int .i64 6] : List Value), 0⟩, ⟨b, 3, 3, 120, 3, ([.int .i64 0, .int .i64 4, .int .i64 5, .int .i64 1, .int .i64 6, .int .i64 2, .int .i64 1, .int .i64 4, .int .i64 3] : List Value), (([.int .i64 0, .int .i64 4, .int .i64 5, .int .i64 1, .int .i64 6, .int .i64 2, .int .i64 1, .int .i64 4, .int .i64 3] : List Value) : List Value).length⟩] l := d
 have k : RepS m b 3 ([(Job.mk 0 4 5), (Job.mk 1 6 2), (Job.mk 1 4 3)] : List Job) := ⟨_, g, ag, u.rowCap (i := 1) rfl⟩
 obtain ⟨e, p, ah, j⟩ := d.settle (i := 0) rfl
 replace k := k.mono p
 replace f := f.mono (Heap.le_trans o p)
 replace j : Mem ⟨w, h, noX⟩ e [(c, 0)] [⟨(K53c1 b a), some 79⟩] [⟨a, 3, 3, 3, 1, ([.int .i64 6, .int .i64 5, .int .i64 6] : List Value), (([.int .i64 6, .int .i64 5, .int .i64 6] : List Value) : List Value).length⟩, ⟨b, 3, 3, 120, 3, ([.int .i64 0, .int .i64 4, .int .i64 5, .int .i64 1, .int .i64 6, .int .i64 2, .int .i64 1, .int .i64 4, .int .i64 3] : List Value), (([.int .i64 0, .int .i64 4, .int .i64 5, .int .i64 1, .int .i64 6, .int .i64 2, .int .i64 1, .int .i64 4, .int .i64 3] : List Value) : List Value).length⟩] l := j
 have af : RepS e a 3 ([6, 5, 6] : List Int) := ⟨_, f, ah, d.rowCap (i := 0) rfl⟩
 obtain rfl := Option.some.inj H
 exact rt (.one (.agg (K53c1 b a))) ab j ⟨_, rfl, ((rep_pair (rep_slice k) (rep_pair rep_int (rep_slice af))) : rep e ((Shop.mk ([(Job.mk 0 4 5), (Job.mk 1 6 2), (Job.mk 1 4 3)] : List Job) 3 ([6, 5, 6] : List Int)) : Shop) _)⟩
abbrev K17c1 : List SC := [.int .i64 800, .int .i64 900, .int .i64 30, .int .i64 50, .int .i64 5, .int .i64 1000, .int .i64 14]
abbrev K17m2 (x31 : (List Int) × Int × Int) (a : Option Addr) (b : Nat) (x25 : Int × Int × Int) (x18 : (List Int) × Int) (d : Option Addr) (e : Nat) : TM := [(tI 10 x31.2.2), (tI 9 x31.2.1), (tS 8 a x31.1.length b), (tI 7 x25.2.2), (tI 6 x25.2.1), (tI 5 x25.1), (tI 4 x18.2), (tS 3 d x18.1.length e)]
abbrev K17m3 (x31 : (List Int) × Int × Int) (a : Option Addr) (b : Nat) (x25 : Int × Int × Int) : TM := [(tI 10 x31.2.2), (tI 9 x31.2.1), (tS 8 a x31.1.length b), (tI 7 x25.2.2), (tI 6 x25.2.1), (tI 5 x25.1)]
abbrev K17m4 (x18 : (List Int) × Int) (d : Option Addr) (e : Nat) (x13 : (List Int) × Int) (f : Option Addr) (g : Nat) : TM := [(tI 4 x18.2), (tS 3 d x18.1.length e), (tI 2 x13.2), (tS 1 f x13.1.length g)]
set_option maxRecDepth 100000 in
set_option maxHeartbeats 4000000 in
theorem law_wakes_ok (n : Nat) {h : Heap} {w : World} (hh : Has h w)  {r : Bool} (H : law_wakes n  = some r) :
  Calls Try.prog 17 #[] w (Ret (fun h v => v = .bool r) h w) := by
 refine enter 76 [] Try.func17 rfl rfl rfl rfl fun t hk => ?_
 have hm := Mem.begin h w hh
 unfold law_wakes at H
 refine wp_seq (wp_region_from (Rk 0 1 [] hk hm fun ev c9 => ?_))
 refine wf (wp_seq (wp_region_from ?_))
 obtain ⟨x12, ex12, H⟩ := bnd H
 refine wl fun K hK => ?_
 refine wc [] c9 hm (law_board_ok n hm.has  ex12) fun fj ep fu cl eu b1 => ?_
 obtain ⟨aq, ar, rfl, d1⟩ := cl
 refine ⟨.one (.c (.slice aq x12.length ar)), rfl, fun ea (ct : Kn 76 [] [(tS 12 aq x12.length ar)] ea) => hK _ _ ?_⟩
 obtain ⟨x13, ex13, H⟩ := bnd H
 refine wl fun K hK => ?_
 refine wc [.c (.slice aq x12.length ar), .c (.int .i64 7), .c (.int .i64 250)] ct b1 (pit_Open_ok n b1.has x12 d1 7 250 ex13) fun fg em fq cg es a6 => ?_
 obtain ⟨_, _, rfl, ⟨f, g, rfl, am⟩, rfl⟩ := cg
 refine ⟨.tup [.c (.slice f x13.1.length g), .c (.int .i64 x13.2)], rfl, fun ef (dm : Kn 76 [] [(13, .tup [.c (.slice f x13.1.length g), .c (.int .i64 x13.2)]), (tS 12 aq x12.length ar)] ef) => hK _ _ ?_⟩
 refine Rk 2 5 [(tI 2 x13.2), (tS 1 f x13.1.length g)] dm a6 fun e8 dn => ?_
 refine wf (wp_seq (wp_region_from ?_))
 obtain ⟨x17, ex17, H⟩ := bnd H
 refine wl fun K hK => ?_
 refine wc [] dn a6 (law_board_ok n a6.has  ex17) fun fi eo fs ci dz bz => ?_
 obtain ⟨an, au, rfl, d3⟩ := ci
 refine ⟨.one (.c (.slice an x17.length au)), rfl, fun eg (dp : Kn 76 [] [(tS 17 an x17.length au), (tI 2 x13.2), (tS 1 f x13.1.length g)] eg) => hK _ _ ?_⟩
 obtain ⟨x18, ex18, H⟩ := bnd H
 refine wl fun K hK => ?_
 refine wc [.c (.slice an x17.length au), .c (.int .i64 130)] dp bz (pit_FitL_ok n bz.has x17 d3 130 ex18) fun fk co ft cj d0 a2 => ?_
 obtain ⟨_, _, rfl, ⟨d, e, rfl, p⟩, rfl⟩ := cj
 refine ⟨.tup [.c (.slice d x18.1.length e), .c (.int .i64 x18.2)], rfl, fun eh (dq : Kn 76 [] [(18, .tup [.c (.slice d x18.1.length e), .c (.int .i64 x18.2)]), (tS 17 an x17.length au), (tI 2 x13.2), (tS 1 f x13.1.length g)] eh) => hK _ _ ?_⟩
 refine Rk 2 5 (K17m4 x18 d e x13 f g) dq a2 fun e9 dr => ?_
 refine wf (wp_seq (wp_region_from (Rk 0 3 ((tA 24 K17c1) :: (K17m4 x18 d e x13 f g)) dr a2 fun fa ds => ?_)))
 obtain ⟨x25, ex25, H⟩ := bnd H
 refine wl fun K hK => ?_
 refine wc [.agg K17c1] ds a2 (pit_Due_ok n a2.has (Wear.mk (Rg.mk 800 900) (Rg.mk 30 50) 5 1000 14) ((rep_pair (rep_pair rep_int rep_int) (rep_pair (rep_pair rep_int rep_int) (rep_pair rep_int (rep_pair rep_int rep_int)))) : rep co (Wear.mk (Rg.mk 800 900) (Rg.mk 30 50) 5 1000 14) _) ex25) fun fl er fv ck bs a7 => ?_
 obtain ⟨_, _, _, rfl, rfl, rfl, rfl⟩ := ck
 refine ⟨.tup [.c (.int .i64 x25.1), .c (.int .i64 x25.2.1), .c (.int .i64 x25.2.2)], rfl, fun ei (dt : Kn 76 [] ((25, .tup [.c (.int .i64 x25.1), .c (.int .i64 x25.2.1), .c (.int .i64 x25.2.2)]) :: (tA 24 K17c1) :: (K17m4 x18 d e x13 f g)) ei) => hK _ _ ?_⟩
 refine Rk 4 7 ((tI 7 x25.2.2) :: (tI 6 x25.2.1) :: (tI 5 x25.1) :: (K17m4 x18 d e x13 f g)) dt a7 fun fb du => ?_
 refine wf (wp_seq (wp_region_from ?_))
 obtain ⟨x30, ex30, H⟩ := bnd H
 refine wl fun K hK => ?_
 refine wc [] du a7 (law_yard_ok n a7.has  ex30) fun fm cp fw cm bt b0 => ?_
 obtain ⟨_, rfl, ⟨_, _, rfl, ⟨ao, av, rfl, d4⟩, ⟨_, _, rfl, rfl, ⟨ap, aw, rfl, d5⟩⟩⟩⟩ := cm
 refine ⟨.one (.agg [.slice ao x30.buses.length av, .int .i64 x30.days, .slice ap x30.pits.length aw]), rfl, fun ej (dv : Kn 76 [] ((tA 30 [.slice ao x30.buses.length av, .int .i64 x30.days, .slice ap x30.pits.length aw]) :: (tI 7 x25.2.2) :: (tI 6 x25.2.1) :: (tI 5 x25.1) :: (K17m4 x18 d e x13 f g)) ej) => hK _ _ ?_⟩
 obtain ⟨x31, ex31, H⟩ := bnd H
 refine wl fun K hK => ?_
 refine wc [.agg [.slice ao x30.buses.length av, .int .i64 x30.days, .slice ap x30.pits.length aw]] dv b0 (pit_Best_ok n b0.has x30 ((rep_pair (rep_slice d4) (rep_pair rep_int (rep_slice d5))) : rep cp x30 _) ex31) fun fn a4 fx cn bu u => ?_
 replace am := am.mono (Heap.le_trans (Heap.le_trans (Heap.le_trans (Heap.le_trans dz d0) bs) bt) bu)
 replace p := p.mono (Heap.le_trans (Heap.le_trans bs bt) bu)
 obtain ⟨_, _, _, rfl, ⟨a, b, rfl, q⟩, rfl, rfl⟩ := cn
 refine ⟨.tup [.c (.slice a x31.1.length b), .c (.int .i64 x31.2.1), .c (.int .i64 x31.2.2)], rfl, fun ek (dw : Kn 76 [] ((31, .tup [.c (.slice a x31.1.length b), .c (.int .i64 x31.2.1), .c (.int .i64 x31.2.2)]) :: (tA 30 [.slice ao x30.buses.length av, .int .i64 x30.days, .slice ap x30.pits.length aw]) :: (tI 7 x25.2.2) :: (tI 6 x25.2.1) :: (tI 5 x25.1) :: (K17m4 x18 d e x13 f g)) ek) => hK _ _ ?_⟩
 refine Rk 2 7 ((tI 10 x31.2.2) :: (tI 9 x31.2.1) :: (tS 8 a x31.1.length b) :: (tI 7 x25.2.2) :: (tI 6 x25.2.1) :: (tI 5 x25.1) :: (K17m4 x18 d e x13 f g)) dw u fun fc dx => ?_
 refine wf (wp_seq (wp_region_from (Rk 0 3 [(tB 37 (x13.2 == 0)), (tI 10 x31.2.2), (tI 9 x31.2.1), (tS 8 a x31.1.length b), (tI 7 x25.2.2), (tI 6 x25.2.1), (tI 5 x25.1), (tI 4 x18.2), (tS 3 d x18.1.length e), (tS 1 f x13.1.length g)] dx u fun ca bo => ?_)))
 rcases Bool.eq_false_or_eq_true ((x13.2 == 0)) with ag | ag
 ·
  rw [ag, cond_true] at H
  have dy : Kn 76 [] [(tB 37 true), (tI 10 x31.2.2), (tI 9 x31.2.1), (tS 8 a x31.1.length b), (tI 7 x25.2.2), (tI 6 x25.2.1), (tI 5 x25.1), (tI 4 x18.2), (tS 3 d x18.1.length e), (tS 1 f x13.1.length g)] ca := (bo.setB 37 true (by rfl) ag).kp
  refine Rk 3 1 ((tS 38 f x13.1.length g) :: (tB 37 true) :: (K17m2 x31 a b x25 x18 d e)) dy u fun fd bp => ?_
  refine wpFrom_loud _ rfl (wantedS_sound bp (by kernel_rfl)) fun K hK => ?_
  refine wS 3 1 [.int .i64 2] bp u fun k el cd (bq : Kn 76 [] ((tS 39 k 1 1) :: (tS 38 f x13.1.length g) :: (tB 37 true) :: (K17m2 x31 a b x25 x18 d e)) el) (bv : Mem ⟨w, h, noX⟩ a4 [] [] [⟨k, 1, 1, 3, 1, ([.int .i64 2] : List Value), 0⟩] cd) => ?_
  have o : Cells a4 ([2] : List Int) ([.int .i64 2] : List Value) := ⟨_, _, rfl, (rep_int : rep a4 (2 : Int) _), rfl⟩
  refine hK _ _ ?_
  obtain ⟨a9, ax, d6, az⟩ := bv.settle (i := 0) rfl
  replace am := am.mono ax
  replace o := o.mono ax
  replace az : Mem ⟨w, h, noX⟩ a9 [] [] [⟨k, 1, 1, 3, 1, ([.int .i64 2] : List Value), (([.int .i64 2] : List Value) : List Value).length⟩] cd := az
  have al : RepS a9 k 1 ([2] : List Int) := ⟨_, o, d6, bv.rowCap (i := 0) rfl⟩
  obtain ⟨x40, ex40, H⟩ := bnd H
  refine wpFrom_loud _ rfl (wantedS_sound bq (by kernel_rfl)) fun K hK => ?_
  refine wc [.c (.slice f x13.1.length g), .c (.slice k 1 1)] bq az (law_ints_ok n az.has x13.1 am ([2] : List Int) al ex40) fun fe a3 fo ce ay m => ?_
  replace p := p.mono (Heap.le_trans ax ay)
  replace q := q.mono (Heap.le_trans ax ay)
  replace al := al.mono ay
  replace o := o.mono ay
  obtain rfl := ce
  refine ⟨.one (.c (.bool x40)), rfl, fun d9 (cq : Kn 76 [] ((tB 40 x40) :: (tS 39 k 1 1) :: (tS 38 f x13.1.length g) :: (tB 37 true) :: (K17m2 x31 a b x25 x18 d e)) d9) => hK _ _ ?_⟩
  refine Rk 6 2 ((tB 42 x40) :: (K17m2 x31 a b x25 x18 d e)) cq m fun b2 bc => ?_
  rcases Bool.eq_false_or_eq_true (x40) with y | y
  ·
   rw [y, cond_true] at H
   have cr : Kn 76 [] ((tB 42 true) :: (K17m2 x31 a b x25 x18 d e)) b2 := (bc.setB 42 true (by rfl) y).kp
   refine Rk 8 4 [(tB 46 (x18.2 == 0)), (tI 10 x31.2.2), (tI 9 x31.2.1), (tS 8 a x31.1.length b), (tI 7 x25.2.2), (tI 6 x25.2.1), (tI 5 x25.1), (tS 3 d x18.1.length e)] cr m fun b3 bd => ?_
   rcases Bool.eq_false_or_eq_true ((x18.2 == 0)) with z | z
   ·
    rw [z, cond_true] at H
    have cs : Kn 76 [] [(tB 46 true), (tI 10 x31.2.2), (tI 9 x31.2.1), (tS 8 a x31.1.length b), (tI 7 x25.2.2), (tI 6 x25.2.1), (tI 5 x25.1), (tS 3 d x18.1.length e)] b3 := (bd.setB 46 true (by rfl) z).kp
    refine Rk 12 1 ((tS 47 d x18.1.length e) :: (tB 46 true) :: (K17m3 x31 a b x25)) cs m fun ew be => ?_
    refine wpFrom_loud _ rfl (wantedS_sound be (by kernel_rfl)) fun K hK => ?_
    refine wS 3 1 [.int .i64 8] be m fun l eb cb (bf : Kn 76 [] ((tS 48 l 1 1) :: (tS 47 d x18.1.length e) :: (tB 46 true) :: (K17m3 x31 a b x25)) eb) (bw : Mem ⟨w, h, noX⟩ a3 [] [] [⟨k, 1, 1, 3, 1, ([.int .i64 2] : List Value), (([.int .i64 2] : List Value) : List Value).length⟩, ⟨l, 1, 1, 3, 1, ([.int .i64 8] : List Value), 0⟩] cb) => ?_
    have ah : Cells a3 ([8] : List Int) ([.int .i64 8] : List Value) := ⟨_, _, rfl, (rep_int : rep a3 (8 : Int) _), rfl⟩
    refine hK _ _ ?_
    obtain ⟨ba, ai, d7, a0⟩ := bw.settle (i := 1) rfl
    replace p := p.mono ai
    replace ah := ah.mono ai
    replace a0 : Mem ⟨w, h, noX⟩ ba [] [] [⟨k, 1, 1, 3, 1, ([.int .i64 2] : List Value), (([.int .i64 2] : List Value) : List Value).length⟩, ⟨l, 1, 1, 3, 1, ([.int .i64 8] : List Value), (([.int .i64 8] : List Value) : List Value).length⟩] cb := a0
    have a8 : RepS ba l 1 ([8] : List Int) := ⟨_, ah, d7, bw.rowCap (i := 1) rfl⟩
    obtain ⟨x49, ex49, H⟩ := bnd H
    refine wpFrom_loud _ rfl (wantedS_sound bf (by kernel_rfl)) fun K hK => ?_
    refine wc [.c (.slice d x18.1.length e), .c (.slice l 1 1)] bf a0 (law_ints_ok n a0.has x18.1 p ([8] : List Int) a8 ex49) fun ff x fp cf aj j => ?_
    replace q := q.mono (Heap.le_trans ai aj)
    replace al := al.mono (Heap.le_trans ai aj)
    replace a8 := a8.mono aj
    replace o := o.mono (Heap.le_trans ai aj)
    replace ah := ah.mono aj
    obtain rfl := cf
    refine ⟨.one (.c (.bool x49)), rfl, fun ec (cu : Kn 76 [] ((tB 49 x49) :: (tS 48 l 1 1) :: (tS 47 d x18.1.length e) :: (tB 46 true) :: (K17m3 x31 a b x25)) ec) => hK _ _ ?_⟩
    refine Rk 15 2 ((tB 51 x49) :: (K17m3 x31 a b x25)) cu j fun b4 bg => ?_
    rcases Bool.eq_false_or_eq_true (x49) with aa | aa
    ·
     rw [aa, cond_true] at H
     have cv : Kn 76 [] ((tB 51 true) :: (K17m3 x31 a b x25)) b4 := (bg.setB 51 true (by rfl) aa).kp
     refine Rk 17 4 [(tB 55 (x25.2.2 == 0)), (tI 10 x31.2.2), (tI 9 x31.2.1), (tS 8 a x31.1.length b), (tI 6 x25.2.1), (tI 5 x25.1)] cv j fun b5 bh => ?_
     rcases Bool.eq_false_or_eq_true ((x25.2.2 == 0)) with ab | ab
     ·
      rw [ab, cond_true] at H
      have cw : Kn 76 [] [(tB 55 true), (tI 10 x31.2.2), (tI 9 x31.2.1), (tS 8 a x31.1.length b), (tI 6 x25.2.1), (tI 5 x25.1)] b5 := (bh.setB 55 true (by rfl) ab).kp
      refine Rk 21 4 [(tB 59 (x25.1 == 2)), (tI 10 x31.2.2), (tI 9 x31.2.1), (tS 8 a x31.1.length b), (tI 6 x25.2.1)] cw j fun b6 bi => ?_
      rcases Bool.eq_false_or_eq_true ((x25.1 == 2)) with ac | ac
      ·
       rw [ac, cond_true] at H
       have cx : Kn 76 [] [(tB 59 true), (tI 10 x31.2.2), (tI 9 x31.2.1), (tS 8 a x31.1.length b), (tI 6 x25.2.1)] b6 := (bi.setB 59 true (by rfl) ac).kp
       refine Rk 25 4 [(tB 63 (x25.2.1 == 7)), (tI 10 x31.2.2), (tI 9 x31.2.1), (tS 8 a x31.1.length b)] cx j fun b7 bj => ?_
       rcases Bool.eq_false_or_eq_true ((x25.2.1 == 7)) with ad | ad
       ·
        rw [ad, cond_true] at H
        have cy : Kn 76 [] [(tB 63 true), (tI 10 x31.2.2), (tI 9 x31.2.1), (tS 8 a x31.1.length b)] b7 := (bj.setB 63 true (by rfl) ad).kp
        refine Rk 29 4 [(tB 67 (x31.2.2 == 0)), (tI 9 x31.2.1), (tS 8 a x31.1.length b)] cy j fun b8 bk => ?_
        rcases Bool.eq_false_or_eq_true ((x31.2.2 == 0)) with ae | ae
        ·
         rw [ae, cond_true] at H
         have cz : Kn 76 [] [(tB 67 true), (tI 9 x31.2.1), (tS 8 a x31.1.length b)] b8 := (bk.setB 67 true (by rfl) ae).kp
         refine Rk 33 1 [(tS 68 a x31.1.length b), (tB 67 true), (tI 9 x31.2.1)] cz j fun ex bl => ?_
         refine wpFrom_loud _ rfl (wantedS_sound bl (by kernel_rfl)) fun K hK => ?_
         refine wS 3 1 [.int .i64 0, .int .i64 2, .int .i64 1] bl j fun s ed cc (bm : Kn 76 [] [(tS 69 s 3 3), (tS 68 a x31.1.length b), (tB 67 true), (tI 9 x31.2.1)] ed) (bx : Mem ⟨w, h, noX⟩ x [] [] [⟨k, 1, 1, 3, 1, ([.int .i64 2] : List Value), (([.int .i64 2] : List Value) : List Value).length⟩, ⟨l, 1, 1, 3, 1, ([.int .i64 8] : List Value), (([.int .i64 8] : List Value) : List Value).length⟩, ⟨s, 3, 3, 3, 1, ([.int .i64 0, .int .i64 2, .int .i64 1] : List Value), 0⟩] cc) => ?_
         have a5 : Cells x ([0, 2, 1] : List Int) ([.int .i64 0, .int .i64 2, .int .i64 1] : List Value) := ⟨_, _, rfl, (rep_int : rep x (0 : Int) _), ⟨_, _, rfl, (rep_int : rep x (2 : Int) _), ⟨_, _, rfl, (rep_int : rep x (1 : Int) _), rfl⟩⟩⟩
         refine hK _ _ ?_
         obtain ⟨bb, br, d8, a1⟩ := bx.settle (i := 2) rfl
         replace q := q.mono br
         replace a5 := a5.mono br
         replace a1 : Mem ⟨w, h, noX⟩ bb [] [] [⟨k, 1, 1, 3, 1, ([.int .i64 2] : List Value), (([.int .i64 2] : List Value) : List Value).length⟩, ⟨l, 1, 1, 3, 1, ([.int .i64 8] : List Value), (([.int .i64 8] : List Value) : List Value).length⟩, ⟨s, 3, 3, 3, 1, ([.int .i64 0, .int .i64 2, .int .i64 1] : List Value), (([.int .i64 0, .int .i64 2, .int .i64 1] : List Value) : List Value).length⟩] cc := a1
         have d2 : RepS bb s 3 ([0, 2, 1] : List Int) := ⟨_, a5, d8, bx.rowCap (i := 2) rfl⟩
         obtain ⟨x70, ex70, H⟩ := bnd H
         refine wpFrom_loud _ rfl (wantedS_sound bm (by kernel_rfl)) fun K hK => ?_
         refine wc [.c (.slice a x31.1.length b), .c (.slice s 3 3)] bm a1 (law_ints_ok n a1.has x31.1 q ([0, 2, 1] : List Int) d2 ex70) fun fh en fr ch et ak => ?_
         obtain rfl := ch
         refine ⟨.one (.c (.bool x70)), rfl, fun ee (c0 : Kn 76 [] [(tB 70 x70), (tS 69 s 3 3), (tS 68 a x31.1.length b), (tB 67 true), (tI 9 x31.2.1)] ee) => hK _ _ ?_⟩
         refine Rk 36 2 [(tB 72 x70), (tI 9 x31.2.1)] c0 ak fun b9 bn => ?_
         rcases Bool.eq_false_or_eq_true (x70) with af | af
         ·
          rw [af, cond_true] at H
          have c1 : Kn 76 [] [(tB 72 true), (tI 9 x31.2.1)] b9 := (bn.setB 72 true (by rfl) af).kp
          refine Rk 38 4 [(tB 0 (x31.2.1 == 2))] c1 ak fun ey c2 => ?_
          refine wf (wp_ret ?_)
          obtain rfl := Option.some.inj H
          exact rt (.one (.c (.bool (x31.2.1 == 2)))) c2 ak rfl
         ·
          rw [af, cond_false] at H
          have c3 : Kn 76 [] [(tB 72 false), (tI 9 x31.2.1)] b9 := (bn.setB 72 false (by rfl) af).kp
          refine Rk 38 4 [(tB 0 false)] c3 ak fun ez c4 => ?_
          refine wf (wp_ret ?_)
          obtain rfl := Option.some.inj H
          exact rt (.one (.c (.bool false))) c4 ak rfl
        ·
         rw [ae, cond_false] at H
         have c5 : Kn 76 [] [(tB 67 false), (tI 9 x31.2.1), (tS 8 a x31.1.length b)] b8 := (bk.setB 67 false (by rfl) ae).kp
         refine Rk 33 9 [(tB 0 false)] c5 j fun e0 c6 => ?_
         refine wf (wp_ret ?_)
         obtain rfl := Option.some.inj H
         exact rt (.one (.c (.bool false))) c6 j rfl
       ·
        rw [ad, cond_false] at H
        have c7 : Kn 76 [] [(tB 63 false), (tI 10 x31.2.2), (tI 9 x31.2.1), (tS 8 a x31.1.length b)] b7 := (bj.setB 63 false (by rfl) ad).kp
        refine Rk 29 13 [(tB 0 false)] c7 j fun e1 c8 => ?_
        refine wf (wp_ret ?_)
        obtain rfl := Option.some.inj H
        exact rt (.one (.c (.bool false))) c8 j rfl
      ·
       rw [ac, cond_false] at H
       have da : Kn 76 [] [(tB 59 false), (tI 10 x31.2.2), (tI 9 x31.2.1), (tS 8 a x31.1.length b), (tI 6 x25.2.1)] b6 := (bi.setB 59 false (by rfl) ac).kp
       refine Rk 25 17 [(tB 0 false)] da j fun e2 db => ?_
       refine wf (wp_ret ?_)
       obtain rfl := Option.some.inj H
       exact rt (.one (.c (.bool false))) db j rfl
     ·
      rw [ab, cond_false] at H
      have dc : Kn 76 [] [(tB 55 false), (tI 10 x31.2.2), (tI 9 x31.2.1), (tS 8 a x31.1.length b), (tI 6 x25.2.1), (tI 5 x25.1)] b5 := (bh.setB 55 false (by rfl) ab).kp
      refine Rk 21 21 [(tB 0 false)] dc j fun e3 dd => ?_
      refine wf (wp_ret ?_)
      obtain rfl := Option.some.inj H
      exact rt (.one (.c (.bool false))) dd j rfl
    ·
     rw [aa, cond_false] at H
     have de : Kn 76 [] ((tB 51 false) :: (K17m3 x31 a b x25)) b4 := (bg.setB 51 false (by rfl) aa).kp
     refine Rk 17 25 [(tB 0 false)] de j fun e4 df => ?_
     refine wf (wp_ret ?_)
     obtain rfl := Option.some.inj H
     exact rt (.one (.c (.bool false))) df j rfl
   ·
    rw [z, cond_false] at H
    have dg : Kn 76 [] [(tB 46 false), (tI 10 x31.2.2), (tI 9 x31.2.1), (tS 8 a x31.1.length b), (tI 7 x25.2.2), (tI 6 x25.2.1), (tI 5 x25.1), (tS 3 d x18.1.length e)] b3 := (bd.setB 46 false (by rfl) z).kp
    refine Rk 12 30 [(tB 0 false)] dg m fun e5 dh => ?_
    refine wf (wp_ret ?_)
    obtain rfl := Option.some.inj H
    exact rt (.one (.c (.bool false))) dh m rfl
  ·
   rw [y, cond_false] at H
   have di : Kn 76 [] ((tB 42 false) :: (K17m2 x31 a b x25 x18 d e)) b2 := (bc.setB 42 false (by rfl) y).kp
   refine Rk 8 34 [(tB 0 false)] di m fun e6 dj => ?_
   refine wf (wp_ret ?_)
   obtain rfl := Option.some.inj H
   exact rt (.one (.c (.bool false))) dj m rfl
 ·
  rw [ag, cond_false] at H
  have dk : Kn 76 [] [(tB 37 false), (tI 10 x31.2.2), (tI 9 x31.2.1), (tS 8 a x31.1.length b), (tI 7 x25.2.2), (tI 6 x25.2.1), (tI 5 x25.1), (tI 4 x18.2), (tS 3 d x18.1.length e), (tS 1 f x13.1.length g)] ca := (bo.setB 37 false (by rfl) ag).kp
  refine Rk 3 39 [(tB 0 false)] dk u fun e7 dl => ?_
  refine wf (wp_ret ?_)
  obtain rfl := Option.some.inj H
  exact rt (.one (.c (.bool false))) dl u rfl
end Go.Proofs.Ytkbphdjemgibnaa
