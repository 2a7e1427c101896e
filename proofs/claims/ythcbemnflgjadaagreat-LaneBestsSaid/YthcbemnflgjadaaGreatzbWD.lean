/- Each call computes its plain function. -/
import Derived.Test.YthcbemnflgjadaaGreatProg
import Derived.Test.YthcbemnflgjadaaGreatzbP0
import Derived.Test.YthcbemnflgjadaaGreatzbS6
import Derived.Test.YthcbemnflgjadaaGreatzbWB
import Derived.Test.YthcbemnflgjadaaGreatzbWC
set_option linter.all false
namespace Go.Proofs.YthcbemnflgjadaaGreat
open Go Go.RowKit
open Rep (rep)
open KRep (kv)
open VRep (rv)
abbrev NV (d f i:Nat) (b:Int) (k l:Nat) (c:Int):AG:=[(d,0),(f,i+(b:Int).toNat*1),(k,l+(c:Int).toNat*1)]
abbrev UJ (n_:Cd):List SC:=[.bool n_.broken.a0,.bool n_.broken.a1,.bool n_.broken.a2,.bool n_.broken.a3,.bool n_.broken.a4,.bool n_.broken.a5,.bool n_.broken.a6,.bool n_.broken.a7]
abbrev Sz (m:Option Addr) (n_:Cd) (q:Nat) (p:Option Addr) (s:Nat) (a:Option Addr) (e:Nat):List SC:=[.slice m n_.yard.room.length q,.slice p n_.yard.buses.length s,.int .i64 n_.yard.broken,.slice a n_.lane.length e,.int .i64 n_.tm.a0,.int .i64 n_.tm.a1,.int .i64 n_.tm.a2,.int .i64 n_.tm.a3,.int .i64 n_.tm.a4,.int .i64 n_.tm.a5,.int .i64 n_.tm.a6,.int .i64 n_.tm.a7,.bool n_.broken.a0,.bool n_.broken.a1,.bool n_.broken.a2,.bool n_.broken.a3,.bool n_.broken.a4,.bool n_.broken.a5,.bool n_.broken.a6,.bool n_.broken.a7]
abbrev My (b c:Int):TM:=[tP 3 0 0,tI 1 b,tI 2 c]
set_option maxRecDepth 100000 in
set_option maxHeartbeats 4000000 in
theorem Jd (n:Nat) {h:Ac} {w:World} (hh:Db h w) (n_:Cd) {cs_n_:List Value} (hx_n_:rep h n_ cs_n_) (b:Int) (c:Int) {r:Bool} (H:D3 n n_ b c=some r) :
  Calls Tryz.prog 62 #[.agg cs_n_.toArray,.int .i64 b,.int .i64 c] w (Dd (fun h v=>v=.bool r) h w):=by
 obtain⟨_,_,rfl,⟨_,_,rfl,⟨m,q,rfl,bu⟩,⟨_,_,rfl,⟨p,s,rfl,bv⟩,rfl⟩⟩,⟨_,_,rfl,⟨a,e,rfl,af⟩,⟨_,_,rfl,⟨_,_,rfl,rfl,⟨_,_,rfl,rfl,⟨_,_,rfl,rfl,⟨_,_,rfl,rfl,⟨_,_,rfl,rfl,⟨_,_,rfl,rfl,⟨_,_,rfl,rfl,rfl⟩⟩⟩⟩⟩⟩⟩,⟨_,_,rfl,rfl,⟨_,_,rfl,rfl,⟨_,_,rfl,rfl,⟨_,_,rfl,rfl,⟨_,_,rfl,rfl,⟨_,_,rfl,rfl,⟨_,_,rfl,rfl,rfl⟩⟩⟩⟩⟩⟩⟩⟩⟩⟩:=hx_n_
 refine enter 29 [.agg (Sz m n_ q p s a e),.c (.int .i64 b),.c (.int .i64 c)] Tryz.func62 rfl rfl rfl rfl fun t hk=>?_
 have hm:=Aj.begin h w hh
 unfold D3 at H
 refine XT (Aa (wl fun K hK=>?_))
 refine wb (.agg (Sz m n_ q p s a e)) hk hm fun d bl b4 (al:Kn 29 [(d,0)] [tP 3 0 0,tA 0 (Sz m n_ q p s a e),tI 1 b,tI 2 c] bl) u=>hK _ _ ?_
 refine Rk 1 1 (My b c) al u fun bw am=>?_
 refine wf (XT (Ax (by kernel_rfl) ?_))
 replace u:=u.drew
 refine A3 [] [(d,0)] [⟨Sz m n_ q p s a e,some 87⟩] ?_
 refine Dr [0,1,2] [2,1,0] ((tI 9 b)::(tS 8 a n_.lane.length e)::(My b c)) am u fun bx an=>?_
 obtain⟨x10,ex10,H⟩:=Ap H
 obtain⟨az,bb,bh⟩:=Ak ex10
 obtain⟨f,i,bs,ah,bf,aj⟩:=af.get (by decide) bh
 obtain rfl:=bf
 have ad:=u.addPlc (b:=f) (o:=i+(b:Int).toNat*1) (cs:=[.int .i64 x10]) (fun j c hj=>aj j _ (Am hj)) rfl (by kernel_rfl) (by kernel_rfl)
 refine AA 3 (b) [.int .i64 x10] (fun _ _ _ _ _ h=>h) rfl rfl (rfl) rfl (by decide) (by kernel_rfl) (by kernel_rfl) an u.plOk (by rfl) (by rfl) (by rfl) ah (by rfl) az bb (by kernel_rfl) fun bm (ao:Kn 29 [(d,0),(f,i+(b:Int).toNat*1)] ((tP 10 1 0)::(tI 9 b)::(tS 8 a n_.lane.length e)::(My b c)) bm)=>?_
 refine Dr [4,5,6,7] (dn 7) ((tI 14 c)::(tS 13 a n_.lane.length e)::(tI 11 x10)::(My b c)) ao ad fun bz ap=>?_
 obtain⟨x15,ex15,H⟩:=Ap H
 obtain⟨a8,bc,bi⟩:=Ak ex15
 obtain⟨k,l,bt,ai,bg,ak⟩:=af.get (by decide) bi
 obtain rfl:=bg
 have g:=ad.addPlc (b:=k) (o:=l+(c:Int).toNat*1) (cs:=[.int .i64 x15]) (fun j c hj=>ak j _ (Am hj)) rfl (by kernel_rfl) (by kernel_rfl)
 refine AA 8 (c) [.int .i64 x15] (fun _ _ _ _ _ h=>h) rfl rfl (rfl) rfl (by decide) (by kernel_rfl) (by kernel_rfl) ap ad.plOk (by rfl) (by rfl) (by rfl) ai (by rfl) a8 bc (by kernel_rfl) fun bn (aq:Kn 29 (NV d f i b k l c) ((tP 15 2 0)::(tI 14 c)::(tS 13 a n_.lane.length e)::(tI 11 x10)::(My b c)) bn)=>?_
 refine Dr [9,10,11] (dn 11) ((tB 18 (x10 == x15))::(My b c)) aq g fun ag ae=>?_
 rcases Bool.eq_false_or_eq_true ((x10 == x15)) with x | x
 ·
  rw [x,XW] at H
  have ar:Kn 29 (NV d f i b k l c) ((tB 18 true)::(My b c)) ag:=(ae.setB 18 true (by rfl) x).kp
  refine Dr [12,13] (dn 13) [tP 20 0 4,tI 19 b,tB 18 true,tP 3 0 0,tI 2 c] ar g fun b0 z=>?_
  obtain⟨x21,ex21,H⟩:=Ap H
  obtain⟨a9,bd⟩:=Bz ex21
  refine II 14 (.one (.c (.ptr 0 (4+(b:Int).toNat*1)))) (fun _ _ _ _ _ h=>h) rfl (by kernel_rfl) (by kernel_rfl) (Al z (by kernel_rfl)) rfl g.plOk (fun _ h=>h) (fun w=>AN (E:=3) z rfl (by kernel_rfl) (by kernel_rfl) (by rfl) (by rfl) a9 bd) (z.put (by decide) _) fun bo (aa:Kn 29 (NV d f i b k l c) [tP 21 0 (4+(b:Int).toNat*1),tP 20 0 4,tI 19 b,tB 18 true,tP 3 0 0,tI 2 c] bo)=>?_
  obtain⟨x22,ex22,H⟩:=Ap H
  obtain⟨_,_,bj⟩:=Ak ex22
  refine LD 15 (.one (.c (.int .i64 x22))) (fun _ _ _ _ _ h=>h) rfl (by kernel_rfl) (by kernel_rfl) (by kernel_rfl) (Al aa (by kernel_rfl)) rfl g.plOk (fun w hw=>BC aa hw rfl (by rfl) rfl (by kernel_rfl) (DO (fun(y:Int)=>([.int .i64 y]:List SC)) 1 (fun _=>rfl) [.slice m n_.yard.room.length q,.slice p n_.yard.buses.length s,.int .i64 n_.yard.broken,.slice a n_.lane.length e] (UJ n_) n_.tm.toL _ _ bj rfl rfl)) (aa.put (by decide) _) fun bp (au:Kn 29 (NV d f i b k l c) [tI 22 x22,tP 21 0 (4+(b:Int).toNat*1),tP 20 0 4,tI 19 b,tB 18 true,tP 3 0 0,tI 2 c] bp)=>?_
  refine Dr [16,17] (dn 17) [tP 24 0 4,tI 23 c,tI 22 x22,tB 18 true] au g fun b1 ab=>?_
  obtain⟨x25,ex25,H⟩:=Ap H
  obtain⟨ba,be⟩:=Bz ex25
  refine II 18 (.one (.c (.ptr 0 (4+(c:Int).toNat*1)))) (fun _ _ _ _ _ h=>h) rfl (by kernel_rfl) (by kernel_rfl) (Al ab (by kernel_rfl)) rfl g.plOk (fun _ h=>h) (fun w=>AN (E:=3) ab rfl (by kernel_rfl) (by kernel_rfl) (by rfl) (by rfl) ba be) (ab.put (by decide) _) fun bq (ac:Kn 29 (NV d f i b k l c) [tP 25 0 (4+(c:Int).toNat*1),tP 24 0 4,tI 23 c,tI 22 x22,tB 18 true] bq)=>?_
  obtain⟨x26,ex26,H⟩:=Ap H
  obtain⟨_,_,bk⟩:=Ak ex26
  refine LD 19 (.one (.c (.int .i64 x26))) (fun _ _ _ _ _ h=>h) rfl (by kernel_rfl) (by kernel_rfl) (by kernel_rfl) (Al ac (by kernel_rfl)) rfl g.plOk (fun w hw=>BC ac hw rfl (by rfl) rfl (by kernel_rfl) (DO (fun(y:Int)=>([.int .i64 y]:List SC)) 1 (fun _=>rfl) [.slice m n_.yard.room.length q,.slice p n_.yard.buses.length s,.int .i64 n_.yard.broken,.slice a n_.lane.length e] (UJ n_) n_.tm.toL _ _ bk rfl rfl)) (ac.put (by decide) _) fun br (av:Kn 29 (NV d f i b k l c) [tI 26 x26,tP 25 0 (4+(c:Int).toNat*1),tP 24 0 4,tI 23 c,tI 22 x22,tB 18 true] br)=>?_
  refine Dr [20,21,22] (dn 22) [tB 6 (decide (x22<x26))] av g fun b2 aw=>?_
  refine AE (by kernel_rfl) (wp_ret ?_)
  obtain rfl:=XZ H
  exact rt (.one (.c (.bool (decide (x22<x26))))) aw g rfl
 ·
  rw [x,XV] at H
  have ax:Kn 29 (NV d f i b k l c) ((tB 18 false)::(My b c)) ag:=(ae.setB 18 false (by rfl) x).kp
  refine Dr [12,13,14,15,16,17,18,19,20,21,22] (dn 22) [tB 6 false] ax g fun b3 ay=>?_
  refine AE (by kernel_rfl) (wp_ret ?_)
  obtain rfl:=XZ H
  exact rt (.one (.c (.bool false))) ay g rfl
abbrev UK (q0:Cd):List SC:=[.bool q0.broken.a0,.bool q0.broken.a1,.bool q0.broken.a2,.bool q0.broken.a3,.bool q0.broken.a4,.bool q0.broken.a5,.bool q0.broken.a6,.bool q0.broken.a7]
abbrev UL (a:Option Addr) (q0:Cd) (g:Nat) (b:Option Addr) (i:Nat) (f:Option Addr) (k:Nat):List SC:=[.slice a q0.yard.room.length g,.slice b q0.yard.buses.length i,.int .i64 q0.yard.broken,.slice f q0.lane.length k,.int .i64 q0.tm.a0,.int .i64 q0.tm.a1,.int .i64 q0.tm.a2,.int .i64 q0.tm.a3,.int .i64 q0.tm.a4,.int .i64 q0.tm.a5,.int .i64 q0.tm.a6,.int .i64 q0.tm.a7,.bool q0.broken.a0,.bool q0.broken.a1,.bool q0.broken.a2,.bool q0.broken.a3,.bool q0.broken.a4,.bool q0.broken.a5,.bool q0.broken.a6,.bool q0.broken.a7]
set_option maxRecDepth 100000 in
set_option maxHeartbeats 4000000 in
theorem Hm (n:Nat) {h:Ac} {w:World} (hh:Db h w) (c:Int) (d:Int) (q0:Cd) {b_q0:Nat} (hb_q0:BW h b_q0 q0) {r:Int} (H:BB n c d q0=some r) :
  Calls Tryz.prog 63 #[.int .i64 c,.int .i64 d,.pointer (some ⟨b_q0,0,none⟩)] w (Dd (fun h v=>v=.int .i64 r) h w):=by
 obtain⟨_,hx_q0,hc_q0⟩:=id hb_q0
 obtain⟨_,_,rfl,⟨_,_,rfl,⟨a,g,rfl,ak⟩,⟨_,_,rfl,⟨b,i,rfl,al⟩,rfl⟩⟩,⟨_,_,rfl,⟨f,k,rfl,am⟩,⟨_,_,rfl,⟨_,_,rfl,rfl,⟨_,_,rfl,rfl,⟨_,_,rfl,rfl,⟨_,_,rfl,rfl,⟨_,_,rfl,rfl,⟨_,_,rfl,rfl,⟨_,_,rfl,rfl,rfl⟩⟩⟩⟩⟩⟩⟩,⟨_,_,rfl,rfl,⟨_,_,rfl,rfl,⟨_,_,rfl,rfl,⟨_,_,rfl,rfl,⟨_,_,rfl,rfl,⟨_,_,rfl,rfl,⟨_,_,rfl,rfl,rfl⟩⟩⟩⟩⟩⟩⟩⟩⟩⟩:=hx_q0
 refine E7 (e:=[(b_q0,0)]) 15 [.c (.int .i64 c),.c (.int .i64 d),.c (.ptr 0 0)] Tryz.func63 rfl rfl rfl rfl fun t hk=>?_
 have hm:=Aj.begin h w hh
 replace hm:=hm.addPlc (o:=0) (cs:=[.slice a q0.yard.room.length g,.slice b q0.yard.buses.length i,.int .i64 q0.yard.broken,.slice f q0.lane.length k,.int .i64 q0.tm.a0,.int .i64 q0.tm.a1,.int .i64 q0.tm.a2,.int .i64 q0.tm.a3,.int .i64 q0.tm.a4,.int .i64 q0.tm.a5,.int .i64 q0.tm.a6,.int .i64 q0.tm.a7,.bool q0.broken.a0,.bool q0.broken.a1,.bool q0.broken.a2,.bool q0.broken.a3,.bool q0.broken.a4,.bool q0.broken.a5,.bool q0.broken.a6,.bool q0.broken.a7]) (fun j c hj=>by rw [Nat.zero_add]; exact hc_q0 j _ (Am hj)) rfl (by kernel_rfl) (by kernel_rfl)
 replace hm:Aj ⟨w,h,A9⟩ h [(b_q0,0)] [⟨UL a q0 g b i f k,none⟩] [] w:=hm
 unfold BB at H
 refine XT (Aa (Rk 0 1 [tI 0 c,tI 1 d,tP 2 0 0] hk hm fun an s=>?_))
 refine wf (XT (Ax (by kernel_rfl) ?_))
 replace hm:=hm.drew
 refine A3 [] [(b_q0,0)] [⟨UL a q0 g b i f k,none⟩] ?_
 refine Dr [0,1] [1,0] [tP 7 0 4,tI 6 c,tI 1 d,tP 2 0 0] s hm fun ao l=>?_
 obtain⟨x8,ex8,H⟩:=Ap H
 obtain⟨aa,ac⟩:=Bz ex8
 refine II 2 (.one (.c (.ptr 0 (4+(c:Int).toNat*1)))) (fun _ _ _ _ _ h=>h) rfl (by kernel_rfl) (by kernel_rfl) (rfl) rfl hm.plOk (fun _ h=>h) (fun w=>AN (E:=3) l rfl (by kernel_rfl) (by kernel_rfl) (by rfl) (by rfl) aa ac) (l.put (by decide) _) fun ag (m:Kn 15 [(b_q0,0)] [tP 8 0 (4+(c:Int).toNat*1),tP 7 0 4,tI 6 c,tI 1 d,tP 2 0 0] ag)=>?_
 obtain⟨x9,ex9,H⟩:=Ap H
 obtain⟨_,_,ae⟩:=Ak ex9
 refine LD 3 (.one (.c (.int .i64 x9))) (fun _ _ _ _ _ h=>h) rfl (by kernel_rfl) (by kernel_rfl) (by kernel_rfl) (rfl) rfl hm.plOk (fun w hw=>BC m hw rfl (by rfl) rfl (by kernel_rfl) (DO (fun(y:Int)=>([.int .i64 y]:List SC)) 1 (fun _=>rfl) [.slice a q0.yard.room.length g,.slice b q0.yard.buses.length i,.int .i64 q0.yard.broken,.slice f q0.lane.length k] (UK q0) q0.tm.toL _ _ ae rfl rfl)) (m.put (by decide) _) fun ah (u:Kn 15 [(b_q0,0)] [tI 9 x9,tP 8 0 (4+(c:Int).toNat*1),tP 7 0 4,tI 6 c,tI 1 d,tP 2 0 0] ah)=>?_
 refine Dr [4,5] (dn 5) [tP 11 0 4,tI 10 d,tI 9 x9] u hm fun ap p=>?_
 obtain⟨x12,ex12,H⟩:=Ap H
 obtain⟨ab,ad⟩:=Bz ex12
 refine II 6 (.one (.c (.ptr 0 (4+(d:Int).toNat*1)))) (fun _ _ _ _ _ h=>h) rfl (by kernel_rfl) (by kernel_rfl) (rfl) rfl hm.plOk (fun _ h=>h) (fun w=>AN (E:=3) p rfl (by kernel_rfl) (by kernel_rfl) (by rfl) (by rfl) ab ad) (p.put (by decide) _) fun ai (q:Kn 15 [(b_q0,0)] [tP 12 0 (4+(d:Int).toNat*1),tP 11 0 4,tI 10 d,tI 9 x9] ai)=>?_
 obtain⟨x13,ex13,H⟩:=Ap H
 obtain⟨_,_,af⟩:=Ak ex13
 refine LD 7 (.one (.c (.int .i64 x13))) (fun _ _ _ _ _ h=>h) rfl (by kernel_rfl) (by kernel_rfl) (by kernel_rfl) (rfl) rfl hm.plOk (fun w hw=>BC q hw rfl (by rfl) rfl (by kernel_rfl) (DO (fun(y:Int)=>([.int .i64 y]:List SC)) 1 (fun _=>rfl) [.slice a q0.yard.room.length g,.slice b q0.yard.buses.length i,.int .i64 q0.yard.broken,.slice f q0.lane.length k] (UK q0) q0.tm.toL _ _ af rfl rfl)) (q.put (by decide) _) fun aj (x:Kn 15 [(b_q0,0)] [tI 13 x13,tP 12 0 (4+(d:Int).toNat*1),tP 11 0 4,tI 10 d,tI 9 x9] aj)=>?_
 refine Dr [8,9] (dn 9) [tI 5 (IntKind.i64.wrap (x9-x13))] x hm fun aq z=>?_
 refine AE (by kernel_rfl) (wp_ret ?_)
 obtain rfl:=XZ H
 exact rt (.one (.c (.int .i64 (IntKind.i64.wrap (x9-x13))))) z hm rfl
abbrev BF (b o p q:Nat):AG:=[(b,0),(o,0),(p,0),(q,0)]
abbrev TW:List SC:=[.bool false,.bool false,.bool false,.bool false,.bool false,.bool false,.bool false,.bool false]
abbrev Vu (s:((List (List Int))×Ar)):List SC:=[.bool s.2.a0,.bool s.2.a1,.bool s.2.a2,.bool s.2.a3,.bool s.2.a4,.bool s.2.a5,.bool s.2.a6,.bool s.2.a7]
abbrev UM (x_v12:Ar):List SC:=[.bool x_v12.a0,.bool x_v12.a1,.bool x_v12.a2,.bool x_v12.a3,.bool x_v12.a4,.bool x_v12.a5,.bool x_v12.a6,.bool x_v12.a7]
abbrev UN (ah:Ar):List SC:=[.bool ah.a0,.bool ah.a1,.bool ah.a2,.bool ah.a3,.bool ah.a4,.bool ah.a5,.bool ah.a6,.bool ah.a7]
abbrev UO (u:((List Int)×Ar)):List SC:=[.bool u.2.a0,.bool u.2.a1,.bool u.2.a2,.bool u.2.a3,.bool u.2.a4,.bool u.2.a5,.bool u.2.a6,.bool u.2.a7]
abbrev TX (n_:Cd):List SC:=[.bool n_.broken.a0,.bool n_.broken.a1,.bool n_.broken.a2,.bool n_.broken.a3,.bool n_.broken.a4,.bool n_.broken.a5,.bool n_.broken.a6,.bool n_.broken.a7]
abbrev EJ (d:Option Addr) (n_:Cd) (g:Nat) (f:Option Addr) (j:Nat) (l:Option Addr) (m:Nat):List SC:=[.slice d n_.yard.room.length g,.slice f n_.yard.buses.length j,.int .i64 n_.yard.broken,.slice l n_.lane.length m,.int .i64 n_.tm.a0,.int .i64 n_.tm.a1,.int .i64 n_.tm.a2,.int .i64 n_.tm.a3,.int .i64 n_.tm.a4,.int .i64 n_.tm.a5,.int .i64 n_.tm.a6,.int .i64 n_.tm.a7,.bool n_.broken.a0,.bool n_.broken.a1,.bool n_.broken.a2,.bool n_.broken.a3,.bool n_.broken.a4,.bool n_.broken.a5,.bool n_.broken.a6,.bool n_.broken.a7]
abbrev Je (d:Option Addr) (n_:Cd) (g:Nat) (f:Option Addr) (j:Nat) (l:Option Addr) (m:Nat):List SC:=[.func (.func 62) #[.agg #[.slice d n_.yard.room.length g,.slice f n_.yard.buses.length j,.int .i64 n_.yard.broken,.slice l n_.lane.length m,.int .i64 n_.tm.a0,.int .i64 n_.tm.a1,.int .i64 n_.tm.a2,.int .i64 n_.tm.a3,.int .i64 n_.tm.a4,.int .i64 n_.tm.a5,.int .i64 n_.tm.a6,.int .i64 n_.tm.a7,.bool n_.broken.a0,.bool n_.broken.a1,.bool n_.broken.a2,.bool n_.broken.a3,.bool n_.broken.a4,.bool n_.broken.a5,.bool n_.broken.a6,.bool n_.broken.a7]] #[]]
abbrev PO (d:Option Addr) (n_:Cd) (g:Nat) (f:Option Addr) (j:Nat) (l:Option Addr) (m:Nat) (z:Option Addr) (s:((List (List Int))×Ar)) (ab:Nat):List Co:=[⟨EJ d n_ g f j l m,none⟩,⟨[.slice z s.1.length ab],some 40⟩,⟨Vu s,some 57⟩,⟨Je d n_ g f j l m,some 121⟩]
abbrev Fd (x_v11:Int) (n_:Cd) (ac:Option Addr) (x_v10:List Int) (ad:Nat) (x15:Int):TM:=[tI 20 x_v11,tI 19 ((n_.yard.buses.length:Nat):Int),tS 6 ac x_v10.length ad,tI 5 x15,tP 4 3 0,tP 3 2 0,tP 2 1 0,tP 1 0 0]
abbrev Dq:TM:=[tP 3 2 0,tP 2 1 0,tP 1 0 0]
abbrev Ks (x_v11:Int) (n_:Cd) (x15:Int):TM:=(tI 20 x_v11)::(tI 19 ((n_.yard.buses.length:Nat):Int))::(tI 5 x15)::(tP 4 3 0)::Dq
set_option maxRecDepth 100000 in
set_option maxHeartbeats 4000000 in
theorem Im (n:Nat) {h:Ac} {w:World} (hh:Db h w) (n_:Cd) {cs_n_:List Value} (hx_n_:rep h n_ cs_n_) {r:List (List Int)} (H:Dg n n_=some r) :
  Calls Tryz.prog 44 #[.agg cs_n_.toArray] w (Dd (fun h v=>∃ a c,v=.slice a r.length c∧At h a c r) h w):=by
 obtain⟨_,_,rfl,⟨_,_,rfl,⟨d,g,rfl,ap⟩,⟨_,_,rfl,⟨f,j,rfl,aq⟩,rfl⟩⟩,⟨_,_,rfl,⟨l,m,rfl,av⟩,⟨_,_,rfl,⟨_,_,rfl,rfl,⟨_,_,rfl,rfl,⟨_,_,rfl,rfl,⟨_,_,rfl,rfl,⟨_,_,rfl,rfl,⟨_,_,rfl,rfl,⟨_,_,rfl,rfl,rfl⟩⟩⟩⟩⟩⟩⟩,⟨_,_,rfl,rfl,⟨_,_,rfl,rfl,⟨_,_,rfl,rfl,⟨_,_,rfl,rfl,⟨_,_,rfl,rfl,⟨_,_,rfl,rfl,⟨_,_,rfl,rfl,rfl⟩⟩⟩⟩⟩⟩⟩⟩⟩⟩:=hx_n_
 refine Sl (e:=[]) 50 [.agg (EJ d n_ g f j l m)] Tryz.func44 rfl rfl rfl rfl fun t hk=>?_
 have hm:=Aj.begin h w hh
 unfold Dg at H
 refine XT (Aa (wl fun K hK=>?_))
 refine wb (.agg (EJ d n_ g f j l m)) hk hm fun b gv im (el:Kn 50 [(b,0)] [tP 1 0 0,tA 0 (EJ d n_ g f j l m)] gv) f3=>hK _ _ ?_
 refine wl fun K hK=>?_
 refine wa [.slice none 0 0] el f3 fun o dp ir (ex:Kn 50 [(b,0),(o,0)] [tP 2 1 0,tP 1 0 0,tA 0 (EJ d n_ g f j l m)] dp) f4=>hK _ _ ?_
 have e4:Kn 50 [(b,0),(o,0)] [tP 2 1 0,tP 1 0 0] dp:=ex.kp
 refine wf (XT (Aa (wl fun K hK=>?_)))
 refine wa TW e4 f4 fun p g2 ix (fc:Kn 50 [(b,0),(o,0),(p,0)] Dq g2) df=>hK _ _ ?_
 refine wf (XT (Aa (Rk 0 1 ((tA 8 (EJ d n_ g f j l m))::Dq) fc df fun ib fi=>?_)))
 refine F8 1 #[.agg #[.slice d n_.yard.room.length g,.slice f n_.yard.buses.length j,.int .i64 n_.yard.broken,.slice l n_.lane.length m,.int .i64 n_.tm.a0,.int .i64 n_.tm.a1,.int .i64 n_.tm.a2,.int .i64 n_.tm.a3,.int .i64 n_.tm.a4,.int .i64 n_.tm.a5,.int .i64 n_.tm.a6,.int .i64 n_.tm.a7,.bool n_.broken.a0,.bool n_.broken.a1,.bool n_.broken.a2,.bool n_.broken.a3,.bool n_.broken.a4,.bool n_.broken.a5,.bool n_.broken.a6,.bool n_.broken.a7]] #[] fi rfl rfl (rfl) rfl (by decide) (by rfl) (by rfl) (by rfl) (by rfl) fun g4 (fj:Kn 50 [(b,0),(o,0),(p,0)] ((9,.one (.c (.func (.func 62) #[.agg #[.slice d n_.yard.room.length g,.slice f n_.yard.buses.length j,.int .i64 n_.yard.broken,.slice l n_.lane.length m,.int .i64 n_.tm.a0,.int .i64 n_.tm.a1,.int .i64 n_.tm.a2,.int .i64 n_.tm.a3,.int .i64 n_.tm.a4,.int .i64 n_.tm.a5,.int .i64 n_.tm.a6,.int .i64 n_.tm.a7,.bool n_.broken.a0,.bool n_.broken.a1,.bool n_.broken.a2,.bool n_.broken.a3,.bool n_.broken.a4,.bool n_.broken.a5,.bool n_.broken.a6,.bool n_.broken.a7]] #[])))::(tA 8 (EJ d n_ g f j l m))::Dq) g4)=>?_
 refine wl fun K hK=>?_
 refine wa [.nilfunc] fj df fun q dt i1 (fn:Kn 50 (BF b o p q) ((tP 4 3 0)::(9,.one (.c (.func (.func 62) #[.agg #[.slice d n_.yard.room.length g,.slice f n_.yard.buses.length j,.int .i64 n_.yard.broken,.slice l n_.lane.length m,.int .i64 n_.tm.a0,.int .i64 n_.tm.a1,.int .i64 n_.tm.a2,.int .i64 n_.tm.a3,.int .i64 n_.tm.a4,.int .i64 n_.tm.a5,.int .i64 n_.tm.a6,.int .i64 n_.tm.a7,.bool n_.broken.a0,.bool n_.broken.a1,.bool n_.broken.a2,.bool n_.broken.a3,.bool n_.broken.a4,.bool n_.broken.a5,.bool n_.broken.a6,.bool n_.broken.a7]] #[])))::(tA 8 (EJ d n_ g f j l m))::Dq) dt) f8=>hK _ _ ?_
 refine wl fun K hK=>?_
 refine Eb 3 0 (.c (.func (.func 62) #[.agg #[.slice d n_.yard.room.length g,.slice f n_.yard.buses.length j,.int .i64 n_.yard.broken,.slice l n_.lane.length m,.int .i64 n_.tm.a0,.int .i64 n_.tm.a1,.int .i64 n_.tm.a2,.int .i64 n_.tm.a3,.int .i64 n_.tm.a4,.int .i64 n_.tm.a5,.int .i64 n_.tm.a6,.int .i64 n_.tm.a7,.bool n_.broken.a0,.bool n_.broken.a1,.bool n_.broken.a2,.bool n_.broken.a3,.bool n_.broken.a4,.bool n_.broken.a5,.bool n_.broken.a6,.bool n_.broken.a7]] #[])) (Je d n_ g f j l m) fn f8 fun i2 fo ci=>hK _ _ ?_
 have fp:Kn 50 (BF b o p q) ((tP 4 3 0)::Dq) dt:=fo.kp
 refine wf (XT (XT (Aa (Rk 0 4 ((tA 13 (TX n_))::(tA 11 [.slice d n_.yard.room.length g,.slice f n_.yard.buses.length j,.int .i64 n_.yard.broken])::(tP 4 3 0)::Dq) fp ci fun ic fq=>?_))))
 obtain⟨x14,ex14,H⟩:=Ap H
 refine wl fun K hK=>?_
 refine wc [.agg [.slice d n_.yard.room.length g,.slice f n_.yard.buses.length j,.int .i64 n_.yard.broken],.agg (TX n_)] fq ci (Gu n ci.has n_.yard ((Ab (Ae ap) (Ab (Ae aq) Ad)):rep h n_.yard _) n_.broken ((Ab Ah (Ab Ah (Ab Ah (Ab Ah (Ab Ah (Ab Ah (Ab Ah Ah))))))):rep h n_.broken _) ex14) fun ik ho ay d6 cb f9=>?_
 obtain⟨bp,rfl,bb⟩:=d6
 refine⟨.one (.c (.func (.func 100) #[] #[.pointer (some ⟨bp,0,none⟩)])),rfl,fun du (fr:Kn 50 (BF b o p q) ((14,.one (.c (.func (.func 100) #[] #[.pointer (some ⟨bp,0,none⟩)])))::(tA 13 (TX n_))::(tA 11 [.slice d n_.yard.room.length g,.slice f n_.yard.buses.length j,.int .i64 n_.yard.broken])::(tP 4 3 0)::Dq) du)=>hK _ _ ?_⟩
 have b9:Kn 50 (BF b o p q) ((14,.one (.c (.func (.func 100) #[] #[.pointer (some ⟨bp,0,none⟩)])))::(tP 4 3 0)::Dq) du:=fr.kp
 refine wf (wp_block ?_)
 obtain⟨ba,bw,c0,cj⟩:=f9.settlePlc (i:=0) rfl
 replace ap:=ap.mono (XU cb bw)
 replace aq:=aq.mono (XU cb bw)
 replace av:=av.mono (XU cb bw)
 replace bb:=bb.mono bw
 replace cj:Aj ⟨w,h,A9⟩ ba (BF b o p q) [⟨EJ d n_ g f j l m,none⟩,⟨[.slice none 0 0],some 40⟩,⟨TW,some 57⟩,⟨Je d n_ g f j l m,some 121⟩] [] ay:=cj
 have bc:BW ba b (n_:Cd):=BW.of (e:=(BF b o p q)) (cs:=(EJ d n_ g f j l m)) ((Ab (Ab (Ae ap) (Ab (Ae aq) Ad)) (Ab (Ae av) (Ab (Ab Ad (Ab Ad (Ab Ad (Ab Ad (Ab Ad (Ab Ad (Ab Ad Ad))))))) (Ab Ah (Ab Ah (Ab Ah (Ab Ah (Ab Ah (Ab Ah (Ab Ah Ah)))))))))):rep ba (n_:Cd) _) rfl c0
 have br:Ay ba b [.slice d n_.yard.room.length g,.slice f n_.yard.buses.length j,.int .i64 n_.yard.broken,.slice l n_.lane.length m,.int .i64 n_.tm.a0,.int .i64 n_.tm.a1,.int .i64 n_.tm.a2,.int .i64 n_.tm.a3,.int .i64 n_.tm.a4,.int .i64 n_.tm.a5,.int .i64 n_.tm.a6,.int .i64 n_.tm.a7,.bool n_.broken.a0,.bool n_.broken.a1,.bool n_.broken.a2,.bool n_.broken.a3,.bool n_.broken.a4,.bool n_.broken.a5,.bool n_.broken.a6,.bool n_.broken.a7]:=Ay.of (e:=[(b,0),(o,0),(p,0),(q,0)]) (cs:=[.slice d n_.yard.room.length g,.slice f n_.yard.buses.length j,.int .i64 n_.yard.broken,.slice l n_.lane.length m,.int .i64 n_.tm.a0,.int .i64 n_.tm.a1,.int .i64 n_.tm.a2,.int .i64 n_.tm.a3,.int .i64 n_.tm.a4,.int .i64 n_.tm.a5,.int .i64 n_.tm.a6,.int .i64 n_.tm.a7,.bool n_.broken.a0,.bool n_.broken.a1,.bool n_.broken.a2,.bool n_.broken.a3,.bool n_.broken.a4,.bool n_.broken.a5,.bool n_.broken.a6,.bool n_.broken.a7]) rfl c0
 have ga:Aj ⟨w,h,A9⟩ ba (BF b o p q) [⟨EJ d n_ g f j l m,none⟩,⟨[.slice none 0 0],some 40⟩,⟨TW,some 57⟩,⟨Je d n_ g f j l m,some 121⟩] [⟨none,0,0,22,1,[],0⟩] ay:=cj.nilRow 22 1
 have ed:Af ba ([]:List (List Int)) []:=Af.nil
 obtain⟨ae,dz,H⟩:=Ap H
 refine OY (.func (.func 100) #[] #[.pointer (some ⟨bp,0,none⟩)]) b9 (by rfl) rfl (fun _ _=>by kernel_rfl) fun aw dl=>?_
 obtain⟨dx,f2,hf,gb⟩:=Aj.loopBegin ga (FG.nil _) ⟨rfl,rfl⟩ aw
 have d4:Vv (fun(s:(List (List Int))×Ar)(h':Ac)(w':World)=>∃ (Fj:Fr)(z:Option Addr)(ab:Nat)(ag:List Value),IU w h Fj ((ay).heap.size+1) aw ((ay).heap.size::([]:List Nat))∧Aj Fj h' (BF b o p q) (PO d n_ g f j l m z s ab) [⟨z,s.1.length,ab,22,1,ag,0⟩] w'∧Af h' s.1 ag∧Ac.le ba h'):=⟨fun s h' w' hj=>by obtain⟨_,z,ab,ag,_,hm,au,_⟩:=hj; exact hm.has,fun s h' h'' w' w'' hj hb hle hn=>by obtain⟨Fj,z,ab,ag,hlf,hm,au,hle0⟩:=hj; exact⟨Fj,z,ab,ag,hlf,hm.call hb hle hn,au.mono hle,XU hle0 hle⟩⟩
 refine⟨_,DF n d4 (fun(s:(List (List Int))×Ar)(x15:Int)=>((((Bp n n_ x15 ([]:List Int) 0 s.2).bind fun u =>
    ((AO n u.1 (fun(y0:Int)(y1:Int)=>BB n y0 y1 n_)).bind fun x42 =>
    ((Lw 8 x15).bind fun x44 =>
    ((Ar.setI u.2 x15 true).bind fun ah =>
    ((Ij s.1 ([x42]:List (List Int))).bind fun x48 =>
    some (x48,ah)))))):Option ((List (List Int))×Ar)).bind fun s1=>some (s1,true))) ?_ (([]:List (List Int)),(Ar.mk false false false false false false false false)) ⟨dx,none,0,[],f2,gb,ed,Ac.le_refl _⟩ x14 bb dz,?_⟩
 ·
  intro s x15 s' hc bg ct ei  b0
  obtain⟨dy,z,ab,ag,cc,bh,au,bd⟩:=ei
  obtain⟨hv,ai,b0⟩:=Ap b0
  cases b0
  replace ap:=ap.mono bd
  replace aq:=aq.mono bd
  replace av:=av.mono bd
  replace bb:=bb.mono bd
  replace bc:=bc.mono bd
  replace br:=br.mono bd
  replace bh:Aj dy bg (BF b o p q) (PO d n_ g f j l m z s ab) [⟨z,s.1.length,ab,22,1,ag,0⟩] ct:=bh
  refine So dl (bh.ext cc.loop) ?_
  have fs:Kn 50 (BF b o p q) ((tI 15 x15)::(tP 4 3 0)::Dq) _:=(b9.kp.put (k:=15) (by decide) (.one (.c (.int .i64 x15))))
  refine AH (by kernel_rfl) (Rk 0 1 ((tI 5 x15)::(tP 4 3 0)::Dq) fs bh fun ie ft=>?_)
  refine wf ?_
  refine⟨bh.ext cc.loop,?_⟩
  obtain⟨ar,c9,hg,bm⟩:=Aj.loopStep bh cc { aw with state:=.busy }
  replace bm:Aj ar bg (BF b o p q) (PO d n_ g f j l m z s ab) [⟨z,s.1.length,ab,22,1,ag,0⟩] (World.putObj ct ((ay).heap.size+1) (.loop { aw with state:=.busy })):=bm
  refine Lf (Fb (AH (by kernel_rfl) (Rk 0 1 ((tS 6 none 0 0)::(tI 5 x15)::(tP 4 3 0)::Dq) ft bm fun ig fu=>?_)))
  refine wf (Fb (Fb (AH (by kernel_rfl) (Rk 0 5 ((tI 20 0)::(tI 19 ((n_.yard.buses.length:Nat):Int))::(tS 6 none 0 0)::(tI 5 x15)::(tP 4 3 0)::Dq) fu bm fun ih fv=>?_))))
  refine wf ?_
  have gc:Aj ar bg (BF b o p q) (PO d n_ g f j l m z s ab) [⟨z,s.1.length,ab,22,1,ag,0⟩,⟨none,0,0,3,1,[],0⟩] (World.putObj ct ((ay).heap.size+1) (.loop { aw with state:=.busy })):=bm.nilRow 3 1
  have ee:Af bg ([]:List Int) []:=Af.nil
  obtain⟨u,cx,ai⟩:=Ap ai
  refine Sn (fun a' w'=>∃ (x:Option Addr)(aa:Nat)(cq:List Value)(cm:Array Value)(bj:Ac),a' = ⟨cm,[]⟩∧Kn 50 (BF b o p q) ((tS 6 x u.1.length aa)::(tI 5 x15)::Dq) cm∧Aj ar bj (BF b o p q) [⟨EJ d n_ g f j l m,none⟩,⟨[.slice z s.1.length ab],some 40⟩,⟨UO u,some 57⟩,⟨Je d n_ g f j l m,some 121⟩] [⟨z,s.1.length,ab,22,1,ag,0⟩,⟨x,u.1.length,aa,3,1,cq,0⟩] w'∧Ac.le bg bj∧Af bj u.1 cq) ?_ ?_
  ·
   refine Lf ?_
   refine SR (fun gu a' w'=>∃ (x_v10:List Int)(x_v11:Int)(x_v12:Ar)(ac:Option Addr)(ad:Nat)(ax:List Value)(cn:Array Value)(a9:Ac),a' = ⟨cn,[]⟩∧Kn 50 (BF b o p q) (Fd x_v11 n_ ac x_v10 ad x15) cn∧Aj ar a9 (BF b o p q) [⟨EJ d n_ g f j l m,none⟩,⟨[.slice z s.1.length ab],some 40⟩,⟨UM x_v12,some 57⟩,⟨Je d n_ g f j l m,some 121⟩] [⟨z,s.1.length,ab,22,1,ag,0⟩,⟨ac,x_v10.length,ad,3,1,ax,0⟩] w'∧Ac.le bg a9∧Af a9 x_v10 ax∧Bp gu n_ x15 x_v10 x_v11 x_v12=some u) n ?_ ?_
   ·
    exact XY ([]:List Int) ⟨0,s.2,none,0,[],_,_,rfl,fv.kp,gc,Ac.le_refl _,ee,cx⟩
   ·
    rintro bi _ il ⟨x_v10,x_v11,x_v12,ac,ad,ax,cn,a9,rfl,ej,aj,al,bl,af⟩
    clear cx
    obtain _ | bi:=bi
    ·
     rw [Bp] at af; cases af
    rw [Bp] at af
    replace ap:=ap.mono al
    replace aq:=aq.mono al
    replace av:=av.mono al
    replace bb:=bb.mono al
    replace bc:=bc.mono al
    replace br:=br.mono al
    replace au:=au.mono al
    refine Fb (AH (by kernel_rfl) (Rk 0 1 ((tB 21 (decide (x_v11<((n_.yard.buses.length:Nat):Int))))::(Fd x_v11 n_ ac x_v10 ad x15)) ej aj fun hw b7=>?_))
    refine wf (Fb (ND (decide (x_v11<((n_.yard.buses.length:Nat):Int))) b7 (by kernel_rfl) (fun b1=>?_) (fun b1=>?_)))
    ·
     rw [b1,XW] at af
     refine Sm (Fb (Lf (Fb (AH (by kernel_rfl) (Rk 0 2 ((tI 7 x_v11)::(Fd x_v11 n_ ac x_v10 ad x15)) b7 aj fun hx ek=>?_)))))
     refine wf (Fb ?_)
     obtain⟨dm,ak,af⟩:=Ap af
     refine Sn (fun a' w'=>∃ (co:Array Value)(be:Ac),a' = ⟨co,[]⟩∧Kn 50 (BF b o p q) [tI 7 x_v11,tI 20 x_v11,tI 19 ((n_.yard.buses.length:Nat):Int),tS 6 ac x_v10.length ad,tI 5 x15,tP 4 3 0,tP 3 2 0,tP 2 1 0,tP 1 0 0,tB 32 dm] co∧Aj ar be (BF b o p q) [⟨EJ d n_ g f j l m,none⟩,⟨[.slice z s.1.length ab],some 40⟩,⟨UM x_v12,some 57⟩,⟨Je d n_ g f j l m,some 121⟩] [⟨z,s.1.length,ab,22,1,ag,0⟩,⟨ac,x_v10.length,ad,3,1,ax,0⟩] w'∧Ac.le a9 be) ?_ ?_
     ·
      refine AH (by kernel_rfl) (Rk 0 1 ((tI 23 x_v11)::(tI 7 x_v11)::(Fd x_v11 n_ ac x_v10 ad x15)) ek aj fun hy c1=>?_)
      obtain⟨x24,ex24,ak⟩:=Ap ak
      obtain⟨gf,gi⟩:=Bz ex24
      refine DT 1 (.one (.c (.ptr 2 (0+(x_v11:Int).toNat*1)))) rfl (rfl) rfl (AN (E:=4) c1 rfl (by kernel_rfl) (by kernel_rfl) (by rfl) (by rfl) gf gi) (c1.put (by decide) _) fun gw (c2:Kn 50 (BF b o p q) ((tP 24 2 (0+(x_v11:Int).toNat*1))::(tI 23 x_v11)::(tI 7 x_v11)::(Fd x_v11 n_ ac x_v10 ad x15)) gw)=>?_
      obtain⟨x25,ex25,ak⟩:=Ap ak
      obtain⟨_,_,gq⟩:=Ak ex25
      refine DT 2 (.one (.c (.bool x25))) rfl (rfl) rfl (BC c2 aj.plOk rfl (by rfl) rfl (by kernel_rfl) (DO (fun(y:Bool)=>([.bool y]:List SC)) 1 (fun _=>rfl) [] [] x_v12.toL _ _ gq rfl rfl)) (c2.put (by decide) _) fun gx (em:Kn 50 (BF b o p q) ((tB 25 x25)::(tP 24 2 (0+(x_v11:Int).toNat*1))::(tI 23 x_v11)::(tI 7 x_v11)::(Fd x_v11 n_ ac x_v10 ad x15)) gx)=>?_
      refine Rk 3 2 ((tB 27 (!x25))::(tI 7 x_v11)::(Fd x_v11 n_ ac x_v10 ad x15)) em aj fun dn c3=>?_
      rcases Bool.eq_false_or_eq_true ((!x25)) with bk | bk
      ·
       rw [bk,XW] at ak
       have en:Kn 50 (BF b o p q) ((tB 27 true)::(tI 7 x_v11)::(Fd x_v11 n_ ac x_v10 ad x15)) dn:=(c3.setB 27 true (by rfl) bk).kp
       refine Rk 5 3 ((tI 30 x15)::(tI 29 x_v11)::(28,.one (.c (.func (.func 62) #[.agg #[.slice d n_.yard.room.length g,.slice f n_.yard.buses.length j,.int .i64 n_.yard.broken,.slice l n_.lane.length m,.int .i64 n_.tm.a0,.int .i64 n_.tm.a1,.int .i64 n_.tm.a2,.int .i64 n_.tm.a3,.int .i64 n_.tm.a4,.int .i64 n_.tm.a5,.int .i64 n_.tm.a6,.int .i64 n_.tm.a7,.bool n_.broken.a0,.bool n_.broken.a1,.bool n_.broken.a2,.bool n_.broken.a3,.bool n_.broken.a4,.bool n_.broken.a5,.bool n_.broken.a6,.bool n_.broken.a7]] #[])))::(tB 27 true)::(tI 7 x_v11)::(Fd x_v11 n_ ac x_v10 ad x15)) en aj fun hz c4=>?_
       obtain⟨x31,ex31,ak⟩:=Ap ak
       refine AF _ rfl (Al c4 (by kernel_rfl)) fun K hK=>?_
       refine E8 (.func (.func 62) #[.agg #[.slice d n_.yard.room.length g,.slice f n_.yard.buses.length j,.int .i64 n_.yard.broken,.slice l n_.lane.length m,.int .i64 n_.tm.a0,.int .i64 n_.tm.a1,.int .i64 n_.tm.a2,.int .i64 n_.tm.a3,.int .i64 n_.tm.a4,.int .i64 n_.tm.a5,.int .i64 n_.tm.a6,.int .i64 n_.tm.a7,.bool n_.broken.a0,.bool n_.broken.a1,.bool n_.broken.a2,.bool n_.broken.a3,.bool n_.broken.a4,.bool n_.broken.a5,.bool n_.broken.a6,.bool n_.broken.a7]] #[]) [.c (.int .i64 x_v11),.c (.int .i64 x15)] _ c4 aj rfl rfl (by decide) (by rfl) (by rfl) rfl ((show Vn a9 (.func (.func 62) #[.agg #[.slice d n_.yard.room.length g,.slice f n_.yard.buses.length j,.int .i64 n_.yard.broken,.slice l n_.lane.length m,.int .i64 n_.tm.a0,.int .i64 n_.tm.a1,.int .i64 n_.tm.a2,.int .i64 n_.tm.a3,.int .i64 n_.tm.a4,.int .i64 n_.tm.a5,.int .i64 n_.tm.a6,.int .i64 n_.tm.a7,.bool n_.broken.a0,.bool n_.broken.a1,.bool n_.broken.a2,.bool n_.broken.a3,.bool n_.broken.a4,.bool n_.broken.a5,.bool n_.broken.a6,.bool n_.broken.a7]] #[]) (fun(y0:Int)(y1:Int)=>D3 bi n_ y0 y1) from fun h2 w2 hle hh y0 y1 r H=>⟨62,_,_,rfl,fun _ _=>by kernel_rfl,Jd bi hh n_ (Rep.mono hle ((Ab (Ab (Ae ap) (Ab (Ae aq) Ad)) (Ab (Ae av) (Ab (Ab Ad (Ab Ad (Ab Ad (Ab Ad (Ab Ad (Ab Ad (Ab Ad Ad))))))) (Ab Ah (Ab Ah (Ab Ah (Ab Ah (Ab Ah (Ab Ah (Ab Ah Ah)))))))))):rep a9 n_ _)) y0 y1 H⟩) _ _ (Ac.le_refl _) aj.has x_v11 x15 _ ex31) fun ii hl io d5 fz da=>?_
       obtain rfl:=d5
       refine⟨.one (.c (.bool x31)),rfl,fun gy (eo:Kn 50 (BF b o p q) ((tB 31 x31)::(tI 30 x15)::(tI 29 x_v11)::(28,.one (.c (.func (.func 62) #[.agg #[.slice d n_.yard.room.length g,.slice f n_.yard.buses.length j,.int .i64 n_.yard.broken,.slice l n_.lane.length m,.int .i64 n_.tm.a0,.int .i64 n_.tm.a1,.int .i64 n_.tm.a2,.int .i64 n_.tm.a3,.int .i64 n_.tm.a4,.int .i64 n_.tm.a5,.int .i64 n_.tm.a6,.int .i64 n_.tm.a7,.bool n_.broken.a0,.bool n_.broken.a1,.bool n_.broken.a2,.bool n_.broken.a3,.bool n_.broken.a4,.bool n_.broken.a5,.bool n_.broken.a6,.bool n_.broken.a7]] #[])))::(tB 27 true)::(tI 7 x_v11)::(Fd x_v11 n_ ac x_v10 ad x15)) gy)=>hK _ _ ?_⟩
       refine Rk 9 1 ((tB 32 x31)::(tI 7 x_v11)::(Fd x_v11 n_ ac x_v10 ad x15)) eo da fun h0 ep=>?_
       refine wf ?_
       obtain rfl:=XZ ak
       exact XY _ ⟨_,rfl,ep.kp,da,fz⟩
      ·
       rw [bk,XV] at ak
       have er:Kn 50 (BF b o p q) ((tB 27 false)::(tI 7 x_v11)::(Fd x_v11 n_ ac x_v10 ad x15)) dn:=(c3.setB 27 false (by rfl) bk).kp
       refine Rk 5 5 ((tB 32 false)::(tI 7 x_v11)::(Fd x_v11 n_ ac x_v10 ad x15)) er aj fun h1 es=>?_
       refine wf ?_
       obtain rfl:=XZ ak
       exact XY _ ⟨_,rfl,es.kp,aj,Ac.le_refl _⟩
     ·
      rintro _ ip ⟨co,be,rfl,b8,bx,ca⟩
      replace bl:=bl.mono ca
      refine ND (dm) b8 (by kernel_rfl) (fun b2=>?_) (fun b2=>?_)
      ·
       rw [Bc b2] at af
       refine Fb (AH (by kernel_rfl) (Rk 0 2 ((tI 34 x_v11)::(tS 33 ac x_v10.length ad)::(tI 7 x_v11)::(Ks x_v11 n_ x15)) b8 bx fun h3 et=>?_))
       refine wl fun K hK=>?_
       refine wS 3 1 [.int .i64 x_v11] et bx fun cv gz iq (eu:Kn 50 (BF b o p q) ((tS 35 cv 1 1)::(tI 34 x_v11)::(tS 33 ac x_v10.length ad)::(tI 7 x_v11)::(Ks x_v11 n_ x15)) gz) db=>?_
       have b3:Af be ([x_v11]:List Int) ([.int .i64 x_v11]:List Value):=⟨_,_,rfl,(Ad:rep be (x_v11:Int) _),rfl⟩
       refine hK _ _ ?_
       obtain⟨x36,ex36,af⟩:=Ap af
       obtain⟨ck,fw⟩:=AS ex36
       refine wl fun K hK=>?_
       refine AI 1 8 1 _ (x36.length) _ ([.int .i64 x_v11]:List Value) eu db rfl rfl (by decide) rfl (by rfl) (by kernel_rfl) (by rfl) (by rfl) (Af.len b3) (db.rowCell (i:=2) rfl) b3.one (by rw [ck]; simp <;> omega) (by rw [ck]; exact fw) (by decide) fun az a8 d2 g0 iu ef (ev:Kn 50 (BF b o p q) ((tS 36 az x36.length a8)::(tS 35 cv 1 1)::(tI 34 x_v11)::(tS 33 ac x_v10.length ad)::(tI 7 x_v11)::(Ks x_v11 n_ x15)) g0) cd=>?_
       have eb:Af be x36 (ax++([.int .i64 x_v11]:List Value)):=by rw [ck]; exact Af.append bl b3
       obtain rfl:d2=0:=Nat.le_zero.1 ef
       refine hK _ _ ?_
       refine Rk 4 1 ((tS 6 az x36.length a8)::(tI 7 x_v11)::(Ks x_v11 n_ x15)) ev cd fun h4 ew=>?_
       refine wf (AH (by kernel_rfl) (Rk 0 1 ((tI 37 x_v11)::(tS 6 az x36.length a8)::(Ks x_v11 n_ x15)) ew cd fun h5 c5=>?_))
       obtain⟨x38,ex38,af⟩:=Ap af
       obtain⟨gg,gj⟩:=Bz ex38
       refine DT 1 (.one (.c (.ptr 2 (0+(x_v11:Int).toNat*1)))) rfl (rfl) rfl (AN (E:=4) c5 rfl (by kernel_rfl) (by kernel_rfl) (by rfl) (by rfl) gg gj) (c5.put (by decide) _) fun dq (ey:Kn 50 (BF b o p q) ((tP 38 2 (0+(x_v11:Int).toNat*1))::(tI 37 x_v11)::(tS 6 az x36.length a8)::(Ks x_v11 n_ x15)) dq)=>?_
       obtain⟨am,d0,af⟩:=Ap af
       obtain⟨hr,ht,gr⟩:=Ar.setI_some d0
       refine wl fun K hK=>?_
       refine DD 2 (0+(x_v11:Int).toNat*1) (.c (.bool true)) [.bool am.a0,.bool am.a1,.bool am.a2,.bool am.a3,.bool am.a4,.bool am.a5,.bool am.a6,.bool am.a7] ey cd rfl rfl (by rfl) (by rfl) (by rfl) (by kernel_rfl) (by refine decide_eq_true ?_; show(0+(x_v11:Int).toNat*1)+1≤8; omega) (Fq (fun(y:Bool)=>([.bool y]:List SC)) 1 (fun _=>rfl) [] [] x_v12.toL am.toL (x_v11:Int).toNat true gr (show(x_v11:Int).toNat<8 by omega) rfl rfl rfl) fun iv ez dc=>hK _ _ ?_
       have e0:Kn 50 (BF b o p q) ((tS 6 az x36.length a8)::(Ks x_v11 n_ x15)) dq:=ez.kp
       refine wf (AH (by kernel_rfl) (Rk 0 2 ((tI 20 (IntKind.i64.wrap (x_v11+1)))::(tS 6 az x36.length a8)::(tI 19 ((n_.yard.buses.length:Nat):Int))::(tI 5 x15)::(tP 4 3 0)::Dq) e0 dc fun h6 e1=>?_))
       refine wf ?_
       exact XY bi ⟨Nat.lt_succ_self _,XY x36 ⟨IntKind.i64.wrap (x_v11+1),am,az,a8,ax++([.int .i64 x_v11]:List Value),_,_,rfl,e1.kp,dc.cutRw 2,XU al ca,eb,af⟩⟩
      ·
       rw [Bd b2] at af
       refine Sm (AH (by kernel_rfl) (Rk 0 2 ((tI 20 (IntKind.i64.wrap (x_v11+1)))::(tI 19 ((n_.yard.buses.length:Nat):Int))::(tS 6 ac x_v10.length ad)::(tI 5 x15)::(tP 4 3 0)::Dq) b8 bx fun h7 e2=>?_))
       refine wf ?_
       exact XY bi ⟨Nat.lt_succ_self _,XY x_v10 ⟨IntKind.i64.wrap (x_v11+1),x_v12,ac,ad,ax,_,_,rfl,e2.kp,bx,XU al ca,bl,af⟩⟩
    ·
     rw [b1,XV] at af
     refine U0 ?_
     obtain rfl:=XZ af
     exact XY ac ⟨ad,ax,_,_,rfl,b7.kp,aj,al,bl⟩
  ·
   rintro _ iw ⟨x,aa,cq,cm,bj,rfl,e3,dd,bt,ea⟩
   replace bc:=bc.mono bt
   refine Fb (AH (by kernel_rfl) (Rk 0 1 ((tS 40 x u.1.length aa)::(tS 6 x u.1.length aa)::(tI 5 x15)::Dq) e3 dd fun h8 e5=>?_))
   refine F8 1 #[] #[.pointer (some ⟨b,0,none⟩)] e5 rfl rfl (rfl) rfl (by decide) (by rfl) (by rfl) (by rfl) (by rfl) fun g1 (e6:Kn 50 (BF b o p q) ((41,.one (.c (.func (.func 63) #[] #[.pointer (some ⟨b,0,none⟩)])))::(tS 40 x u.1.length aa)::(tS 6 x u.1.length aa)::(tI 5 x15)::Dq) g1)=>?_
   obtain⟨x42,ex42,ai⟩:=Ap ai
   obtain⟨ha,hi,fx,gn⟩:=dd.lend0 [] [1] (by kernel_rfl) (by kernel_rfl) (by kernel_rfl) (by kernel_rfl)
   refine wl fun K hK=>?_
   refine Gq [.c (.slice x u.1.length aa),.c (.func (.func 63) #[] #[.pointer (some ⟨b,0,none⟩)])] _ e6 rfl rfl (by decide) (by rfl) rfl (fun _ _=>by kernel_rfl) (C6 n u.1 ea (fun(y0:Int)(y1:Int)=>BB n y0 y1 n_) (show T4 bj (.func (.func 63) #[] #[.pointer (some ⟨b,0,none⟩)]) (fun(y0:Int)(y1:Int)=>BB n y0 y1 n_) from fun h2 w2 hle hh y0 y1 r H=>⟨63,_,_,rfl,fun _ _=>by kernel_rfl,Hm n hh y0 y1 n_ (bc.mono hle) H⟩) fx ex42) fun ij dv d7=>?_
   obtain⟨cy,bn,bu,rfl,gd,b4,f5⟩:=d7
   have ce:=gn _ _ _ [⟨x,u.1.length,aa,3,1,bn,0⟩] bu rfl (Nat.le_of_ble_eq_true rfl) (by kernel_rfl) f5
   replace ce:Aj ar cy (BF b o p q) [⟨EJ d n_ g f j l m,none⟩,⟨[.slice z s.1.length ab],some 40⟩,⟨UO u,some 57⟩,⟨Je d n_ g f j l m,some 121⟩] [⟨z,s.1.length,ab,22,1,ag,0⟩,⟨x,u.1.length,aa,3,1,bn,0⟩] dv:=ce
   refine⟨.tup [],rfl,fun cp (e7:Kn 50 (BF b o p q) ((42,.tup [])::(41,.one (.c (.func (.func 63) #[] #[.pointer (some ⟨b,0,none⟩)])))::(tS 40 x u.1.length aa)::(tS 6 x u.1.length aa)::(tI 5 x15)::Dq) cp)=>hK _ _ ?_⟩
   have dk:=gd.symm
   have e8:Kn 50 [(b,0),(o,0),(p,0),(q,0)] [(42,.tup []),(41,.one (.c (.func (.func 63) #[] #[.pointer (some ⟨b,0,none⟩)]))),(40,.one (.c (.slice x x42.length aa))),(6,.one (.c (.slice x x42.length aa))),(5,.one (.c (.int .i64 x15))),(3,.one (.c (.ptr 2 0))),(2,.one (.c (.ptr 1 0))),(1,.one (.c (.ptr 0 0)))] cp:=by rw [← dk]; exact e7
   have de:Aj ar cy [(b,0),(o,0),(p,0),(q,0)] [⟨[.slice d n_.yard.room.length g,.slice f n_.yard.buses.length j,.int .i64 n_.yard.broken,.slice l n_.lane.length m,.int .i64 n_.tm.a0,.int .i64 n_.tm.a1,.int .i64 n_.tm.a2,.int .i64 n_.tm.a3,.int .i64 n_.tm.a4,.int .i64 n_.tm.a5,.int .i64 n_.tm.a6,.int .i64 n_.tm.a7,.bool n_.broken.a0,.bool n_.broken.a1,.bool n_.broken.a2,.bool n_.broken.a3,.bool n_.broken.a4,.bool n_.broken.a5,.bool n_.broken.a6,.bool n_.broken.a7],none⟩,⟨[.slice z s.1.length ab],some 40⟩,⟨[.bool u.2.a0,.bool u.2.a1,.bool u.2.a2,.bool u.2.a3,.bool u.2.a4,.bool u.2.a5,.bool u.2.a6,.bool u.2.a7],some 57⟩,⟨[.func (.func 62) #[.agg #[.slice d n_.yard.room.length g,.slice f n_.yard.buses.length j,.int .i64 n_.yard.broken,.slice l n_.lane.length m,.int .i64 n_.tm.a0,.int .i64 n_.tm.a1,.int .i64 n_.tm.a2,.int .i64 n_.tm.a3,.int .i64 n_.tm.a4,.int .i64 n_.tm.a5,.int .i64 n_.tm.a6,.int .i64 n_.tm.a7,.bool n_.broken.a0,.bool n_.broken.a1,.bool n_.broken.a2,.bool n_.broken.a3,.bool n_.broken.a4,.bool n_.broken.a5,.bool n_.broken.a6,.bool n_.broken.a7]] #[]],some 121⟩] [⟨z,s.1.length,ab,22,1,ag,0⟩,⟨x,x42.length,aa,3,1,bn,0⟩] dv:=by rw [← dk]; exact ce
   have e9:Kn 50 (BF b o p q) [tS 6 x x42.length aa,tI 5 x15,tP 3 2 0,tP 2 1 0] cp:=e8.kp
   refine wf (Fb (AH (by kernel_rfl) (Rk 0 1 [tI 43 x15,tS 6 x x42.length aa,tP 3 2 0,tP 2 1 0] e9 de fun h9 c6=>?_)))
   obtain⟨x44,ex44,ai⟩:=Ap ai
   obtain⟨gh,gk⟩:=Bz ex44
   refine DT 1 (.one (.c (.ptr 2 (0+(x15:Int).toNat*1)))) rfl (rfl) rfl (AN (E:=4) c6 rfl (by kernel_rfl) (by kernel_rfl) (by rfl) (by rfl) gh gk) (c6.put (by decide) _) fun dr (fa:Kn 50 (BF b o p q) [tP 44 2 (0+(x15:Int).toNat*1),tI 43 x15,tS 6 x x42.length aa,tP 3 2 0,tP 2 1 0] dr)=>?_
   obtain⟨ah,d1,ai⟩:=Ap ai
   obtain⟨hs,hu,gs⟩:=Ar.setI_some d1
   refine wl fun K hK=>?_
   refine DD 2 (0+(x15:Int).toNat*1) (.c (.bool true)) (UN ah) fa de rfl rfl (by rfl) (by rfl) (by rfl) (by kernel_rfl) (by refine decide_eq_true ?_; show(0+(x15:Int).toNat*1)+1≤8; omega) (Fq (fun(y:Bool)=>([.bool y]:List SC)) 1 (fun _=>rfl) [] [] u.2.toL ah.toL (x15:Int).toNat true gs (show(x15:Int).toNat<8 by omega) rfl rfl rfl) fun g6 fb cf=>hK _ _ ?_
   have fd:Kn 50 (BF b o p q) [tS 6 x x42.length aa,tP 2 1 0] dr:=fb.kp
   refine wf (AH (by kernel_rfl) (Rk 0 2 [tS 46 x x42.length aa,tS 45 z s.1.length ab,tP 2 1 0] fd cf fun ia fe=>?_))
   obtain⟨bf,bv,go,cg⟩:=cf.settle (i:=1) rfl
   replace au:=au.mono (XU (XU bt bu) bv)
   replace b4:=b4.mono bv
   replace cg:Aj ar bf (BF b o p q) [⟨EJ d n_ g f j l m,none⟩,⟨[.slice z s.1.length ab],some 40⟩,⟨UN ah,some 57⟩,⟨Je d n_ g f j l m,some 121⟩] [⟨z,s.1.length,ab,22,1,ag,0⟩,⟨x,x42.length,aa,3,1,bn,(bn:List Value).length⟩] g6:=cg
   have gl:At bf x aa x42:=⟨_,b4,go,cf.rowCap (i:=1) rfl⟩
   refine wl fun K hK=>?_
   refine wS 22 1 [.slice x x42.length aa] fe cg fun cw g3 iy (ff:Kn 50 (BF b o p q) [tS 47 cw 1 1,tS 46 x x42.length aa,tS 45 z s.1.length ab,tP 2 1 0] g3) dg=>?_
   have b5:Af bf ([x42]:List (List Int)) ([.slice x x42.length aa]:List Value):=⟨_,_,rfl,((Ae gl):rep bf (x42:List Int) _),rfl⟩
   refine hK _ _ ?_
   obtain⟨x48,ex48,ai⟩:=Ap ai
   obtain⟨cl,fy⟩:=AS ex48
   refine wl fun K hK=>?_
   refine AI 0 24 1 _ (x48.length) _ ([.slice x x42.length aa]:List Value) ff dg rfl rfl (by decide) rfl (by rfl) (by kernel_rfl) (by rfl) (by rfl) (Af.len b5) (dg.rowCell (i:=2) rfl) b5.one (by rw [cl]; simp <;> omega) (by rw [cl]; exact fy) (by decide) fun bo bq d3 ds iz eg (fg:Kn 50 (BF b o p q) [tS 48 bo x48.length bq,tS 47 cw 1 1,tS 46 x x42.length aa,tS 45 z s.1.length ab,tP 2 1 0] ds) f6=>?_
   have ec:Af bf x48 (ag++([.slice x x42.length aa]:List Value)):=by rw [cl]; exact Af.append au b5
   obtain rfl:d3=0:=Nat.le_zero.1 eg
   refine hK _ _ ?_
   refine wl fun K hK=>?_
   refine Eb 1 0 (.c (.slice bo x48.length bq)) [.slice bo x48.length bq] fg f6 fun i0 fh dh=>hK _ _ ?_
   have hp:Kn 50 (BF b o p q) [] ds:=fh.kp
   refine wf ?_
   obtain rfl:=XZ ai
   refine⟨dh.ext c9.loop,?_⟩
   rw [dl.eq]
   obtain⟨dw,f1,hd,f7⟩:=Aj.loopStep dh c9 aw
   exact⟨rfl,bf,XU bt (XU bu bv),dw,bo,bq,ag++([.slice x x42.length aa]:List Value),f1,(f7).cutRw 1,ec,XU bd (XU bt (XU bu bv))⟩
 ·
  intro g7 d8
  obtain⟨d9,_,eh⟩:=d8
  obtain⟨g9,an,ao,cr,c7,di,b6,hq⟩:=eh
  refine⟨di.ext c7.loop,?_⟩
  obtain⟨cu,c8,he,bz⟩:=Aj.loopStep di c7 { aw with state:=.exhausted }
  replace bz:Aj cu d9 (BF b o p q) [⟨EJ d n_ g f j l m,none⟩,⟨[.slice an ae.1.length ao],some 40⟩,⟨[.bool ae.2.a0,.bool ae.2.a1,.bool ae.2.a2,.bool ae.2.a3,.bool ae.2.a4,.bool ae.2.a5,.bool ae.2.a6,.bool ae.2.a7],some 57⟩,⟨Je d n_ g f j l m,some 121⟩] [⟨an,ae.1.length,ao,22,1,cr,0⟩] (World.putObj g7 ((ay).heap.size+1) (.loop { aw with state:=.exhausted })):=bz
  refine XT (Aa (Rk 0 1 [tS 49 an ae.1.length ao,tP 2 1 0] b9 bz fun g5 fk=>?_))
  refine wl fun K hK=>?_
  refine Eb 1 0 (.c (.slice an ae.1.length ao)) [.slice an ae.1.length ao] fk bz fun g8 fl dj=>hK _ _ ?_
  have fm:Kn 50 (BF b o p q) [tP 2 1 0] g5:=fl.kp
  refine wf (wp_ret ?_)
  obtain⟨cz,f0,gp,ch⟩:=dj.settle (i:=0) rfl
  replace b6:=b6.mono f0
  replace ch:Aj cu cz (BF b o p q) [⟨EJ d n_ g f j l m,none⟩,⟨[.slice an ae.1.length ao],some 40⟩,⟨[.bool ae.2.a0,.bool ae.2.a1,.bool ae.2.a2,.bool ae.2.a3,.bool ae.2.a4,.bool ae.2.a5,.bool ae.2.a6,.bool ae.2.a7],some 57⟩,⟨Je d n_ g f j l m,some 121⟩] [⟨an,ae.1.length,ao,22,1,cr,(cr:List Value).length⟩] g8:=ch
  have gm:At cz an ao ae.1:=⟨_,b6,gp,dj.rowCap (i:=0) rfl⟩
  obtain rfl:=XZ H
  exact QW (bs:=((ay).heap.size::([]:List Nat))) (.one (.c (.slice an ae.1.length ao))) fm ch c8.marks c8.of (by kernel_rfl) ⟨_,_,rfl,gm⟩
abbrev Lp (m:Option Addr) (y:Ag) (q:Nat) (o:Option Addr) (s:Nat):List SC:=[.slice m y.room.length q,.slice o y.buses.length s,.int .i64 y.broken]
abbrev Hn (e:Option Addr) (x18:Cd×Int) (j:Nat) (f:Option Addr) (k:Nat) (g:Option Addr) (l:Nat):List SC:=[.slice e x18.1.yard.room.length j,.slice f x18.1.yard.buses.length k,.int .i64 x18.1.yard.broken,.slice g x18.1.lane.length l,.int .i64 x18.1.tm.a0,.int .i64 x18.1.tm.a1,.int .i64 x18.1.tm.a2,.int .i64 x18.1.tm.a3,.int .i64 x18.1.tm.a4,.int .i64 x18.1.tm.a5,.int .i64 x18.1.tm.a6,.int .i64 x18.1.tm.a7,.bool x18.1.broken.a0,.bool x18.1.broken.a1,.bool x18.1.broken.a2,.bool x18.1.broken.a3,.bool x18.1.broken.a4,.bool x18.1.broken.a5,.bool x18.1.broken.a6,.bool x18.1.broken.a7]
set_option maxRecDepth 100000 in
set_option maxHeartbeats 4000000 in
theorem NW (n:Nat) {h:Ac} {w:World} (hh:Db h w) (y:Ag) {cs_y:List Value} (hx_y:rep h y cs_y) (lanes:List Int) {a_lanes:Option Addr} {c_lanes:Nat} (hr_lanes:At h a_lanes c_lanes lanes) (order:List Int) {a_order:Option Addr} {c_order:Nat} (hr_order:At h a_order c_order order) (broken:List Int) {a_broken:Option Addr} {c_broken:Nat} (hr_broken:At h a_broken c_broken broken) {r:(List Int)×Int} (H:Fs n y lanes order broken=some r) :
  Calls Tryz.prog 23 #[.agg cs_y.toArray,.slice a_lanes lanes.length c_lanes,.slice a_order order.length c_order,.slice a_broken broken.length c_broken] w (Dd (fun h v=>∃ v0 v1,v=.tuple #[v0,v1]∧(∃ a c,v0=.slice a r.1.length c∧At h a c r.1)∧(v1=.int .i64 r.2)) h w):=by
 obtain⟨_,_,rfl,⟨m,q,rfl,ak⟩,⟨_,_,rfl,⟨o,s,rfl,al⟩,rfl⟩⟩:=hx_y
 refine enter 30 [.agg (Lp m y q o s),.c (.slice a_lanes lanes.length c_lanes),.c (.slice a_order order.length c_order),.c (.slice a_broken broken.length c_broken)] Tryz.func23 rfl rfl rfl rfl fun t hk=>?_
 have hm:=Aj.begin h w hh
 unfold Fs at H
 refine XT (Aa (wl fun K hK=>?_))
 refine wb (.agg (Lp m y q o s)) hk hm fun p b7 cv (ba:Kn 30 [(p,0)] [tP 4 0 0,tA 0 (Lp m y q o s),tS 1 a_lanes lanes.length c_lanes,tS 2 a_order order.length c_order,tS 3 a_broken broken.length c_broken] b7) ae=>hK _ _ ?_
 refine Rk 1 2 [tP 4 0 0,tS 1 a_lanes lanes.length c_lanes,tS 2 a_order order.length c_order,tS 3 a_broken broken.length c_broken] ba ae fun ce bb=>?_
 refine wf (XT (Aa (Rk 0 4 [tS 17 a_broken broken.length c_broken,tS 16 a_order order.length c_order,tS 15 a_lanes lanes.length c_lanes,tA 14 (Lp m y q o s)] bb ae fun cf bc=>?_)))
 obtain⟨x18,ex18,H⟩:=Ap H
 refine wl fun K hK=>?_
 refine wc [.agg (Lp m y q o s),.c (.slice a_lanes lanes.length c_lanes),.c (.slice a_order order.length c_order),.c (.slice a_broken broken.length c_broken)] bc ae (Kr n ae.has y ((Ab (Ae ak) (Ab (Ae al) Ad)):rep h y _) lanes hr_lanes order hr_order broken hr_broken ex18) fun co a8 cr ax ap aq=>?_
 replace ak:=ak.mono ap
 replace al:=al.mono ap
 obtain⟨_,_,rfl,⟨_,rfl,⟨_,_,rfl,⟨_,_,rfl,⟨e,j,rfl,bw⟩,⟨_,_,rfl,⟨f,k,rfl,bx⟩,rfl⟩⟩,⟨_,_,rfl,⟨g,l,rfl,bz⟩,⟨_,_,rfl,⟨_,_,rfl,rfl,⟨_,_,rfl,rfl,⟨_,_,rfl,rfl,⟨_,_,rfl,rfl,⟨_,_,rfl,rfl,⟨_,_,rfl,rfl,⟨_,_,rfl,rfl,rfl⟩⟩⟩⟩⟩⟩⟩,⟨_,_,rfl,rfl,⟨_,_,rfl,rfl,⟨_,_,rfl,rfl,⟨_,_,rfl,rfl,⟨_,_,rfl,rfl,⟨_,_,rfl,rfl,⟨_,_,rfl,rfl,rfl⟩⟩⟩⟩⟩⟩⟩⟩⟩⟩⟩,rfl⟩:=ax
 refine⟨.tup [.agg (Hn e x18 j f k g l),.c (.int .i64 x18.2)],rfl,fun b3 (bd:Kn 30 [(p,0)] [(18,.tup [.agg (Hn e x18 j f k g l),.c (.int .i64 x18.2)]),tS 17 a_broken broken.length c_broken,tS 16 a_order order.length c_order,tS 15 a_lanes lanes.length c_lanes,tA 14 (Lp m y q o s)] b3)=>hK _ _ ?_⟩
 refine Rk 5 3 [tI 20 x18.2,tA 19 (Hn e x18 j f k g l)] bd aq fun cg be=>?_
 refine wl fun K hK=>?_
 refine wa [.slice none 0 0,.slice none 0 0,.int .i64 0,.slice none 0 0,.int .i64 0,.int .i64 0,.int .i64 0,.int .i64 0,.int .i64 0,.int .i64 0,.int .i64 0,.int .i64 0,.bool false,.bool false,.bool false,.bool false,.bool false,.bool false,.bool false,.bool false] be aq fun u b4 cs (bf:Kn 30 [(p,0),(u,0)] [tP 10 1 0,tI 20 x18.2,tA 19 (Hn e x18 j f k g l)] b4) bu=>hK _ _ ?_
 refine wl fun K hK=>?_
 refine Eb 1 0 (.agg (Hn e x18 j f k g l)) (Hn e x18 j f k g l) bf bu fun ct bg z=>hK _ _ ?_
 refine Rk 10 1 [tI 11 x18.2,tP 10 1 0] bg z fun ch bh=>?_
 refine wf (XT (XT (Aa (Rk 0 2 [tB 22 (x18.2 != 0),tI 11 x18.2,tP 10 1 0] bh z fun ci ah=>?_))))
 refine wf (wC ((x18.2 != 0)) ah (fun af=>?_) (fun af=>?_))
 ·
  rw [af,XW] at H
  refine XT (Aa (Rk 0 3 [tI 9 x18.2,tS 8 none 0 0] ah z fun cj bi=>?_))
  refine wf (wp_ret ?_)
  obtain rfl:=XZ H
  exact rt (.tup [.c (.slice none 0 0),.c (.int .i64 x18.2)]) bi z ⟨_,_,rfl,⟨_,_,rfl,At.nil⟩,rfl⟩
 ·
  rw [af,XV] at H
  refine wp_skip (XT (Aa (Rk 0 1 [tA 24 (Hn e x18 j f k g l)] ah z fun ck bj=>?_)))
  obtain⟨x25,ex25,H⟩:=Ap H
  refine wl fun K hK=>?_
  refine wc [.agg (Hn e x18 j f k g l)] bj z (Im n z.has x18.1 ((Ab (Ab (Ae bw) (Ab (Ae bx) Ad)) (Ab (Ae bz) (Ab (Ab Ad (Ab Ad (Ab Ad (Ab Ad (Ab Ad (Ab Ad (Ab Ad Ad))))))) (Ab Ah (Ab Ah (Ab Ah (Ab Ah (Ab Ah (Ab Ah (Ab Ah Ah)))))))))):rep a8 x18.1 _) ex25) fun cp ca cu ay cb ar=>?_
  obtain⟨ab,ac,rfl,b0⟩:=ay
  refine⟨.one (.c (.slice ab x25.length ac)),rfl,fun b5 (bk:Kn 30 [(p,0),(u,0)] [tS 25 ab x25.length ac,tA 24 (Hn e x18 j f k g l)] b5)=>hK _ _ ?_⟩
  obtain⟨x26,ex26,H⟩:=Ap H
  refine wl fun K hK=>?_
  refine Lg [.c (.slice ab x25.length ac)] _ bk ar rfl rfl (by decide) (by rfl) rfl (fun _ _=>by kernel_rfl) (G8 n ar.has x25 b0 ex26) fun cq ad b9 cd az cc aa=>?_
  obtain⟨b,d,b8,rfl,rfl,a9⟩:=az
  replace aa:Aj ⟨w,h,A9⟩ ad [(p,0),(u,0)] [⟨Lp m y q o s,some 33⟩,⟨Hn e x18 j f k g l,some 87⟩] [⟨b,x26.length,d,3,1,b8,0⟩] b9:=aa
  refine⟨.one (.c (.slice b x26.length d)),rfl,fun b6 (bl:Kn 30 [(p,0),(u,0)] [tS 26 b x26.length d,tS 25 ab x25.length ac,tA 24 (Hn e x18 j f k g l)] b6)=>hK _ _ ?_⟩
  refine Rk 3 1 [tS 12 b x26.length d] bl aa fun cl bm=>?_
  refine wf (XT (Aa (Rk 0 1 [tS 27 b x26.length d,tS 12 b x26.length d] bm aa fun cm bn=>?_)))
  obtain⟨x,aw,H⟩:=Ap H
  obtain⟨bs,av⟩:=RQ aw
  refine wl fun K hK=>?_
  refine U3 Tryz.sorts 0 bn aa rfl rfl (by decide) (by rfl) (fun _ _=>by kernel_rfl) rfl rfl rfl rfl a9 bs fun am an (bo:Kn 30 [(p,0),(u,0)] [(28,.tup []),tS 27 b x26.length d,tS 12 b x26.length d] am) (bv:Aj ⟨w,h,A9⟩ ad [(p,0),(u,0)] [⟨Lp m y q o s,some 33⟩,⟨Hn e x18 j f k g l,some 87⟩] [⟨b,x26.length,d,3,1,List.map (Value.int .i64) (EI x26),0⟩] an)=>?_
  have ag:Af ad x (List.map (Value.int .i64) (EI x26)):=by rw [av]; exact Li _ _
  have au:x26.length=x.length:=by rw [av,Pb]
  have bp:Kn 30 [(p,0),(u,0)] [(28,.tup []),(27,.one (.c (.slice b x.length d))),(12,.one (.c (.slice b x.length d)))] am:=by rw [← au]; exact bo
  have ai:Aj ⟨w,h,A9⟩ ad [(p,0),(u,0)] [⟨[.slice m y.room.length q,.slice o y.buses.length s,.int .i64 y.broken],some 33⟩,⟨[.slice e x18.1.yard.room.length j,.slice f x18.1.yard.buses.length k,.int .i64 x18.1.yard.broken,.slice g x18.1.lane.length l,.int .i64 x18.1.tm.a0,.int .i64 x18.1.tm.a1,.int .i64 x18.1.tm.a2,.int .i64 x18.1.tm.a3,.int .i64 x18.1.tm.a4,.int .i64 x18.1.tm.a5,.int .i64 x18.1.tm.a6,.int .i64 x18.1.tm.a7,.bool x18.1.broken.a0,.bool x18.1.broken.a1,.bool x18.1.broken.a2,.bool x18.1.broken.a3,.bool x18.1.broken.a4,.bool x18.1.broken.a5,.bool x18.1.broken.a6,.bool x18.1.broken.a7],some 87⟩] [⟨b,x.length,d,3,1,List.map (Value.int .i64) (EI x26),0⟩] an:=by rw [← au]; exact bv
  refine hK _ _ ?_
  have bq:Kn 30 [(p,0),(u,0)] [tS 12 b x.length d] am:=bp.kp
  refine wf (XT (Aa (Rk 0 3 [tI 9 0,tS 8 b x.length d] bq ai fun cn br=>?_)))
  refine wf (wp_ret ?_)
  obtain⟨ao,bt,b2,aj⟩:=ai.settle (i:=0) rfl
  replace ag:=ag.mono bt
  replace aj:Aj ⟨w,h,A9⟩ ao [(p,0),(u,0)] [⟨Lp m y q o s,some 33⟩,⟨Hn e x18 j f k g l,some 87⟩] [⟨b,x.length,d,3,1,List.map (Value.int .i64) (EI x26),((List.map (Value.int .i64) (EI x26)):List Value).length⟩] an:=aj
  have b1:At ao b d x:=⟨_,ag,b2,ai.rowCap (i:=0) rfl⟩
  obtain rfl:=XZ H
  exact rt (.tup [.c (.slice b x.length d),.c (.int .i64 0)]) br aj ⟨_,_,rfl,⟨_,_,rfl,b1⟩,rfl⟩
end Go.Proofs.YthcbemnflgjadaaGreat
