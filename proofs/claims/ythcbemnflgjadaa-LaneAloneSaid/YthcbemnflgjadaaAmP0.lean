/- What the functions compute, in plain Lean. -/
import Derived.Test.YthcbemnflgjadaaAmS8
import Derived.Test.YthcbemnflgjadaaProg
import Derived.Lib.BitFns
set_option linter.all false
namespace Go.Proofs.Ythcbemnflgjadaa
open Go Go.RowKit
open Rep (rep)
open KRep (kv)
open VRep (rv)
structure AX where
  lo:Int
  hi:Int
  turn:Int
deriving DecidableEq,Inhabited
instance : Rep AX:=Rep.via fun x=>(x.lo,x.hi,x.turn)
instance : VRep AX:=VRep.agg AX
structure Ak where
  room:List Int
  buses:List AX
  broken:Int
deriving DecidableEq,Inhabited
instance : Rep Ak:=Rep.via fun x=>(x.room,x.buses,x.broken)
instance : VRep Ak:=VRep.agg Ak
def Rp (h:Ac) (v:Value) (f:Int→Option Bool):Prop:=∀ (h':Ac)(w':World),Ac.le h h'→Dk h' w'→∀ (x0:Int)(r:Bool),f x0=some r→Ht Try.prog v #[.int .i64 x0] w' (Dz (fun h v=>v=.bool r) h' w')
theorem Rp.mono {h h':Ac} {v:Value} {f:Int→Option Bool} (H:Rp h v f) (hle:Ac.le h h'):Rp h' v f:=fun h2 w2 l=>H h2 w2 (Ac.le_trans hle l)
instance : Rep (Int→Option Bool):=⟨1,fun h f cs=>∃ fn first cap,cs=[.func fn first cap]∧Rp h (.func fn first cap) f,fun hle ⟨a,b,c,e,hr⟩=>⟨a,b,c,e,hr.mono hle⟩,fun⟨a,b,c,e,_⟩=>by subst e; rfl,fun⟨a,b,c,e,_⟩ v hv=>by subst e; simp at hv; subst hv; rfl⟩
def Rq (h:Ac) (v:Value) (f:AX→Option Bool):Prop:=∀ (h':Ac)(w':World),Ac.le h h'→Dk h' w'→∀ (x0:AX)(cs0:List Value)(_:rep h' x0 cs0)(r:Bool),f x0=some r→Ht Try.prog v #[.agg cs0.toArray] w' (Dz (fun h v=>v=.bool r) h' w')
theorem Rq.mono {h h':Ac} {v:Value} {f:AX→Option Bool} (H:Rq h v f) (hle:Ac.le h h'):Rq h' v f:=fun h2 w2 l=>H h2 w2 (Ac.le_trans hle l)
instance : Rep (AX→Option Bool):=⟨1,fun h f cs=>∃ fn first cap,cs=[.func fn first cap]∧Rq h (.func fn first cap) f,fun hle ⟨a,b,c,e,hr⟩=>⟨a,b,c,e,hr.mono hle⟩,fun⟨a,b,c,e,_⟩=>by subst e; rfl,fun⟨a,b,c,e,_⟩ v hv=>by subst e; simp at hv; subst hv; rfl⟩
structure Am where
  a0:Int
  a1:Int
  a2:Int
  a3:Int
  a4:Int
  a5:Int
  a6:Int
  a7:Int
deriving DecidableEq,Inhabited
instance : Rep Am:=Rep.via fun x=>(x.a0,x.a1,x.a2,x.a3,x.a4,x.a5,x.a6,x.a7)
instance : VRep Am:=VRep.agg Am
def Am.toL (x:Am):List Int:=[x.a0,x.a1,x.a2,x.a3,x.a4,x.a5,x.a6,x.a7]
def Am.ofL:List Int→Option Am
  | [a0,a1,a2,a3,a4,a5,a6,a7]=>some ⟨a0,a1,a2,a3,a4,a5,a6,a7⟩
  | _=>none
theorem Am.ofL_some {l:List Int} {y:Am} (h:Am.ofL l=some y):y.toL=l:=by
  unfold Am.ofL at h
  split at h
  · cases h; rfl
  · cases h
def Am.setI (x:Am) (i:Int) (v:Int):Option Am:=(upd x.toL i v).bind Am.ofL
theorem Am.setI_some {x y:Am} {i:Int} {v:Int} (h:x.setI i v=some y):0≤i∧i<8∧y.toL=x.toL.set i.toNat v:=by
  obtain⟨l,hl,h2⟩:=Ao h
  obtain⟨h0,h1,rfl⟩:=BS hl
  exact⟨h0,h1,Am.ofL_some h2⟩
structure Ap where
  a0:Bool
  a1:Bool
  a2:Bool
  a3:Bool
  a4:Bool
  a5:Bool
  a6:Bool
  a7:Bool
deriving DecidableEq,Inhabited
instance : Rep Ap:=Rep.via fun x=>(x.a0,x.a1,x.a2,x.a3,x.a4,x.a5,x.a6,x.a7)
instance : VRep Ap:=VRep.agg Ap
def Ap.toL (x:Ap):List Bool:=[x.a0,x.a1,x.a2,x.a3,x.a4,x.a5,x.a6,x.a7]
def Ap.ofL:List Bool→Option Ap
  | [a0,a1,a2,a3,a4,a5,a6,a7]=>some ⟨a0,a1,a2,a3,a4,a5,a6,a7⟩
  | _=>none
theorem Ap.ofL_some {l:List Bool} {y:Ap} (h:Ap.ofL l=some y):y.toL=l:=by
  unfold Ap.ofL at h
  split at h
  · cases h; rfl
  · cases h
def Ap.setI (x:Ap) (i:Int) (v:Bool):Option Ap:=(upd x.toL i v).bind Ap.ofL
theorem Ap.setI_some {x y:Ap} {i:Int} {v:Bool} (h:x.setI i v=some y):0≤i∧i<8∧y.toL=x.toL.set i.toNat v:=by
  obtain⟨l,hl,h2⟩:=Ao h
  obtain⟨h0,h1,rfl⟩:=BS hl
  exact⟨h0,h1,Ap.ofL_some h2⟩
structure BJ where
  yard:Ak
  lane:List Int
  tm:Am
  broken:Ap
deriving DecidableEq,Inhabited
instance : Rep BJ:=Rep.via fun x=>(x.yard,x.lane,x.tm,x.broken)
instance : VRep BJ:=VRep.agg BJ
def Q6 (h:Ac) (v:Value) (f:Int→Int→Option Int):Prop:=∀ (h':Ac)(w':World),Ac.le h h'→Dk h' w'→∀ (x0:Int)(x1:Int)(r:Int),f x0 x1=some r→Ht Try.prog v #[.int .i64 x0,.int .i64 x1] w' (Dz (fun h v=>v=.int .i64 r) h' w')
theorem Q6.mono {h h':Ac} {v:Value} {f:Int→Int→Option Int} (H:Q6 h v f) (hle:Ac.le h h'):Q6 h' v f:=fun h2 w2 l=>H h2 w2 (Ac.le_trans hle l)
instance : Rep (Int→Int→Option Int):=⟨1,fun h f cs=>∃ fn first cap,cs=[.func fn first cap]∧Q6 h (.func fn first cap) f,fun hle ⟨a,b,c,e,hr⟩=>⟨a,b,c,e,hr.mono hle⟩,fun⟨a,b,c,e,_⟩=>by subst e; rfl,fun⟨a,b,c,e,_⟩ v hv=>by subst e; simp at hv; subst hv; rfl⟩
def Si (h:Ac) (v:Value) (f:Int→Int→Option Bool):Prop:=∀ (h':Ac)(w':World),Ac.le h h'→Dk h' w'→∀ (x0:Int)(x1:Int)(r:Bool),f x0 x1=some r→Ht Try.prog v #[.int .i64 x0,.int .i64 x1] w' (Dz (fun h v=>v=.bool r) h' w')
theorem Si.mono {h h':Ac} {v:Value} {f:Int→Int→Option Bool} (H:Si h v f) (hle:Ac.le h h'):Si h' v f:=fun h2 w2 l=>H h2 w2 (Ac.le_trans hle l)
instance : Rep (Int→Int→Option Bool):=⟨1,fun h f cs=>∃ fn first cap,cs=[.func fn first cap]∧Si h (.func fn first cap) f,fun hle ⟨a,b,c,e,hr⟩=>⟨a,b,c,e,hr.mono hle⟩,fun⟨a,b,c,e,_⟩=>by subst e; rfl,fun⟨a,b,c,e,_⟩ v hv=>by subst e; simp at hv; subst hv; rfl⟩
structure A8 where
  buses:List Int
  down:Int
deriving DecidableEq,Inhabited
instance : Rep A8:=Rep.via fun x=>(x.buses,x.down)
instance : VRep A8:=VRep.agg A8
def Se (h:Ac) (v:Value) (f:AX→Option Int):Prop:=∀ (h':Ac)(w':World),Ac.le h h'→Dk h' w'→∀ (x0:AX)(cs0:List Value)(_:rep h' x0 cs0)(r:Int),f x0=some r→Ht Try.prog v #[.agg cs0.toArray] w' (Dz (fun h v=>v=.int .i64 r) h' w')
theorem Se.mono {h h':Ac} {v:Value} {f:AX→Option Int} (H:Se h v f) (hle:Ac.le h h'):Se h' v f:=fun h2 w2 l=>H h2 w2 (Ac.le_trans hle l)
instance : Rep (AX→Option Int):=⟨1,fun h f cs=>∃ fn first cap,cs=[.func fn first cap]∧Se h (.func fn first cap) f,fun hle ⟨a,b,c,e,hr⟩=>⟨a,b,c,e,hr.mono hle⟩,fun⟨a,b,c,e,_⟩=>by subst e; rfl,fun⟨a,b,c,e,_⟩ v hv=>by subst e; simp at hv; subst hv; rfl⟩
structure D4 where
  tm:AX→Option Int
instance : Rep D4:=Rep.via fun x=>(x.tm)
instance : VRep D4:=VRep.agg D4
structure Bm where
  behind:Int
  last:Int
deriving DecidableEq,Inhabited
instance : Rep Bm:=Rep.via fun x=>(x.behind,x.last)
instance : VRep Bm:=VRep.agg Bm
structure AS where
  many:Int
  tm:Am
deriving DecidableEq,Inhabited
instance : Rep AS:=Rep.via fun x=>(x.many,x.tm)
instance : VRep AS:=VRep.agg AS
instance : KRep Bm:=⟨fun x=>.agg #[.int .i64 x.behind,.int .i64 x.last],fun {a b} h=>by
  rcases a with⟨a0,a1⟩
  rcases b with⟨b0,b1⟩
  simp_all⟩
def Sj (h:Ac) (v:Value) (f:Int→Option Int):Prop:=∀ (h':Ac)(w':World),Ac.le h h'→Dk h' w'→∀ (x0:Int)(r:Int),f x0=some r→Ht Try.prog v #[.int .i64 x0] w' (Dz (fun h v=>v=.int .i64 r) h' w')
theorem Sj.mono {h h':Ac} {v:Value} {f:Int→Option Int} (H:Sj h v f) (hle:Ac.le h h'):Sj h' v f:=fun h2 w2 l=>H h2 w2 (Ac.le_trans hle l)
instance : Rep (Int→Option Int):=⟨1,fun h f cs=>∃ fn first cap,cs=[.func fn first cap]∧Sj h (.func fn first cap) f,fun hle ⟨a,b,c,e,hr⟩=>⟨a,b,c,e,hr.mono hle⟩,fun⟨a,b,c,e,_⟩=>by subst e; rfl,fun⟨a,b,c,e,_⟩ v hv=>by subst e; simp at hv; subst hv; rfl⟩
structure F4 where
  buses:Ap
  down:Ap
deriving DecidableEq,Inhabited
instance : Rep F4:=Rep.via fun x=>(x.buses,x.down)
instance : VRep F4:=VRep.agg F4
instance : KRep F4:=⟨fun x=>.agg #[.bool x.buses.a0,.bool x.buses.a1,.bool x.buses.a2,.bool x.buses.a3,.bool x.buses.a4,.bool x.buses.a5,.bool x.buses.a6,.bool x.buses.a7,.bool x.down.a0,.bool x.down.a1,.bool x.down.a2,.bool x.down.a3,.bool x.down.a4,.bool x.down.a5,.bool x.down.a6,.bool x.down.a7],fun {a b} h=>by
  rcases a with⟨⟨a0,a1,a2,a3,a4,a5,a6,a7⟩,⟨a8,a9,a10,a11,a12,a13,a14,a15⟩⟩
  rcases b with⟨⟨b0,b1,b2,b3,b4,b5,b6,b7⟩,⟨b8,b9,b10,b11,b12,b13,b14,b15⟩⟩
  simp_all⟩
def He (n:Nat) (y:Ak):Option Bool :=
  (bif decide (((y.room.length:Nat):Int)≤6) then
  some (decide (((y.buses.length:Nat):Int)≤12))
  else
  some false)
def Ce (n:Nat) (n_:Int) (low:Int) (high:Int):Option Bool :=
  (bif decide (low≤n_) then
  some (decide (n_≤high))
  else
  some false)
def Ch (n:Nat) (x:Int) (q0:Int→Option Bool):Option Bool :=
  ((q0 x).bind fun x6 =>
  some (!x6))
def AE:Nat→(List Int)→(Int→Option Bool)→Int→Option (Ex Int Unit)
  | 0,_,_,_=>none
  | n+1,s,f,x_v10 =>
    (bif decide (x_v10<((s.length:Nat):Int)) then
    ((By s x_v10).bind fun x14 =>
    ((f x14).bind fun x16 =>
    (bif x16 then
    some (Ex.ret x_v10)
    else
    AE n s f (IntKind.i64.wrap (x_v10+1)))))
    else
    some (Ex.go ()))
def BN (n:Nat) (s:List Int) (f:Int→Option Bool):Option Int :=
  ((AE n s f 0).bind fun o_6=>Ex.bind o_6 (fun r=>some r) fun s_7 =>
  some (-1))
def B0 (n:Nat) (s:List Int) (f:Int→Option Bool):Option Bool :=
  ((BN n s f).bind fun x7 =>
  some (decide (x7≥0)))
def Dv (n:Nat) (l:List Int) (right:Int→Option Bool):Option Bool :=
  ((B0 n l (fun(y0:Int)=>Ch n y0 right)).bind fun x7 =>
  some (!x7))
def BP (n:Nat) (b:AX):Option Bool :=
  ((Ce n b.lo 0 b.hi).bind fun x7 =>
  (bif x7 then
  (bif decide (b.hi≤2000) then
  ((Ce n b.turn 0 2000).bind fun x16 =>
  some x16)
  else
  some false)
  else
  some false))
def Bi (n:Nat) (x:AX) (q0:AX→Option Bool):Option Bool :=
  ((q0 x).bind fun x6 =>
  some (!x6))
def Az:Nat→(List AX)→(AX→Option Bool)→Int→Option (Ex Int Unit)
  | 0,_,_,_=>none
  | n+1,s,f,x_v10 =>
    (bif decide (x_v10<((s.length:Nat):Int)) then
    ((By s x_v10).bind fun x14 =>
    ((f x14).bind fun x16 =>
    (bif x16 then
    some (Ex.ret x_v10)
    else
    Az n s f (IntKind.i64.wrap (x_v10+1)))))
    else
    some (Ex.go ()))
def AR (n:Nat) (s:List AX) (f:AX→Option Bool):Option Int :=
  ((Az n s f 0).bind fun o_6=>Ex.bind o_6 (fun r=>some r) fun s_7 =>
  some (-1))
def AM (n:Nat) (s:List AX) (f:AX→Option Bool):Option Bool :=
  ((AR n s f).bind fun x7 =>
  some (decide (x7≥0)))
def BW (n:Nat) (l:List AX) (right:AX→Option Bool):Option Bool :=
  ((AM n l (fun(y0:AX)=>Bi n y0 right)).bind fun x7 =>
  some (!x7))
def B6 (n:Nat) (n_:Int):Option Bool :=
  ((Ce n n_ 0 8).bind fun x4 =>
  some x4)
def Bp:Nat→Ak→Int→(List (Int×Bool))→Option (Ex Int (List (Int×Bool)))
  | 0,_,_,_=>none
  | n+1,y,x_v10,x_v11 =>
    (bif decide (x_v10<((y.buses.length:Nat):Int)) then
    ((By y.buses x_v10).bind fun x48 =>
    ((some (FA x_v11 x48.turn (false:Bool))).bind fun x53 =>
    (bif x53.1 then
    some (Ex.ret 1)
    else
    Bp n y (IntKind.i64.wrap (x_v10+1)) (GR x_v11 x48.turn true))))
    else
    some (Ex.go x_v11))
def BZ (n:Nat) (y:Ak):Option Int :=
  (((bif decide (((y.room.length:Nat):Int)>3) then
  some true
  else
  some (decide (((y.buses.length:Nat):Int)>8))):Option Bool).bind fun o_16 =>
  (bif o_16 then
  some 3
  else
  (((bif (((y.room.length:Nat):Int) == 0) then
  some true
  else
  ((Ce n y.broken 0 2).bind fun x26 =>
  (bif (!x26) then
  some true
  else
  ((Dv n y.room (fun(y0:Int)=>B6 n y0)).bind fun x33 =>
  (bif (!x33) then
  some true
  else
  ((BW n y.buses (fun(y0:AX)=>BP n y0)).bind fun x39 =>
  some (!x39))))))):Option Bool).bind fun o_35 =>
  (bif o_35 then
  some 1
  else
  ((Bp n y 0 ([]:List (Int×Bool))).bind fun o_115=>Ex.bind o_115 (fun r=>some r) fun s_116 =>
  some 0)))))
def Bd (n:Nat) (s:List Int):Option (List Int) :=
  ((Jc ([]:List Int) s).bind fun x7 =>
  some x7)
def Bq:Nat→(List Int)→(List Int)→Int→Option (Ex Bool (List Int))
  | 0,_,_,_=>none
  | n+1,l,x_v10,x_v11 =>
    (bif decide (x_v11<((l.length:Nat):Int)) then
    ((By l x_v11).bind fun x21 =>
    ((((Ce n x21 0 (IntKind.i64.wrap (((x_v10.length:Nat):Int)-1))).bind fun x27 =>
    (bif (!x27) then
    some true
    else
    ((By x_v10 x21).bind fun x32 =>
    some (x32 == 0)))):Option Bool).bind fun o_78 =>
    (bif o_78 then
    some (Ex.ret false)
    else
    ((By x_v10 x21).bind fun x38 =>
    ((By x_v10 x21).bind fun x41 =>
    ((upd x_v10 x21 (IntKind.i64.wrap (x38-1))).bind fun u_152 =>
    Bq n l u_152 (IntKind.i64.wrap (x_v11+1))))))))
    else
    some (Ex.go x_v10))
def Co (n:Nat) (y:Ak) (l:List Int):Option Bool :=
  (bif (((l.length:Nat):Int) != ((y.buses.length:Nat):Int)) then
  some false
  else
  ((Bd n y.room).bind fun x16 =>
  ((Bq n l x16 0).bind fun o_47=>Ex.bind o_47 (fun r=>some r) fun s_48 =>
  some true)))
def AV:Nat→(List Int)→Int→Int→Option Int
  | 0,_,_,_=>none
  | n+1,x,x_v10,x_v11 =>
    (bif decide (x_v10<((x.length:Nat):Int)) then
    ((By x x_v10).bind fun x21 =>
    AV n x (IntKind.i64.wrap (x_v10+1)) (if x21>x_v11 then x21 else x_v11))
    else
    some x_v11)
def Ci (n:Nat) (x:List Int):Option Int :=
  (bif decide (((x.length:Nat):Int)<1) then
  none
  else
  ((By x 0).bind fun x10 =>
  ((AV n x 1 x10).bind fun o_25 =>
  some o_25)))
def CC (n:Nat) (l:List Int):Option Int :=
  ((Ci n l).bind fun x4 =>
  some x4)
def CQ (n:Nat) (y:Ak) (n_:Int):Option Bool :=
  ((Ce n n_ 0 (IntKind.i64.wrap (((y.buses.length:Nat):Int)-1))).bind fun x10 =>
  some x10)
def AW:Nat→Ak→(List Int)→Int→Int→Am→Ap→Option (Ex (Am×Bool) (Am×Ap))
  | 0,_,_,_,_,_,_=>none
  | n+1,y,order,x_v10,x_v11,x_v12,x_v13 =>
    (bif decide (x_v10<((order.length:Nat):Int)) then
    ((By order x_v10).bind fun x22 =>
    ((((CQ n y x22).bind fun x26 =>
    (bif (!x26) then
    some true
    else
    ((Jo 8 x22).bind fun x30 =>
    ((By x_v13.toL x22).bind fun x31 =>
    (bif x31 then
    some true
    else
    ((By y.buses x22).bind fun x37 =>
    some (decide (x37.hi<x_v11)))))))):Option Bool).bind fun o_73 =>
    (bif o_73 then
    some (Ex.ret (x_v12,false))
    else
    ((Jo 8 x22).bind fun x45 =>
    ((Ap.setI x_v13 x22 true).bind fun u_143 =>
    ((By y.buses x22).bind fun x52 =>
    ((Jo 8 x22).bind fun x57 =>
    ((CC n ([x_v11,x52.lo]:List Int)).bind fun x56 =>
    ((Am.setI x_v12 x22 x_v10).bind fun us0 =>
    AW n y order (IntKind.i64.wrap (x_v10+1)) x56 us0 u_143)))))))))
    else
    some (Ex.go (x_v12,x_v13)))
def Cj (n:Nat) (y:Ak) (order:List Int):Option (Am×Bool) :=
  (bif (((order.length:Nat):Int) != ((y.buses.length:Nat):Int)) then
  some ((Am.mk 0 0 0 0 0 0 0 0),false)
  else
  ((AW n y order 0 0 (Am.mk 0 0 0 0 0 0 0 0) (Ap.mk false false false false false false false false)).bind fun o_40=>Ex.bind o_40 (fun r=>some r) fun s_41 =>
  some (s_41.1,true)))
def B7:Nat→Ak→(List Int)→Int→Int→Ap→Option (Ex (Ap×Bool) Ap)
  | 0,_,_,_,_,_=>none
  | n+1,y,broken,x_v10,x_v11,x_v12 =>
    (bif decide (x_v10<((broken.length:Nat):Int)) then
    ((By broken x_v10).bind fun x13 =>
    ((((CQ n y x13).bind fun x17 =>
    (bif (!x17) then
    some true
    else
    some (decide (x13≤x_v11)))):Option Bool).bind fun o_55 =>
    (bif o_55 then
    some (Ex.ret (x_v12,false))
    else
    ((Jo 8 x13).bind fun x27 =>
    ((Ap.setI x_v12 x13 true).bind fun u_95 =>
    B7 n y broken (IntKind.i64.wrap (x_v10+1)) x13 u_95)))))
    else
    some (Ex.go x_v12))
def Df (n:Nat) (y:Ak) (broken:List Int):Option (Ap×Bool) :=
  ((B7 n y broken 0 (-1) (Ap.mk false false false false false false false false)).bind fun o_24=>Ex.bind o_24 (fun r=>some r) fun s_25 =>
  some (s_25,decide (((broken.length:Nat):Int)≤y.broken)))
def CP (n:Nat) (y:Ak) (lanes:List Int) (order:List Int) (broken:List Int):Option (BJ×Int) :=
  ((BZ n y).bind fun x16 =>
  (bif (x16 != 0) then
  some ((BJ.mk (Ak.mk ([]:List Int) ([]:List AX) 0) ([]:List Int) (Am.mk 0 0 0 0 0 0 0 0) (Ap.mk false false false false false false false false)),x16)
  else
  ((Cj n y order).bind fun x24 =>
  ((Df n y broken).bind fun x30 =>
  (((bif (!x24.2) then
  some true
  else
  (bif (!x30.2) then
  some true
  else
  ((Co n y lanes).bind fun x42 =>
  some (!x42)))):Option Bool).bind fun o_85 =>
  (bif o_85 then
  some ((BJ.mk (Ak.mk ([]:List Int) ([]:List AX) 0) ([]:List Int) (Am.mk 0 0 0 0 0 0 0 0) (Ap.mk false false false false false false false false)),2)
  else
  some ((BJ.mk y lanes x24.1 x30.1),0)))))))
def AK:Nat→(List (List Int))→Int→Int→Option Int
  | 0,_,_,_=>none
  | n+1,slices,x_v10,x_v11 =>
    (bif decide (x_v10<((slices.length:Nat):Int)) then
    ((By slices x_v10).bind fun x13 =>
    (bif decide ((IntKind.i64.wrap (x_v11+((x13.length:Nat):Int)))<0) then
    none
    else
    AK n slices (IntKind.i64.wrap (x_v10+1)) (IntKind.i64.wrap (x_v11+((x13.length:Nat):Int)))))
    else
    some x_v11)
def AL:Nat→(List (List Int))→(List Int)→Int→Option (List Int)
  | 0,_,_,_=>none
  | n+1,slices,x_v20,x_v21 =>
    (bif decide (x_v21<((slices.length:Nat):Int)) then
    ((By slices x_v21).bind fun x29 =>
    ((Jc x_v20 x29).bind fun x33 =>
    AL n slices x33 (IntKind.i64.wrap (x_v21+1))))
    else
    some x_v20)
def Bk (n:Nat) (slices:List (List Int)):Option (List Int) :=
  ((AK n slices 0 0).bind fun o_8 =>
  ((PE o_8).bind fun x24 =>
  ((AL n slices ([]:List Int) 0).bind fun o_75 =>
  some o_75)))
def Aw:Nat→Int→(Int→Int→Option Int)→(List Int)→Int→Option (List Int)
  | 0,_,_,_,_=>none
  | n+1,a,cmp,x_v20,x_v21 =>
    (((bif decide (x_v21>a) then
    ((By x_v20 x_v21).bind fun x25 =>
    ((By x_v20 (IntKind.i64.wrap (x_v21-1))).bind fun x30 =>
    ((cmp x25 x30).bind fun x32 =>
    some (decide (x32<0)))))
    else
    some false):Option Bool).bind fun o_48 =>
    (bif o_48 then
    ((By x_v20 (IntKind.i64.wrap (x_v21-1))).bind fun x45 =>
    ((By x_v20 x_v21).bind fun x49 =>
    ((By x_v20 x_v21).bind fun x51 =>
    ((upd x_v20 x_v21 x45).bind fun u_155 =>
    ((By u_155 (IntKind.i64.wrap (x_v21-1))).bind fun x52 =>
    ((upd u_155 (IntKind.i64.wrap (x_v21-1)) x49).bind fun u_178 =>
    Aw n a cmp u_178 (IntKind.i64.wrap (x_v21-1))))))))
    else
    some x_v20))
def Ax:Nat→Int→Int→(Int→Int→Option Int)→(List Int)→Int→Option (List Int)
  | 0,_,_,_,_,_=>none
  | n+1,a,b,cmp,x_v10,x_v11 =>
    (bif decide (x_v11<b) then
    ((Aw n a cmp x_v10 x_v11).bind fun o_35 =>
    Ax n a b cmp o_35 (IntKind.i64.wrap (x_v11+1)))
    else
    some x_v10)
def AO (n:Nat) (data:List Int) (a:Int) (b:Int) (cmp:Int→Int→Option Int):Option (List Int) :=
  ((Ax n a b cmp data (IntKind.i64.wrap (a+1))).bind fun o_10 =>
  some o_10)
def E3 (n:Nat) (x:IK .u64):Option Int:=if 0≤x.n∧x.n≤18446744073709551615 then some (Lib.bitLen x.n.toNat:Nat) else none
def AT:Nat→(List Int)→Int→Int→Int→(Int→Int→Option Int)→Option (Ex (List Int) Unit)
  | 0,_,_,_,_,_=>none
  | n+1,data,a,b,limit,cmp =>
    (bif decide ((IntKind.i64.wrap (b-a))≤12) then
    ((AO n data a b cmp).bind fun x30 =>
    some (Ex.ret x30))
    else
    (bif (limit == 0) then
    none
    else
    (bif (!true) then
    none
    else
    none)))
def AQ:Nat→(List Int)→Int→Int→Int→(Int→Int→Option Int)→Option (List Int)
  | 0,_,_,_,_,_=>none
  | n+1,data,a,b,limit,cmp =>
    ((AT n data a b limit cmp ).bind fun o_6=>Ex.bind o_6 (fun r=>some r) fun s_7 =>
    some data)
def AA (n:Nat) (x:List Int) (cmp:Int→Int→Option Int):Option (List Int) :=
  ((E3 n (IK.mk (IntKind.u64.wrap ((x.length:Nat):Int)))).bind fun x11 =>
  ((AQ n x 0 ((x.length:Nat):Int) x11 cmp).bind fun x13 =>
  some x13))
def Bj (n:Nat) (a:Int) (b:Int) (q0:Ak):Option Int :=
  ((By q0.buses a).bind fun x9 =>
  ((By q0.buses b).bind fun x15 =>
  some (IntKind.i64.wrap (x9.turn-x15.turn))))
def AG {σ:Type}:Nat→(σ→Int→Option (σ×Bool))→(List Int)→Int→σ→Option (Ex σ σ)
  | 0,_,_,_,_=>none
  | n+1,yield_,q0,x_v10,x_v11 =>
    (bif decide (x_v10<((q0.length:Nat):Int)) then
    ((By q0 x_v10).bind fun x9 =>
    ((yield_ x_v11 x9).bind fun x13 =>
    (bif (!x13.2) then
    some (Ex.ret x13.1)
    else
    AG n yield_ q0 (IntKind.i64.wrap (x_v10+1)) x13.1)))
    else
    some (Ex.go x_v11))
def Bb {σ:Type} (n:Nat) (yield_:σ→Int→Option (σ×Bool)) (s:σ) (q0:List Int):Option σ :=
  ((AG n yield_ q0 0 s).bind fun o_13=>Ex.bind o_13 (fun r=>some r) fun s_14 =>
  some s_14)
def CT (n:Nat) (s:List Int):Option ((List Int)) :=
  some (s)
def Be:Nat→Ak→Ap→(List Int)→Int→Option (List Int)
  | 0,_,_,_,_=>none
  | n+1,y,broken,x_v10,x_v11 =>
    (bif decide (x_v11<((y.buses.length:Nat):Int)) then
    ((Jo 8 x_v11).bind fun x14 =>
    ((By broken.toL x_v11).bind fun x15 =>
    (bif (!x15) then
    ((Jc x_v10 ([x_v11]:List Int)).bind fun x20 =>
    Be n y broken x20 (IntKind.i64.wrap (x_v11+1)))
    else
    Be n y broken x_v10 (IntKind.i64.wrap (x_v11+1)))))
    else
    some x_v10)
def Cp (n:Nat) (y:Ak) (broken:Ap):Option ((List Int)) :=
  ((Be n y broken ([]:List Int) 0).bind fun o_34 =>
  ((AA n o_34 (fun(y0:Int)(y1:Int)=>Bj n y0 y1 y)).bind fun x24 =>
  ((CT n x24).bind fun x26 =>
  some (x26))))
def BX (n:Nat) (n_:BJ) (b:Int) (c:Int):Option Bool :=
  ((By n_.lane b).bind fun x10 =>
  ((By n_.lane c).bind fun x15 =>
  (bif (x10 == x15) then
  ((Jo 8 b).bind fun x21 =>
  ((By n_.tm.toL b).bind fun x22 =>
  ((Jo 8 c).bind fun x25 =>
  ((By n_.tm.toL c).bind fun x26 =>
  some (decide (x22<x26))))))
  else
  some false)))
def AF (n:Nat) (c:Int) (d:Int) (q0:BJ):Option Int :=
  ((Jo 8 c).bind fun x8 =>
  ((By q0.tm.toL c).bind fun x9 =>
  ((Jo 8 d).bind fun x12 =>
  ((By q0.tm.toL d).bind fun x13 =>
  some (IntKind.i64.wrap (x9-x13))))))
def AB:Nat→BJ→Int→(List Int)→Int→Ap→Option ((List Int)×Ap)
  | 0,_,_,_,_,_=>none
  | n+1,n_,x15,x_v10,x_v11,x_v12 =>
    (bif decide (x_v11<((n_.yard.buses.length:Nat):Int)) then
    ((((Jo 8 x_v11).bind fun x24 =>
    ((By x_v12.toL x_v11).bind fun x25 =>
    (bif (!x25) then
    (((fun(y0:Int)(y1:Int)=>BX n n_ y0 y1) x_v11 x15).bind fun x31 =>
    some x31)
    else
    some false))):Option Bool).bind fun o_122 =>
    (bif o_122 then
    ((Jc x_v10 ([x_v11]:List Int)).bind fun x36 =>
    ((Jo 8 x_v11).bind fun x38 =>
    ((Ap.setI x_v12 x_v11 true).bind fun u_186 =>
    AB n n_ x15 x36 (IntKind.i64.wrap (x_v11+1)) u_186)))
    else
    AB n n_ x15 x_v10 (IntKind.i64.wrap (x_v11+1)) x_v12))
    else
    some (x_v10,x_v12))
def BG (n:Nat) (n_:BJ):Option (List (List Int)) :=
  ((Cp n n_.yard n_.broken).bind fun x14 =>
  ((Bb n (fun(s:(List (List Int))×Ap)(x15:Int)=>((((AB n n_ x15 ([]:List Int) 0 s.2).bind fun o_104 =>
  ((AA n o_104.1 (fun(y0:Int)(y1:Int)=>AF n y0 y1 n_)).bind fun x42 =>
  ((Jo 8 x15).bind fun x44 =>
  ((Ap.setI o_104.2 x15 true).bind fun u_233 =>
  ((Jc s.1 ([x42]:List (List Int))).bind fun x48 =>
  some (x48,u_233)))))):Option ((List (List Int))×Ap)).bind fun s1=>some (s1,true))) (([]:List (List Int)),(Ap.mk false false false false false false false false)) x14).bind fun o_65 =>
  some o_65.1))
def Ct (n:Nat) (y:Ak) (lanes:List Int) (order:List Int) (broken:List Int):Option ((List Int)×Int) :=
  ((CP n y lanes order broken).bind fun x18 =>
  (bif (x18.2 != 0) then
  some (([]:List Int),x18.2)
  else
  ((BG n x18.1).bind fun x25 =>
  ((Bk n x25).bind fun x26 =>
  ((LO x26).bind fun u_80 =>
  some (u_80,0))))))
def Br:Nat→Ak→(List Int)→Ap→(List A8)→Int→Option (List A8)
  | 0,_,_,_,_,_=>none
  | n+1,y,lanes,broken,x_v10,x_v11 =>
    (bif decide (x_v11<((y.buses.length:Nat):Int)) then
    ((Jo 8 x_v11).bind fun x50 =>
    ((By broken.toL x_v11).bind fun x51 =>
    (bif x51 then
    ((By lanes x_v11).bind fun x55 =>
    ((By x_v10 x55).bind fun x57 =>
    ((Jc x57.buses ([x_v11]:List Int)).bind fun x65 =>
    ((upd x_v10 x55 ({ x57 with buses:=x65 }:A8)).bind fun u_307 =>
    Br n y lanes broken u_307 (IntKind.i64.wrap (x_v11+1))))))
    else
    Br n y lanes broken x_v10 (IntKind.i64.wrap (x_v11+1)))))
    else
    some x_v10)
def CZ (n:Nat) (y:Ak) (lanes:List Int) (broken:Ap):Option (List A8) :=
  ((mk ((y.room.length:Nat):Int) ((A8.mk ([]:List Int) 0):A8)).bind fun x15 =>
  ((Cp n y broken).bind fun x18 =>
  ((Bb n (fun(s:List A8)(x19:Int)=>((((By lanes x19).bind fun x23 =>
  ((By s x23).bind fun x25 =>
  ((Jc x25.buses ([x19]:List Int)).bind fun x33 =>
  ((upd s x23 ({ x25 with buses:=x33 }:A8)).bind fun u_144 =>
  ((upd u_144 x23 ({ ({ x25 with buses:=x33 }:A8) with down:=IntKind.i64.wrap (x25.down+1) }:A8)).bind fun u_169 =>
  some u_169))))):Option (List A8)).bind fun s1=>some (s1,true))) x15 x18).bind fun o_65 =>
  ((Br n y lanes broken o_65 0).bind fun o_223 =>
  some o_223))))
mutual
def BE:Nat→Ap→Int→Ak→(List Ap)→Int→Option (List Ap)
  | 0,_,_,_,_,_=>none
  | n+1,s_,more,y,x_v10,x_v11 =>
    (((bif decide (x_v11<((y.buses.length:Nat):Int)) then
    some (decide (more>0))
    else
    some false):Option Bool).bind fun o_61 =>
    (bif o_61 then
    ((Jo 8 x_v11).bind fun x29 =>
    ((Ap.setI s_ x_v11 true).bind fun u_95 =>
    ((lane_Yard_breaks_1 n u_95 (IntKind.i64.wrap (x_v11+1)) (IntKind.i64.wrap (more-1)) x_v10 y).bind fun x36 =>
    BE n s_ more y x36 (IntKind.i64.wrap (x_v11+1)))))
    else
    some x_v10))
def lane_Yard_breaks_1:Nat→Ap→Int→Int→(List Ap)→Ak→Option (List Ap)
  | 0,_,_,_,_,_=>none
  | n+1,s_,from_,more,out,y =>
    ((Jc out ([s_]:List Ap)).bind fun x14 =>
    ((BE n s_ more y x14 from_).bind fun o_48 =>
    some o_48))
end
def Dw (n:Nat) (y:Ak):Option (List Ap) :=
  ((lane_Yard_breaks_1 n (Ap.mk false false false false false false false false) 0 y.broken ([]:List Ap) y).bind fun x9 =>
  some x9)
def Ck (n:Nat) (b:AX):Option Int :=
  some b.lo
def Cw (n:Nat) (b:AX):Option Int :=
  some b.hi
def JB (n:Nat)  : Option (List D4) :=
  some ([(D4.mk (fun(y0:AX)=>Ck n y0)),(D4.mk (fun(y0:AX)=>Cw n y0))]:List D4)
mutual
def Bs:Nat→Bm→A8→Ak→Int→(List D4)→Int→Am→Int→(List (Bm×AS))→Option (Am×Int×(List (Bm×AS)))
  | 0,_,_,_,_,_,_,_,_,_=>none
  | n+1,s_,c,y,x35,x37,x_v10,x_v11,x_v12,x_v13 =>
    (bif decide (x_v10<((x37.length:Nat):Int)) then
    ((By x37 x_v10).bind fun x42 =>
    ((By y.buses x35).bind fun x49 =>
    ((x42.tm x49).bind fun x51 =>
    (((bif decide (s_.behind<c.down) then
    ((CC n ([s_.last,x51]:List Int)).bind fun x67 =>
    some x67)
    else
    some s_.last):Option Int).bind fun o_184 =>
    ((lane_Yard_worst_1 n (Bm.mk (IntKind.i64.wrap (s_.behind+1)) o_184) c x_v13 y).bind fun x71 =>
    (((bif decide (x51≤s_.last) then
    some (IntKind.i64.wrap (x71.1.many+1))
    else
    some x71.1.many):Option Int).bind fun o_249 =>
    (((bif (x_v10 == 0) then
    some true
    else
    some (decide (o_249>x_v12))):Option Bool).bind fun o_263 =>
    (bif o_263 then
    ((Jo 8 x35).bind fun x93 =>
    ((Am.setI x71.1.tm x35 x51).bind fun u_292 =>
    Bs n s_ c y x35 x37 (IntKind.i64.wrap (x_v10+1)) u_292 o_249 x71.2))
    else
    Bs n s_ c y x35 x37 (IntKind.i64.wrap (x_v10+1)) x_v11 x_v12 x71.2))))))))
    else
    some (x_v11,x_v12,x_v13))
def lane_Yard_worst_1:Nat→Bm→A8→(List (Bm×AS))→Ak→Option (AS×(List (Bm×AS)))
  | 0,_,_,_,_=>none
  | n+1,s_,c,known,y =>
    (bif (s_.behind == ((c.buses.length:Nat):Int)) then
    some ((AS.mk 0 (Am.mk 0 0 0 0 0 0 0 0)),known)
    else
    ((some (FA known s_ ((AS.mk 0 (Am.mk 0 0 0 0 0 0 0 0)):AS))).bind fun x26 =>
    (bif x26.2 then
    some (x26.1,known)
    else
    ((By c.buses s_.behind).bind fun x35 =>
    ((JB n ).bind fun x37 =>
    ((Bs n s_ c y x35 x37 0 (Am.mk 0 0 0 0 0 0 0 0) 0 known).bind fun o_98 =>
    some ((AS.mk o_98.2.1 o_98.1),(GR o_98.2.2 s_ (AS.mk o_98.2.1 o_98.1)))))))))
end
def DJ (n:Nat) (y:Ak) (c:A8):Option AS :=
  ((lane_Yard_worst_1 n (Bm.mk 0 (-1)) c ([]:List (Bm×AS)) y).bind fun x11 =>
  some x11.1)
def BQ:Nat→A8→AS→Int→Am→Option Am
  | 0,_,_,_,_=>none
  | n+1,x30,x34,x_v30,x_v31 =>
    (bif decide (x_v30<((x30.buses.length:Nat):Int)) then
    ((By x30.buses x_v30).bind fun x44 =>
    ((Jo 8 x44).bind fun x49 =>
    ((By x34.tm.toL x44).bind fun x50 =>
    ((Jo 8 x44).bind fun x51 =>
    ((Am.setI x_v31 x44 x50).bind fun u_213 =>
    BQ n x30 x34 (IntKind.i64.wrap (x_v30+1)) u_213)))))
    else
    some x_v31)
def BR:Nat→Ak→(List A8)→Int→Int→Am→Option (Int×Am)
  | 0,_,_,_,_,_=>none
  | n+1,y,x26,x_v20,x_v21,x_v22 =>
    (bif decide (x_v20<((x26.length:Nat):Int)) then
    ((By x26 x_v20).bind fun x30 =>
    ((DJ n y x30).bind fun x34 =>
    ((BQ n x30 x34 0 x_v22).bind fun o_170 =>
    BR n y x26 (IntKind.i64.wrap (x_v20+1)) (IntKind.i64.wrap (x_v21+x34.many)) o_170)))
    else
    some (x_v21,x_v22))
def Bt:Nat→Ak→(List Int)→(List Ap)→Int→Int→Am→Ap→Option (Int×Am×Ap)
  | 0,_,_,_,_,_,_,_=>none
  | n+1,y,lanes,x17,x_v10,x_v11,x_v12,x_v13 =>
    (bif decide (x_v10<((x17.length:Nat):Int)) then
    ((By x17 x_v10).bind fun x21 =>
    ((CZ n y lanes x21).bind fun x26 =>
    ((BR n y x26 0 0 (Am.mk 0 0 0 0 0 0 0 0)).bind fun o_104 =>
    (bif decide (o_104.1>x_v11) then
    Bt n y lanes x17 (IntKind.i64.wrap (x_v10+1)) o_104.1 o_104.2 x21
    else
    Bt n y lanes x17 (IntKind.i64.wrap (x_v10+1)) x_v11 x_v12 x_v13))))
    else
    some (x_v11,x_v12,x_v13))
def Ee (n:Nat) (y:Ak) (lanes:List Int):Option (Am×Ap×Int) :=
  ((Dw n y).bind fun x17 =>
  ((Bt n y lanes x17 0 (-1) (Am.mk 0 0 0 0 0 0 0 0) (Ap.mk false false false false false false false false)).bind fun o_42 =>
  some (o_42.2.1,o_42.2.2,o_42.1)))
def Cc (n:Nat) (b:Int) (q0:Ap) (q1:Ak):Option Int :=
  ((Jo 8 b).bind fun x6 =>
  ((By q0.toL b).bind fun x7 =>
  (bif x7 then
  some 2001
  else
  ((By q1.buses b).bind fun x11 =>
  some x11.turn))))
def DD:Nat→(List Int)→Int→Option (Ex Int Unit)
  | 0,_,_=>none
  | n+1,vals,x_v10 =>
    (bif decide (x_v10<((vals.length:Nat):Int)) then
    ((By vals x_v10).bind fun x10 =>
    (bif (x10 != 0) then
    some (Ex.ret x10)
    else
    DD n vals (IntKind.i64.wrap (x_v10+1))))
    else
    some (Ex.go ()))
def Iz (n:Nat) (vals:List Int):Option Int :=
  ((DD n vals 0).bind fun o_8=>Ex.bind o_8 (fun r=>some r) fun s_9 =>
  some 0)
def Ef (n:Nat) (a:Int) (b:Int) (q0:Am) (q1:Int→Option Int):Option Int :=
  ((Jo 8 a).bind fun x8 =>
  ((By q0.toL a).bind fun x9 =>
  ((Jo 8 b).bind fun x11 =>
  ((By q0.toL b).bind fun x12 =>
  ((q1 b).bind fun x16 =>
  ((q1 a).bind fun x19 =>
  ((Iz n ([IntKind.i64.wrap (x9-x12),IntKind.i64.wrap (x16-x19),IntKind.i64.wrap (a-b)]:List Int)).bind fun x25 =>
  some x25)))))))
def CR:Nat→Ak→(Am×Ap×Int)→(List Int)→(List Int)→Int→Option ((List Int)×(List Int))
  | 0,_,_,_,_,_=>none
  | n+1,y,x25,x_v10,x_v11,x_v12 =>
    (bif decide (x_v12<((y.buses.length:Nat):Int)) then
    ((Jc x_v10 ([x_v12]:List Int)).bind fun x38 =>
    ((Jo 8 x_v12).bind fun x40 =>
    ((By x25.2.1.toL x_v12).bind fun x41 =>
    (bif x41 then
    ((Jc x_v11 ([x_v12]:List Int)).bind fun x45 =>
    CR n y x25 x38 x45 (IntKind.i64.wrap (x_v12+1)))
    else
    CR n y x25 x38 x_v11 (IntKind.i64.wrap (x_v12+1))))))
    else
    some (x_v10,x_v11))
def I0 (n:Nat) (y:Ak) (lanes:List Int):Option ((List Int)×(List Int)×Int×Int) :=
  ((BZ n y).bind fun x14 =>
  (bif (x14 != 0) then
  some (([]:List Int),([]:List Int),0,x14)
  else
  ((Co n y lanes).bind fun x20 =>
  (bif (!x20) then
  some (([]:List Int),([]:List Int),0,2)
  else
  ((Ee n y lanes).bind fun x25 =>
  ((CR n y x25 ([]:List Int) ([]:List Int) 0).bind fun o_99 =>
  ((AA n o_99.1 (fun(y0:Int)(y1:Int)=>Ef n y0 y1 x25.1 (fun(y0:Int)=>Cc n y0 x25.2.1 y))).bind fun x50 =>
  some (x50,o_99.2,x25.2.2,0))))))))
def Dg:Nat→A8→Int→Ap→Ap→Option (Ap×Ap)
  | 0,_,_,_,_=>none
  | n+1,x31,x_v30,x_v31,x_v32 =>
    (bif decide (x_v30<((x31.buses.length:Nat):Int)) then
    ((By x31.buses x_v30).bind fun x39 =>
    ((Jo 8 x39).bind fun x48 =>
    ((Ap.setI x_v31 x39 true).bind fun us0 =>
    ((Jo 8 x39).bind fun x50 =>
    ((Ap.setI x_v32 x39 (decide (x_v30≥x31.down))).bind fun us1 =>
    Dg n x31 (IntKind.i64.wrap (x_v30+1)) us0 us1)))))
    else
    some (x_v31,x_v32))
def C5:Nat→Int→Ak→(List A8)→Int→Int→(List (F4×Int))→Option (Int×(List (F4×Int)))
  | 0,_,_,_,_,_,_=>none
  | n+1,many,y,x27,x_v20,x_v21,x_v22 =>
    (bif decide (x_v20<((x27.length:Nat):Int)) then
    ((By x27 x_v20).bind fun x31 =>
    ((Dg n x31 0 (Ap.mk false false false false false false false false) (Ap.mk false false false false false false false false)).bind fun o_134 =>
    ((some (FA x_v22 (F4.mk o_134.1 o_134.2) (0:Int))).bind fun x55 =>
    (bif (!x55.2) then
    ((DJ n y x31).bind fun x64 =>
    ((some (FA (GR x_v22 (F4.mk o_134.1 o_134.2) x64.many) (F4.mk o_134.1 o_134.2) (0:Int))).bind fun x69 =>
    C5 n many y x27 (IntKind.i64.wrap (x_v20+1)) (IntKind.i64.wrap (x_v21+x69.1)) (GR x_v22 (F4.mk o_134.1 o_134.2) x64.many)))
    else
    ((some (FA x_v22 (F4.mk o_134.1 o_134.2) (0:Int))).bind fun x69 =>
    C5 n many y x27 (IntKind.i64.wrap (x_v20+1)) (IntKind.i64.wrap (x_v21+x69.1)) x_v22)))))
    else
    some (x_v21,x_v22))
def C6:Nat→(List Int)→Bool→Int→(List Ap)→Ak→Int→Int→(List (F4×Int))→Option (Int×(List (F4×Int)))
  | 0,_,_,_,_,_,_,_,_=>none
  | n+1,l,found,many,breaks,y,x_v10,x_v11,x_v12 =>
    (bif decide (x_v10<((breaks.length:Nat):Int)) then
    ((By breaks x_v10).bind fun x22 =>
    ((CZ n y l x22).bind fun x27 =>
    ((C5 n many y x27 0 0 x_v12).bind fun o_84 =>
    ((CC n ([x_v11,o_84.1]:List Int)).bind fun x75 =>
    (bif found then
    (bif decide (x75≥many) then
    some (x75,o_84.2)
    else
    C6 n l found many breaks y (IntKind.i64.wrap (x_v10+1)) x75 o_84.2)
    else
    C6 n l found many breaks y (IntKind.i64.wrap (x_v10+1)) x75 o_84.2)))))
    else
    some (x_v11,x_v12))
def Hf (n:Nat) (l:List Int) (found:Bool) (many:Int) (breaks:List Ap) (y:Ak) (known:List (F4×Int)):Option (Int×(List (F4×Int))) :=
  ((C6 n l found many breaks y 0 0 known).bind fun o_21 =>
  some (o_21.1,o_21.2))
mutual
def C7:Nat→(List Int)→(List Int)→Ak→(List Ap)→(List Int)→Int→Bool→Int→(List Int)→(List (F4×Int))→Option ((List Int)×Bool×Int×(List Int)×(List (F4×Int)))
  | 0,_,_,_,_,_,_,_,_,_,_=>none
  | n+1,l,room,y,breaks,x_v10,x_v11,x_v12,x_v13,x_v14,x_v15 =>
    (bif decide (x_v11<((room.length:Nat):Int)) then
    ((By x_v10 x_v11).bind fun x37 =>
    (bif decide (x37>0) then
    ((By x_v10 x_v11).bind fun x42 =>
    ((By x_v10 x_v11).bind fun x45 =>
    ((upd x_v10 x_v11 (IntKind.i64.wrap (x42-1))).bind fun u_235 =>
    ((Jc l ([x_v11]:List Int)).bind fun x50 =>
    ((lane_Best_2 n x50 x_v12 x_v13 x_v14 u_235 y breaks x_v15).bind fun x51 =>
    ((By x51.2.2.2.1 x_v11).bind fun x54 =>
    ((By x51.2.2.2.1 x_v11).bind fun x57 =>
    ((upd x51.2.2.2.1 x_v11 (IntKind.i64.wrap (x54+1))).bind fun u_331 =>
    C7 n l room y breaks u_331 (IntKind.i64.wrap (x_v11+1)) x51.1 x51.2.1 x51.2.2.1 x51.2.2.2.2))))))))
    else
    C7 n l room y breaks x_v10 (IntKind.i64.wrap (x_v11+1)) x_v12 x_v13 x_v14 x_v15))
    else
    some (x_v10,x_v12,x_v13,x_v14,x_v15))
def lane_Best_2:Nat→(List Int)→Bool→Int→(List Int)→(List Int)→Ak→(List Ap)→(List (F4×Int))→Option (Bool×Int×(List Int)×(List Int)×(List (F4×Int)))
  | 0,_,_,_,_,_,_,_,_=>none
  | n+1,l,found,many,best,room,y,breaks,known =>
    (bif (((l.length:Nat):Int) == ((y.buses.length:Nat):Int)) then
    ((Hf n l found many breaks y known).bind fun x19 =>
    (((bif (!found) then
    some true
    else
    some (decide (x19.1<many))):Option Bool).bind fun o_63 =>
    (((bif o_63 then
    ((Bd n l).bind fun x28 =>
    some (true,x19.1,x28))
    else
    some (found,many,best)):Option (Bool×Int×(List Int))).bind fun o_79 =>
    some (o_79.1,o_79.2.1,o_79.2.2,room,x19.2))))
    else
    ((C7 n l room y breaks room 0 found many best known).bind fun o_166 =>
    some (o_166.2.1,o_166.2.2.1,o_166.2.2.2.1,o_166.1,o_166.2.2.2.2)))
end
def JC (n:Nat) (y:Ak):Option ((List Int)×Int×Int) :=
  ((BZ n y).bind fun x14 =>
  (bif (x14 != 0) then
  some (([]:List Int),0,x14)
  else
  ((Dw n y).bind fun x19 =>
  ((Bd n y.room).bind fun x22 =>
  ((lane_Best_2 n ([]:List Int) false 0 ([]:List Int) x22 y x19 ([]:List (F4×Int))).bind fun x27 =>
  (bif (!x27.1) then
  some (([]:List Int),0,9)
  else
  some (x27.2.2.1,x27.2.1,0)))))))
def FU (n:Nat)  : Option Ak :=
  some (Ak.mk ([2,2]:List Int) ([AX.mk 100 120 40,AX.mk 110 130 20,AX.mk 125 140 30,AX.mk 150 160 10]:List AX) 0)
def E8:Nat→(List Int)→(List Int)→Int→Option (Ex Bool Unit)
  | 0,_,_,_=>none
  | n+1,a,b,x_v10 =>
    (bif decide (x_v10<((a.length:Nat):Int)) then
    ((By a x_v10).bind fun x19 =>
    ((By b x_v10).bind fun x23 =>
    (bif (x19 != x23) then
    some (Ex.ret false)
    else
    E8 n a b (IntKind.i64.wrap (x_v10+1)))))
    else
    some (Ex.go ()))
def IU (n:Nat) (a:List Int) (b:List Int):Option Bool :=
  (bif (((a.length:Nat):Int) != ((b.length:Nat):Int)) then
  some false
  else
  ((E8 n a b 0).bind fun o_11=>Ex.bind o_11 (fun r=>some r) fun s_12 =>
  some true))
def Fe (n:Nat)  : Option Bool :=
  ((FU n ).bind fun x11 =>
  ((Ct n x11 ([0,0,1,1]:List Int) ([0,1,2,3]:List Int) ([]:List Int)).bind fun x14 =>
  ((FU n ).bind fun x18 =>
  ((I0 n x18 ([0,1,1,0]:List Int)).bind fun x20 =>
  ((FU n ).bind fun x26 =>
  ((JC n x26).bind fun x27 =>
  (bif (x14.2 == 0) then
  ((IU n x14.1 ([0,2]:List Int)).bind fun x36 =>
  (bif x36 then
  (bif (x20.2.2.2 == 0) then
  (bif (x20.2.2.1 == 2) then
  (bif (x27.2.2 == 0) then
  (bif (x27.2.1 == 2) then
  ((IU n x27.1 ([0,0,1,1]:List Int)).bind fun x57 =>
  some x57)
  else
  some false)
  else
  some false)
  else
  some false)
  else
  some false)
  else
  some false))
  else
  some false)))))))
def E9 (n:Nat) (l:List Int):Option (List Int) :=
  ((Jc ([]:List Int) l).bind fun x4 =>
  some x4)
def Dh:Nat→Ak→(List AX)→Int→Option (List AX)
  | 0,_,_,_=>none
  | n+1,y,x_v10,x_v11 =>
    (bif decide (x_v11<((y.buses.length:Nat):Int)) then
    ((By y.buses x_v11).bind fun x22 =>
    ((Jc x_v10 ([x22]:List AX)).bind fun x34 =>
    Dh n y x34 (IntKind.i64.wrap (x_v11+1))))
    else
    some x_v10)
def FV (n:Nat) (y:Ak):Option Ak :=
  ((E9 n y.room).bind fun x8 =>
  ((Dh n y ([]:List AX) 0).bind fun o_50 =>
  some (Ak.mk x8 o_50 y.broken)))
def G0 (n:Nat) (n_:Int) (low:Int) (high:Int):Option Bool :=
  (bif decide (n_≥low) then
  some (decide (n_≤high))
  else
  some false)
def CG:Nat→Ak→Int→Option (Ex Int Unit)
  | 0,_,_=>none
  | n+1,y,x_v10 =>
    (bif decide (x_v10<((y.room.length:Nat):Int)) then
    ((By y.room x_v10).bind fun x37 =>
    ((G0 n x37 0 8).bind fun x39 =>
    (bif (!x39) then
    some (Ex.ret 1)
    else
    CG n y (IntKind.i64.wrap (x_v10+1)))))
    else
    some (Ex.go ()))
def CH:Nat→Ak→Int→AX→Int→Option (Ex Int Unit)
  | 0,_,_,_,_=>none
  | n+1,y,x_v20,x51,x_v30 =>
    (bif decide (x_v30<x_v20) then
    ((By y.buses x_v30).bind fun x78 =>
    (bif (x78.turn == x51.turn) then
    some (Ex.ret 1)
    else
    CH n y x_v20 x51 (IntKind.i64.wrap (x_v30+1))))
    else
    some (Ex.go ()))
def CI:Nat→Ak→Int→Option (Ex Int Unit)
  | 0,_,_=>none
  | n+1,y,x_v20 =>
    (bif decide (x_v20<((y.buses.length:Nat):Int)) then
    ((By y.buses x_v20).bind fun x51 =>
    ((((G0 n x51.lo 0 x51.hi).bind fun x57 =>
    (bif (!x57) then
    some true
    else
    (bif decide (x51.hi>2000) then
    some true
    else
    ((G0 n x51.turn 0 2000).bind fun x67 =>
    some (!x67))))):Option Bool).bind fun o_162 =>
    (bif o_162 then
    some (Ex.ret 1)
    else
    ((CH n y x_v20 x51 0).bind fun o_211=>Ex.bind o_211 (fun r=>some (Ex.ret r)) fun s_212 =>
    CI n y (IntKind.i64.wrap (x_v20+1))))))
    else
    some (Ex.go ()))
def FW (n:Nat) (y:Ak):Option Int :=
  (((bif decide (((y.room.length:Nat):Int)>3) then
  some true
  else
  some (decide (((y.buses.length:Nat):Int)>8))):Option Bool).bind fun o_14 =>
  (bif o_14 then
  some 3
  else
  (((bif decide (((y.room.length:Nat):Int)<1) then
  some true
  else
  ((G0 n y.broken 0 2).bind fun x24 =>
  some (!x24))):Option Bool).bind fun o_33 =>
  (bif o_33 then
  some 1
  else
  ((CG n y 0).bind fun o_65=>Ex.bind o_65 (fun r=>some r) fun s_66 =>
  ((CI n y 0).bind fun o_120=>Ex.bind o_120 (fun r=>some r) fun s_121 =>
  some 0))))))
def FX (n:Nat) (y:Ak):Option Bool :=
  ((He n y).bind fun x4 =>
  (bif x4 then
  ((FW n y).bind fun x7 =>
  some (x7 == 0))
  else
  some false))
def EA (n:Nat) (words:List (IK .u16)) (at_:Int):Option Int :=
  (bif (((words.length:Nat):Int) == 0) then
  some 0
  else
  ((nz ((words.length:Nat):Int)).bind fun x12 =>
  ((By words (Int.tmod at_ ((words.length:Nat):Int))).bind fun x13 =>
  some (IntKind.i64.wrap x13.n))))
def CD:Nat→(List Int)→(List Int)→Int→Option ((List Int)×(List Int))
  | 0,_,_,_=>none
  | n+1,x_v20,x_v21,x_v22 =>
    (((bif decide (x_v22>0) then
    ((By x_v21 x_v22).bind fun x71 =>
    ((By x_v21 (IntKind.i64.wrap (x_v22-1))).bind fun x76 =>
    some (decide (x71<x76))))
    else
    some false):Option Bool).bind fun o_201 =>
    (bif o_201 then
    ((By x_v20 (IntKind.i64.wrap (x_v22-1))).bind fun x90 =>
    ((By x_v20 x_v22).bind fun x94 =>
    ((By x_v20 x_v22).bind fun x96 =>
    ((upd x_v20 x_v22 x90).bind fun u_293 =>
    ((By u_293 (IntKind.i64.wrap (x_v22-1))).bind fun x97 =>
    ((upd u_293 (IntKind.i64.wrap (x_v22-1)) x94).bind fun u_317 =>
    ((By x_v21 (IntKind.i64.wrap (x_v22-1))).bind fun x106 =>
    ((By x_v21 x_v22).bind fun x110 =>
    ((By x_v21 x_v22).bind fun x112 =>
    ((upd x_v21 x_v22 x106).bind fun u_374 =>
    ((By u_374 (IntKind.i64.wrap (x_v22-1))).bind fun x113 =>
    ((upd u_374 (IntKind.i64.wrap (x_v22-1)) x110).bind fun u_398 =>
    CD n  u_317 u_398 (IntKind.i64.wrap (x_v22-1))))))))))))))
    else
    some (x_v20,x_v21)))
def Di:Nat→Ak→(List (IK .u16))→(List Int)→(List Int)→Int→Option ((List Int)×(List Int))
  | 0,_,_,_,_,_=>none
  | n+1,y,words,x_v10,x_v11,x_v12 =>
    (bif decide (x_v12<((y.buses.length:Nat):Int)) then
    ((By y.buses x_v12).bind fun x22 =>
    ((EA n words x_v12).bind fun x26 =>
    ((nz (IntKind.i64.wrap ((IntKind.i64.wrap (x22.hi-x22.lo))+1))).bind fun x37 =>
    (((bif ((Int.tmod x26 3) == 0) then
    some x22.lo
    else
    (bif ((Int.tmod x26 3) == 1) then
    some x22.hi
    else
    some (IntKind.i64.wrap (x22.lo+(Int.tmod (IntKind.i64.wrap (Int.tdiv x26 3)) (IntKind.i64.wrap ((IntKind.i64.wrap (x22.hi-x22.lo))+1))))))):Option Int).bind fun o_102 =>
    ((Jc x_v10 ([x_v12]:List Int)).bind fun x52 =>
    ((EA n words (IntKind.i64.wrap ((IntKind.i64.wrap (2*x_v12))+1))).bind fun x60 =>
    ((Jc x_v11 ([IntKind.i64.wrap ((IntKind.i64.wrap (2*o_102))+(Int.tmod x60 2))]:List Int)).bind fun x64 =>
    ((CD n  x52 x64 x_v12).bind fun o_188 =>
    Di n y words o_188.1 o_188.2 (IntKind.i64.wrap (x_v12+1))))))))))
    else
    some (x_v10,x_v11))
def Hg (n:Nat) (y:Ak) (words:List (IK .u16)):Option (List Int) :=
  ((Di n y words ([]:List Int) ([]:List Int) 0).bind fun o_39 =>
  some o_39.1)
def CE:Nat→Ak→(List (IK .u16))→(List Int)→Int→Option (List Int)
  | 0,_,_,_,_=>none
  | n+1,y,words,x_v10,x_v11 =>
    (bif decide (x_v11<((y.buses.length:Nat):Int)) then
    (((bif decide (((x_v10.length:Nat):Int)<y.broken) then
    ((EA n words (IntKind.i64.wrap ((IntKind.i64.wrap (3*x_v11))+2))).bind fun x24 =>
    some ((Int.tmod x24 4) == 0))
    else
    some false):Option Bool).bind fun o_45 =>
    (bif o_45 then
    ((Jc x_v10 ([x_v11]:List Int)).bind fun x31 =>
    CE n y words x31 (IntKind.i64.wrap (x_v11+1)))
    else
    CE n y words x_v10 (IntKind.i64.wrap (x_v11+1))))
    else
    some x_v10)
def Hh (n:Nat) (y:Ak) (words:List (IK .u16)):Option (List Int) :=
  ((CE n y words ([]:List Int) 0).bind fun o_29 =>
  some o_29)
def Cx:Nat→Ak→(List Int)→(List Int)→Int→Int→Option Int
  | 0,_,_,_,_,_=>none
  | n+1,y,x14,x_v10,x_v20,x_v21 =>
    (((bif decide (x_v20<((y.room.length:Nat):Int)) then
    ((By x_v10 x_v21).bind fun x39 =>
    ((By y.room x_v21).bind fun x44 =>
    some (decide (x39≥x44))))
    else
    some false):Option Bool).bind fun o_98 =>
    (bif o_98 then
    ((nz ((y.room.length:Nat):Int)).bind fun x55 =>
    Cx n y x14 x_v10 (IntKind.i64.wrap (x_v20+1)) (Int.tmod (IntKind.i64.wrap (x_v21+1)) ((y.room.length:Nat):Int)))
    else
    some x_v21))
def Cy:Nat→Ak→(List (IK .u16))→(List Int)→(List Int)→(List Int)→Int→Option (Ex ((List Int)×Bool) ((List Int)×(List Int)))
  | 0,_,_,_,_,_,_=>none
  | n+1,y,words,x14,x_v10,x_v11,x_v12 =>
    (bif decide (x_v12<((y.buses.length:Nat):Int)) then
    ((EA n words (IntKind.i64.wrap ((IntKind.i64.wrap (5*x_v12))+1))).bind fun x26 =>
    ((nz ((y.room.length:Nat):Int)).bind fun x30 =>
    ((Cx n y x14 x_v10 0 (Int.tmod x26 ((y.room.length:Nat):Int))).bind fun o_85 =>
    ((By x_v10 o_85).bind fun x58 =>
    ((By y.room o_85).bind fun x63 =>
    (bif decide (x58≥x63) then
    some (Ex.ret (([]:List Int),false))
    else
    ((By x_v10 o_85).bind fun x68 =>
    ((By x_v10 o_85).bind fun x71 =>
    ((upd x_v10 o_85 (IntKind.i64.wrap (x68+1))).bind fun u_220 =>
    ((Jc x_v11 ([o_85]:List Int)).bind fun x75 =>
    Cy n y words x14 u_220 x75 (IntKind.i64.wrap (x_v12+1))))))))))))
    else
    some (Ex.go (x_v10,x_v11)))
def Fi (n:Nat) (y:Ak) (words:List (IK .u16)):Option ((List Int)×Bool) :=
  ((mk ((y.room.length:Nat):Int) (0:Int)).bind fun x14 =>
  ((Cy n y words x14 x14 ([]:List Int) 0).bind fun o_51=>Ex.bind o_51 (fun r=>some r) fun s_52 =>
  some (s_52.2,true)))
def CJ:Nat→(List Int)→Int→Int→Option (Ex Int Unit)
  | 0,_,_,_=>none
  | n+1,order,bus,x_v10 =>
    (bif decide (x_v10<((order.length:Nat):Int)) then
    ((By order x_v10).bind fun x14 =>
    (bif (x14 == bus) then
    some (Ex.ret x_v10)
    else
    CJ n order bus (IntKind.i64.wrap (x_v10+1))))
    else
    some (Ex.go ()))
def FY (n:Nat) (order:List Int) (bus:Int):Option Int :=
  ((CJ n order bus 0).bind fun o_6=>Ex.bind o_6 (fun r=>some r) fun s_7 =>
  some (-1))
def Bu:Nat→Ak→(Bool×(List Int))→Int→(List Int)→(List Int)→(List AX)→Int→Option ((List Int)×(List Int)×(List AX))
  | 0,_,_,_,_,_,_,_=>none
  | n+1,y,o_27,x_v10,x_v20,x_v21,x_v22,x_v23 =>
    (bif decide (x_v23<((y.buses.length:Nat):Int)) then
    ((By x_v20 x_v23).bind fun x79 =>
    ((upd x_v20 x_v23 (-1)).bind fun u_282 =>
    ((By o_27.2 x_v23).bind fun x82 =>
    (bif (x82 == x_v10) then
    ((By u_282 x_v23).bind fun x91 =>
    ((upd u_282 x_v23 ((x_v22.length:Nat):Int)).bind fun u_326 =>
    ((By y.buses x_v23).bind fun x97 =>
    ((Jc x_v22 ([x97]:List AX)).bind fun x100 =>
    ((Jc x_v21 ([x_v23]:List Int)).bind fun x104 =>
    Bu n y o_27 x_v10 u_326 x104 x100 (IntKind.i64.wrap (x_v23+1)))))))
    else
    Bu n y o_27 x_v10 u_282 x_v21 x_v22 (IntKind.i64.wrap (x_v23+1))))))
    else
    some (x_v20,x_v21,x_v22))
def Bv:Nat→(List Int)→((List Int)×(List Int)×(List AX))→(List Int)→Int→Option (List Int)
  | 0,_,_,_,_=>none
  | n+1,x37,o_251,x_v30,x_v31 =>
    (bif decide (x_v31<((x37.length:Nat):Int)) then
    ((By x37 x_v31).bind fun x115 =>
    ((By o_251.1 x115).bind fun x117 =>
    (bif decide (x117≥0) then
    ((By x37 x_v31).bind fun x124 =>
    ((By o_251.1 x124).bind fun x126 =>
    ((Jc x_v30 ([x126]:List Int)).bind fun x129 =>
    Bv n x37 o_251 x129 (IntKind.i64.wrap (x_v31+1)))))
    else
    Bv n x37 o_251 x_v30 (IntKind.i64.wrap (x_v31+1)))))
    else
    some x_v30)
def Bw:Nat→(List Int)→((List Int)×(List Int)×(List AX))→(List Int)→Int→Option (List Int)
  | 0,_,_,_,_=>none
  | n+1,x40,o_251,x_v40,x_v41 =>
    (bif decide (x_v41<((x40.length:Nat):Int)) then
    ((By x40 x_v41).bind fun x139 =>
    ((By o_251.1 x139).bind fun x141 =>
    (bif decide (x141≥0) then
    ((By x40 x_v41).bind fun x148 =>
    ((By o_251.1 x148).bind fun x150 =>
    ((Jc x_v40 ([x150]:List Int)).bind fun x153 =>
    Bw n x40 o_251 x153 (IntKind.i64.wrap (x_v41+1)))))
    else
    Bw n x40 o_251 x_v40 (IntKind.i64.wrap (x_v41+1)))))
    else
    some x_v40)
def BH:Nat→((List Int)×Int)→((List Int)×(List Int)×(List AX))→((List Int)×Int)→Int→Int→Option (Ex Bool Int)
  | 0,_,_,_,_,_=>none
  | n+1,x50,o_251,x163,x_v50,x_v51 =>
    (bif decide (x_v50<((x163.1.length:Nat):Int)) then
    ((By x163.1 x_v50).bind fun x176 =>
    ((G0 n x176 0 (IntKind.i64.wrap (((o_251.2.1.length:Nat):Int)-1))).bind fun x181 =>
    (bif (!x181) then
    some (Ex.ret false)
    else
    ((By x163.1 x_v50).bind fun x188 =>
    ((By o_251.2.1 x188).bind fun x190 =>
    ((FY n x50.1 x190).bind fun x192 =>
    (bif decide (x192<0) then
    some (Ex.ret false)
    else
    BH n x50 o_251 x163 (IntKind.i64.wrap (x_v50+1)) (IntKind.i64.wrap (x_v51+1)))))))))
    else
    some (Ex.go x_v51))
def BI:Nat→Ak→(Bool×(List Int))→(List Int)→(List Int)→((List Int)×Int)→Int→Int→Option (Ex Bool Int)
  | 0,_,_,_,_,_,_,_=>none
  | n+1,y,o_27,x37,x40,x50,x_v10,x_v11 =>
    (bif decide (x_v10<((y.room.length:Nat):Int)) then
    ((mk ((y.buses.length:Nat):Int) (0:Int)).bind fun x65 =>
    ((Bu n y o_27 x_v10 x65 ([]:List Int) ([]:List AX) 0).bind fun o_251 =>
    ((Bv n x37 o_251 ([]:List Int) 0).bind fun o_457 =>
    ((Bw n x40 o_251 ([]:List Int) 0).bind fun o_577 =>
    ((FV n (Ak.mk ([8]:List Int) o_251.2.2 y.broken)).bind fun x156 =>
    ((mk ((o_251.2.2.length:Nat):Int) (0:Int)).bind fun x160 =>
    ((Ct n x156 x160 o_457 o_577).bind fun x163 =>
    (bif (x163.2 != 0) then
    some (Ex.ret false)
    else
    ((BH n x50 o_251 x163 0 x_v11).bind fun o_751=>Ex.bind o_751 (fun r=>some (Ex.ret r)) fun s_752 =>
    BI n y o_27 x37 x40 x50 (IntKind.i64.wrap (x_v10+1)) s_752)))))))))
    else
    some (Ex.go x_v11))
def E4 (n:Nat) (y:Ak) (words:List (IK .u16)):Option Bool :=
  ((FX n y).bind fun x25 =>
  (((bif x25 then
  ((Fi n y words).bind fun x29 =>
  some (x29.2,x29.1))
  else
  some (false,([]:(List Int)))):Option (Bool×(List Int))).bind fun o_27 =>
  (bif (!o_27.1) then
  ((Fe n ).bind fun x34 =>
  some x34)
  else
  ((Hg n y words).bind fun x37 =>
  ((Hh n y words).bind fun x40 =>
  ((FV n y).bind fun x43 =>
  ((E9 n o_27.2).bind fun x45 =>
  ((E9 n x37).bind fun x47 =>
  ((E9 n x40).bind fun x49 =>
  ((Ct n x43 x45 x47 x49).bind fun x50 =>
  (bif (x50.2 != 0) then
  some false
  else
  ((BI n y o_27 x37 x40 x50 0 0).bind fun o_170=>Ex.bind o_170 (fun r=>some r) fun s_171 =>
  (bif (s_171 == ((x50.1.length:Nat):Int)) then
  ((Fe n ).bind fun x202 =>
  some x202)
  else
  some false)))))))))))))
abbrev XZ:=@Option.some.inj
abbrev XY:=@Exists.intro
abbrev XX:=@Option.bind_some
abbrev XW:=@cond_true
abbrev XV:=@cond_false
abbrev XU:=@Ac.le_trans
abbrev XT:=@wp_seq
end Go.Proofs.Ythcbemnflgjadaa
