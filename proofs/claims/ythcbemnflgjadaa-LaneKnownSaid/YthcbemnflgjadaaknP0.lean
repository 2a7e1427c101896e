/- What the functions compute, in plain Lean. -/
import Derived.Test.YthcbemnflgjadaaknS8
import Derived.Test.YthcbemnflgjadaaProg
import Derived.Lib.BitFns
set_option linter.all false
namespace Go.Proofs.Ythcbemnflgjadaa
open Go Go.RowKit
open Rep (rep)
open KRep (kv)
open VRep (rv)
structure Bb where
  lo:Int
  hi:Int
  turn:Int
deriving DecidableEq,Inhabited
instance : Rep Bb:=Rep.via fun x=>(x.lo,x.hi,x.turn)
instance : VRep Bb:=VRep.agg Bb
structure Ag where
  room:List Int
  buses:List Bb
  broken:Int
deriving DecidableEq,Inhabited
instance : Rep Ag:=Rep.via fun x=>(x.room,x.buses,x.broken)
instance : VRep Ag:=VRep.agg Ag
def Tc (h:Ac) (v:Value) (f:Int→Option Bool):Prop:=∀ (h':Ac)(w':World),Ac.le h h'→Dz h' w'→∀ (x0:Int)(r:Bool),f x0=some r→Ip Try.prog v #[.int .i64 x0] w' (DI (fun h v=>v=.bool r) h' w')
theorem Tc.mono {h h':Ac} {v:Value} {f:Int→Option Bool} (H:Tc h v f) (hle:Ac.le h h'):Tc h' v f:=fun h2 w2 l=>H h2 w2 (Ac.le_trans hle l)
instance : Rep (Int→Option Bool):=⟨1,fun h f cs=>∃ fn first cap,cs=[.func fn first cap]∧Tc h (.func fn first cap) f,fun hle ⟨a,b,c,e,hr⟩=>⟨a,b,c,e,hr.mono hle⟩,fun⟨a,b,c,e,_⟩=>by subst e; rfl,fun⟨a,b,c,e,_⟩ v hv=>by subst e; simp at hv; subst hv; rfl⟩
def Td (h:Ac) (v:Value) (f:Bb→Option Bool):Prop:=∀ (h':Ac)(w':World),Ac.le h h'→Dz h' w'→∀ (x0:Bb)(cs0:List Value)(_:rep h' x0 cs0)(r:Bool),f x0=some r→Ip Try.prog v #[.agg cs0.toArray] w' (DI (fun h v=>v=.bool r) h' w')
theorem Td.mono {h h':Ac} {v:Value} {f:Bb→Option Bool} (H:Td h v f) (hle:Ac.le h h'):Td h' v f:=fun h2 w2 l=>H h2 w2 (Ac.le_trans hle l)
instance : Rep (Bb→Option Bool):=⟨1,fun h f cs=>∃ fn first cap,cs=[.func fn first cap]∧Td h (.func fn first cap) f,fun hle ⟨a,b,c,e,hr⟩=>⟨a,b,c,e,hr.mono hle⟩,fun⟨a,b,c,e,_⟩=>by subst e; rfl,fun⟨a,b,c,e,_⟩ v hv=>by subst e; simp at hv; subst hv; rfl⟩
structure Ao where
  a0:Int
  a1:Int
  a2:Int
  a3:Int
  a4:Int
  a5:Int
  a6:Int
  a7:Int
deriving DecidableEq,Inhabited
instance : Rep Ao:=Rep.via fun x=>(x.a0,x.a1,x.a2,x.a3,x.a4,x.a5,x.a6,x.a7)
instance : VRep Ao:=VRep.agg Ao
def Ao.toL (x:Ao):List Int:=[x.a0,x.a1,x.a2,x.a3,x.a4,x.a5,x.a6,x.a7]
def Ao.ofL:List Int→Option Ao
  | [a0,a1,a2,a3,a4,a5,a6,a7]=>some ⟨a0,a1,a2,a3,a4,a5,a6,a7⟩
  | _=>none
theorem Ao.ofL_some {l:List Int} {y:Ao} (h:Ao.ofL l=some y):y.toL=l:=by
  unfold Ao.ofL at h
  split at h
  · cases h; rfl
  · cases h
def Ao.setI (x:Ao) (i:Int) (v:Int):Option Ao:=(upd x.toL i v).bind Ao.ofL
theorem Ao.setI_some {x y:Ao} {i:Int} {v:Int} (h:x.setI i v=some y):0≤i∧i<8∧y.toL=x.toL.set i.toNat v:=by
  obtain⟨l,hl,h2⟩:=Aq h
  obtain⟨h0,h1,rfl⟩:=BR hl
  exact⟨h0,h1,Ao.ofL_some h2⟩
structure Ar where
  a0:Bool
  a1:Bool
  a2:Bool
  a3:Bool
  a4:Bool
  a5:Bool
  a6:Bool
  a7:Bool
deriving DecidableEq,Inhabited
instance : Rep Ar:=Rep.via fun x=>(x.a0,x.a1,x.a2,x.a3,x.a4,x.a5,x.a6,x.a7)
instance : VRep Ar:=VRep.agg Ar
def Ar.toL (x:Ar):List Bool:=[x.a0,x.a1,x.a2,x.a3,x.a4,x.a5,x.a6,x.a7]
def Ar.ofL:List Bool→Option Ar
  | [a0,a1,a2,a3,a4,a5,a6,a7]=>some ⟨a0,a1,a2,a3,a4,a5,a6,a7⟩
  | _=>none
theorem Ar.ofL_some {l:List Bool} {y:Ar} (h:Ar.ofL l=some y):y.toL=l:=by
  unfold Ar.ofL at h
  split at h
  · cases h; rfl
  · cases h
def Ar.setI (x:Ar) (i:Int) (v:Bool):Option Ar:=(upd x.toL i v).bind Ar.ofL
theorem Ar.setI_some {x y:Ar} {i:Int} {v:Bool} (h:x.setI i v=some y):0≤i∧i<8∧y.toL=x.toL.set i.toNat v:=by
  obtain⟨l,hl,h2⟩:=Aq h
  obtain⟨h0,h1,rfl⟩:=BR hl
  exact⟨h0,h1,Ar.ofL_some h2⟩
structure Cj where
  yard:Ag
  lane:List Int
  tm:Ao
  broken:Ar
deriving DecidableEq,Inhabited
instance : Rep Cj:=Rep.via fun x=>(x.yard,x.lane,x.tm,x.broken)
instance : VRep Cj:=VRep.agg Cj
def So (h:Ac) (v:Value) (f:Int→Int→Option Int):Prop:=∀ (h':Ac)(w':World),Ac.le h h'→Dz h' w'→∀ (x0:Int)(x1:Int)(r:Int),f x0 x1=some r→Ip Try.prog v #[.int .i64 x0,.int .i64 x1] w' (DI (fun h v=>v=.int .i64 r) h' w')
theorem So.mono {h h':Ac} {v:Value} {f:Int→Int→Option Int} (H:So h v f) (hle:Ac.le h h'):So h' v f:=fun h2 w2 l=>H h2 w2 (Ac.le_trans hle l)
instance : Rep (Int→Int→Option Int):=⟨1,fun h f cs=>∃ fn first cap,cs=[.func fn first cap]∧So h (.func fn first cap) f,fun hle ⟨a,b,c,e,hr⟩=>⟨a,b,c,e,hr.mono hle⟩,fun⟨a,b,c,e,_⟩=>by subst e; rfl,fun⟨a,b,c,e,_⟩ v hv=>by subst e; simp at hv; subst hv; rfl⟩
def TY (h:Ac) (v:Value) (f:Int→Int→Option Bool):Prop:=∀ (h':Ac)(w':World),Ac.le h h'→Dz h' w'→∀ (x0:Int)(x1:Int)(r:Bool),f x0 x1=some r→Ip Try.prog v #[.int .i64 x0,.int .i64 x1] w' (DI (fun h v=>v=.bool r) h' w')
theorem TY.mono {h h':Ac} {v:Value} {f:Int→Int→Option Bool} (H:TY h v f) (hle:Ac.le h h'):TY h' v f:=fun h2 w2 l=>H h2 w2 (Ac.le_trans hle l)
instance : Rep (Int→Int→Option Bool):=⟨1,fun h f cs=>∃ fn first cap,cs=[.func fn first cap]∧TY h (.func fn first cap) f,fun hle ⟨a,b,c,e,hr⟩=>⟨a,b,c,e,hr.mono hle⟩,fun⟨a,b,c,e,_⟩=>by subst e; rfl,fun⟨a,b,c,e,_⟩ v hv=>by subst e; simp at hv; subst hv; rfl⟩
structure Av where
  buses:List Int
  down:Int
deriving DecidableEq,Inhabited
instance : Rep Av:=Rep.via fun x=>(x.buses,x.down)
instance : VRep Av:=VRep.agg Av
def TS (h:Ac) (v:Value) (f:Bb→Option Int):Prop:=∀ (h':Ac)(w':World),Ac.le h h'→Dz h' w'→∀ (x0:Bb)(cs0:List Value)(_:rep h' x0 cs0)(r:Int),f x0=some r→Ip Try.prog v #[.agg cs0.toArray] w' (DI (fun h v=>v=.int .i64 r) h' w')
theorem TS.mono {h h':Ac} {v:Value} {f:Bb→Option Int} (H:TS h v f) (hle:Ac.le h h'):TS h' v f:=fun h2 w2 l=>H h2 w2 (Ac.le_trans hle l)
instance : Rep (Bb→Option Int):=⟨1,fun h f cs=>∃ fn first cap,cs=[.func fn first cap]∧TS h (.func fn first cap) f,fun hle ⟨a,b,c,e,hr⟩=>⟨a,b,c,e,hr.mono hle⟩,fun⟨a,b,c,e,_⟩=>by subst e; rfl,fun⟨a,b,c,e,_⟩ v hv=>by subst e; simp at hv; subst hv; rfl⟩
structure BP where
  tm:Bb→Option Int
instance : Rep BP:=Rep.via fun x=>(x.tm)
instance : VRep BP:=VRep.agg BP
structure Bt where
  behind:Int
  last:Int
deriving DecidableEq,Inhabited
instance : Rep Bt:=Rep.via fun x=>(x.behind,x.last)
instance : VRep Bt:=VRep.agg Bt
structure AM where
  many:Int
  tm:Ao
deriving DecidableEq,Inhabited
instance : Rep AM:=Rep.via fun x=>(x.many,x.tm)
instance : VRep AM:=VRep.agg AM
instance : KRep Bt:=⟨fun x=>.agg #[.int .i64 x.behind,.int .i64 x.last],fun {a b} h=>by
  rcases a with⟨a0,a1⟩
  rcases b with⟨b0,b1⟩
  simp_all⟩
def TZ (h:Ac) (v:Value) (f:Int→Option Int):Prop:=∀ (h':Ac)(w':World),Ac.le h h'→Dz h' w'→∀ (x0:Int)(r:Int),f x0=some r→Ip Try.prog v #[.int .i64 x0] w' (DI (fun h v=>v=.int .i64 r) h' w')
theorem TZ.mono {h h':Ac} {v:Value} {f:Int→Option Int} (H:TZ h v f) (hle:Ac.le h h'):TZ h' v f:=fun h2 w2 l=>H h2 w2 (Ac.le_trans hle l)
instance : Rep (Int→Option Int):=⟨1,fun h f cs=>∃ fn first cap,cs=[.func fn first cap]∧TZ h (.func fn first cap) f,fun hle ⟨a,b,c,e,hr⟩=>⟨a,b,c,e,hr.mono hle⟩,fun⟨a,b,c,e,_⟩=>by subst e; rfl,fun⟨a,b,c,e,_⟩ v hv=>by subst e; simp at hv; subst hv; rfl⟩
structure Ev where
  buses:Ar
  down:Ar
deriving DecidableEq,Inhabited
instance : Rep Ev:=Rep.via fun x=>(x.buses,x.down)
instance : VRep Ev:=VRep.agg Ev
instance : KRep Ev:=⟨fun x=>.agg #[.bool x.buses.a0,.bool x.buses.a1,.bool x.buses.a2,.bool x.buses.a3,.bool x.buses.a4,.bool x.buses.a5,.bool x.buses.a6,.bool x.buses.a7,.bool x.down.a0,.bool x.down.a1,.bool x.down.a2,.bool x.down.a3,.bool x.down.a4,.bool x.down.a5,.bool x.down.a6,.bool x.down.a7],fun {a b} h=>by
  rcases a with⟨⟨a0,a1,a2,a3,a4,a5,a6,a7⟩,⟨a8,a9,a10,a11,a12,a13,a14,a15⟩⟩
  rcases b with⟨⟨b0,b1,b2,b3,b4,b5,b6,b7⟩,⟨b8,b9,b10,b11,b12,b13,b14,b15⟩⟩
  simp_all⟩
def HW (n:Nat) (y:Ag):Option Bool :=
  (bif decide (((y.room.length:Nat):Int)≤6) then
  some (decide (((y.buses.length:Nat):Int)≤12))
  else
  some false)
def Cz (n:Nat) (n_:Int) (low:Int) (high:Int):Option Bool :=
  (bif decide (low≤n_) then
  some (decide (n_≤high))
  else
  some false)
def C5 (n:Nat) (x:Int) (q0:Int→Option Bool):Option Bool :=
  ((q0 x).bind fun x6 =>
  some (!x6))
def AO:Nat→(List Int)→(Int→Option Bool)→Int→Option (Ex Int Unit)
  | 0,_,_,_=>none
  | n+1,s,f,x_v10 =>
    (bif decide (x_v10<((s.length:Nat):Int)) then
    ((Bv s x_v10).bind fun x14 =>
    ((f x14).bind fun x16 =>
    (bif x16 then
    some (Ex.ret x_v10)
    else
    AO n s f (IntKind.i64.wrap (x_v10+1)))))
    else
    some (Ex.go ()))
def Cg (n:Nat) (s:List Int) (f:Int→Option Bool):Option Int :=
  ((AO n s f 0).bind fun o_6=>Ex.bind o_6 (fun r=>some r) fun s_7 =>
  some (-1))
def BJ (n:Nat) (s:List Int) (f:Int→Option Bool):Option Bool :=
  ((Cg n s f).bind fun x7 =>
  some (decide (x7≥0)))
def DE (n:Nat) (l:List Int) (right:Int→Option Bool):Option Bool :=
  ((BJ n l (fun(y0:Int)=>C5 n y0 right)).bind fun x7 =>
  some (!x7))
def Ck (n:Nat) (b:Bb):Option Bool :=
  ((Cz n b.lo 0 b.hi).bind fun x7 =>
  (bif x7 then
  (bif decide (b.hi≤2000) then
  ((Cz n b.turn 0 2000).bind fun x16 =>
  some x16)
  else
  some false)
  else
  some false))
def B4 (n:Nat) (x:Bb) (q0:Bb→Option Bool):Option Bool :=
  ((q0 x).bind fun x6 =>
  some (!x6))
def A4:Nat→(List Bb)→(Bb→Option Bool)→Int→Option (Ex Int Unit)
  | 0,_,_,_=>none
  | n+1,s,f,x_v10 =>
    (bif decide (x_v10<((s.length:Nat):Int)) then
    ((Bv s x_v10).bind fun x14 =>
    ((f x14).bind fun x16 =>
    (bif x16 then
    some (Ex.ret x_v10)
    else
    A4 n s f (IntKind.i64.wrap (x_v10+1)))))
    else
    some (Ex.go ()))
def Bi (n:Nat) (s:List Bb) (f:Bb→Option Bool):Option Int :=
  ((A4 n s f 0).bind fun o_6=>Ex.bind o_6 (fun r=>some r) fun s_7 =>
  some (-1))
def AY (n:Nat) (s:List Bb) (f:Bb→Option Bool):Option Bool :=
  ((Bi n s f).bind fun x7 =>
  some (decide (x7≥0)))
def Cq (n:Nat) (l:List Bb) (right:Bb→Option Bool):Option Bool :=
  ((AY n l (fun(y0:Bb)=>B4 n y0 right)).bind fun x7 =>
  some (!x7))
def BQ (n:Nat) (n_:Int):Option Bool :=
  ((Cz n n_ 0 8).bind fun x4 =>
  some x4)
def BA:Nat→Ag→Int→(List (Int×Bool))→Option (Ex Int (List (Int×Bool)))
  | 0,_,_,_=>none
  | n+1,y,x_v10,x_v11 =>
    (bif decide (x_v10<((y.buses.length:Nat):Int)) then
    ((Bv y.buses x_v10).bind fun x48 =>
    ((some (DX x_v11 x48.turn (false:Bool))).bind fun x53 =>
    (bif x53.1 then
    some (Ex.ret 1)
    else
    BA n y (IntKind.i64.wrap (x_v10+1)) (Gn x_v11 x48.turn true))))
    else
    some (Ex.go x_v11))
def Ct (n:Nat) (y:Ag):Option Int :=
  (((bif decide (((y.room.length:Nat):Int)>3) then
  some true
  else
  some (decide (((y.buses.length:Nat):Int)>8))):Option Bool).bind fun o_16 =>
  (bif o_16 then
  some 3
  else
  (((bif (((y.room.length:Nat):Int) == 0) then
  some true
  else
  ((Cz n y.broken 0 2).bind fun x26 =>
  (bif (!x26) then
  some true
  else
  ((DE n y.room (fun(y0:Int)=>BQ n y0)).bind fun x33 =>
  (bif (!x33) then
  some true
  else
  ((Cq n y.buses (fun(y0:Bb)=>Ck n y0)).bind fun x39 =>
  some (!x39))))))):Option Bool).bind fun o_35 =>
  (bif o_35 then
  some 1
  else
  ((BA n y 0 ([]:List (Int×Bool))).bind fun o_115=>Ex.bind o_115 (fun r=>some r) fun s_116 =>
  some 0)))))
def Bw (n:Nat) (s:List Int):Option (List Int) :=
  ((Mb ([]:List Int) s).bind fun x7 =>
  some x7)
def BB:Nat→(List Int)→(List Int)→Int→Option (Ex Bool (List Int))
  | 0,_,_,_=>none
  | n+1,l,x_v10,x_v11 =>
    (bif decide (x_v11<((l.length:Nat):Int)) then
    ((Bv l x_v11).bind fun x21 =>
    ((((Cz n x21 0 (IntKind.i64.wrap (((x_v10.length:Nat):Int)-1))).bind fun x27 =>
    (bif (!x27) then
    some true
    else
    ((Bv x_v10 x21).bind fun x32 =>
    some (x32 == 0)))):Option Bool).bind fun o_78 =>
    (bif o_78 then
    some (Ex.ret false)
    else
    ((Bv x_v10 x21).bind fun x38 =>
    ((Bv x_v10 x21).bind fun x41 =>
    ((upd x_v10 x21 (IntKind.i64.wrap (x38-1))).bind fun u_152 =>
    BB n l u_152 (IntKind.i64.wrap (x_v11+1))))))))
    else
    some (Ex.go x_v10))
def CC (n:Nat) (y:Ag) (l:List Int):Option Bool :=
  (bif (((l.length:Nat):Int) != ((y.buses.length:Nat):Int)) then
  some false
  else
  ((Bw n y.room).bind fun x16 =>
  ((BB n l x16 0).bind fun o_47=>Ex.bind o_47 (fun r=>some r) fun s_48 =>
  some true)))
def Bo:Nat→(List Int)→Int→Int→Option Int
  | 0,_,_,_=>none
  | n+1,x,x_v10,x_v11 =>
    (bif decide (x_v10<((x.length:Nat):Int)) then
    ((Bv x x_v10).bind fun x21 =>
    Bo n x (IntKind.i64.wrap (x_v10+1)) (if x21>x_v11 then x21 else x_v11))
    else
    some x_v11)
def C6 (n:Nat) (x:List Int):Option Int :=
  (bif decide (((x.length:Nat):Int)<1) then
  none
  else
  ((Bv x 0).bind fun x10 =>
  ((Bo n x 1 x10).bind fun o_25 =>
  some o_25)))
def C0 (n:Nat) (l:List Int):Option Int :=
  ((C6 n l).bind fun x4 =>
  some x4)
def EW (n:Nat) (y:Ag) (n_:Int):Option Bool :=
  ((Cz n n_ 0 (IntKind.i64.wrap (((y.buses.length:Nat):Int)-1))).bind fun x10 =>
  some x10)
def Cc:Nat→Ag→(List Int)→Int→Int→Ao→Ar→Option (Ex (Ao×Bool) (Ao×Ar))
  | 0,_,_,_,_,_,_=>none
  | n+1,y,order,x_v10,x_v11,x_v12,x_v13 =>
    (bif decide (x_v10<((order.length:Nat):Int)) then
    ((Bv order x_v10).bind fun x22 =>
    ((((EW n y x22).bind fun x26 =>
    (bif (!x26) then
    some true
    else
    ((KP 8 x22).bind fun x30 =>
    ((Bv x_v13.toL x22).bind fun x31 =>
    (bif x31 then
    some true
    else
    ((Bv y.buses x22).bind fun x37 =>
    some (decide (x37.hi<x_v11)))))))):Option Bool).bind fun o_73 =>
    (bif o_73 then
    some (Ex.ret (x_v12,false))
    else
    ((KP 8 x22).bind fun x45 =>
    ((Ar.setI x_v13 x22 true).bind fun u_143 =>
    ((Bv y.buses x22).bind fun x52 =>
    ((KP 8 x22).bind fun x57 =>
    ((C0 n ([x_v11,x52.lo]:List Int)).bind fun x56 =>
    ((Ao.setI x_v12 x22 x_v10).bind fun us0 =>
    Cc n y order (IntKind.i64.wrap (x_v10+1)) x56 us0 u_143)))))))))
    else
    some (Ex.go (x_v12,x_v13)))
def Ei (n:Nat) (y:Ag) (order:List Int):Option (Ao×Bool) :=
  (bif (((order.length:Nat):Int) != ((y.buses.length:Nat):Int)) then
  some ((Ao.mk 0 0 0 0 0 0 0 0),false)
  else
  ((Cc n y order 0 0 (Ao.mk 0 0 0 0 0 0 0 0) (Ar.mk false false false false false false false false)).bind fun o_40=>Ex.bind o_40 (fun r=>some r) fun s_41 =>
  some (s_41.1,true)))
def CG:Nat→Ag→(List Int)→Int→Int→Ar→Option (Ex (Ar×Bool) Ar)
  | 0,_,_,_,_,_=>none
  | n+1,y,broken,x_v10,x_v11,x_v12 =>
    (bif decide (x_v10<((broken.length:Nat):Int)) then
    ((Bv broken x_v10).bind fun x13 =>
    ((((EW n y x13).bind fun x17 =>
    (bif (!x17) then
    some true
    else
    some (decide (x13≤x_v11)))):Option Bool).bind fun o_55 =>
    (bif o_55 then
    some (Ex.ret (x_v12,false))
    else
    ((KP 8 x13).bind fun x27 =>
    ((Ar.setI x_v12 x13 true).bind fun u_95 =>
    CG n y broken (IntKind.i64.wrap (x_v10+1)) x13 u_95)))))
    else
    some (Ex.go x_v12))
def FR (n:Nat) (y:Ag) (broken:List Int):Option (Ar×Bool) :=
  ((CG n y broken 0 (-1) (Ar.mk false false false false false false false false)).bind fun o_24=>Ex.bind o_24 (fun r=>some r) fun s_25 =>
  some (s_25,decide (((broken.length:Nat):Int)≤y.broken)))
def Fq (n:Nat) (y:Ag) (lanes:List Int) (order:List Int) (broken:List Int):Option (Cj×Int) :=
  ((Ct n y).bind fun x16 =>
  (bif (x16 != 0) then
  some ((Cj.mk (Ag.mk ([]:List Int) ([]:List Bb) 0) ([]:List Int) (Ao.mk 0 0 0 0 0 0 0 0) (Ar.mk false false false false false false false false)),x16)
  else
  ((Ei n y order).bind fun x24 =>
  ((FR n y broken).bind fun x30 =>
  (((bif (!x24.2) then
  some true
  else
  (bif (!x30.2) then
  some true
  else
  ((CC n y lanes).bind fun x42 =>
  some (!x42)))):Option Bool).bind fun o_85 =>
  (bif o_85 then
  some ((Cj.mk (Ag.mk ([]:List Int) ([]:List Bb) 0) ([]:List Int) (Ao.mk 0 0 0 0 0 0 0 0) (Ar.mk false false false false false false false false)),2)
  else
  some ((Cj.mk y lanes x24.1 x30.1),0)))))))
def B6:Nat→(List (List Int))→Int→Int→Option Int
  | 0,_,_,_=>none
  | n+1,slices,x_v10,x_v11 =>
    (bif decide (x_v10<((slices.length:Nat):Int)) then
    ((Bv slices x_v10).bind fun x13 =>
    (bif decide ((IntKind.i64.wrap (x_v11+((x13.length:Nat):Int)))<0) then
    none
    else
    B6 n slices (IntKind.i64.wrap (x_v10+1)) (IntKind.i64.wrap (x_v11+((x13.length:Nat):Int)))))
    else
    some x_v11)
def B7:Nat→(List (List Int))→(List Int)→Int→Option (List Int)
  | 0,_,_,_=>none
  | n+1,slices,x_v20,x_v21 =>
    (bif decide (x_v21<((slices.length:Nat):Int)) then
    ((Bv slices x_v21).bind fun x29 =>
    ((Mb x_v20 x29).bind fun x33 =>
    B7 n slices x33 (IntKind.i64.wrap (x_v21+1))))
    else
    some x_v20)
def C9 (n:Nat) (slices:List (List Int)):Option (List Int) :=
  ((B6 n slices 0 0).bind fun o_8 =>
  ((SE o_8).bind fun x24 =>
  ((B7 n slices ([]:List Int) 0).bind fun o_75 =>
  some o_75)))
def A2:Nat→Int→(Int→Int→Option Int)→(List Int)→Int→Option (List Int)
  | 0,_,_,_,_=>none
  | n+1,a,cmp,x_v20,x_v21 =>
    (((bif decide (x_v21>a) then
    ((Bv x_v20 x_v21).bind fun x25 =>
    ((Bv x_v20 (IntKind.i64.wrap (x_v21-1))).bind fun x30 =>
    ((cmp x25 x30).bind fun x32 =>
    some (decide (x32<0)))))
    else
    some false):Option Bool).bind fun o_48 =>
    (bif o_48 then
    ((Bv x_v20 (IntKind.i64.wrap (x_v21-1))).bind fun x45 =>
    ((Bv x_v20 x_v21).bind fun x49 =>
    ((Bv x_v20 x_v21).bind fun x51 =>
    ((upd x_v20 x_v21 x45).bind fun u_155 =>
    ((Bv u_155 (IntKind.i64.wrap (x_v21-1))).bind fun x52 =>
    ((upd u_155 (IntKind.i64.wrap (x_v21-1)) x49).bind fun u_178 =>
    A2 n a cmp u_178 (IntKind.i64.wrap (x_v21-1))))))))
    else
    some x_v20))
def A3:Nat→Int→Int→(Int→Int→Option Int)→(List Int)→Int→Option (List Int)
  | 0,_,_,_,_,_=>none
  | n+1,a,b,cmp,x_v10,x_v11 =>
    (bif decide (x_v11<b) then
    ((A2 n a cmp x_v10 x_v11).bind fun o_35 =>
    A3 n a b cmp o_35 (IntKind.i64.wrap (x_v11+1)))
    else
    some x_v10)
def AZ (n:Nat) (data:List Int) (a:Int) (b:Int) (cmp:Int→Int→Option Int):Option (List Int) :=
  ((A3 n a b cmp data (IntKind.i64.wrap (a+1))).bind fun o_10 =>
  some o_10)
def EX (n:Nat) (x:IK .u64):Option Int:=if 0≤x.n∧x.n≤18446744073709551615 then some (Lib.bitLen x.n.toNat:Nat) else none
def Bl:Nat→(List Int)→Int→Int→Int→(Int→Int→Option Int)→Option (Ex (List Int) Unit)
  | 0,_,_,_,_,_=>none
  | n+1,data,a,b,limit,cmp =>
    (bif decide ((IntKind.i64.wrap (b-a))≤12) then
    ((AZ n data a b cmp).bind fun x30 =>
    some (Ex.ret x30))
    else
    (bif (limit == 0) then
    none
    else
    (bif (!true) then
    none
    else
    none)))
def Bh:Nat→(List Int)→Int→Int→Int→(Int→Int→Option Int)→Option (List Int)
  | 0,_,_,_,_,_=>none
  | n+1,data,a,b,limit,cmp =>
    ((Bl n data a b limit cmp ).bind fun o_6=>Ex.bind o_6 (fun r=>some r) fun s_7 =>
    some data)
def AU (n:Nat) (x:List Int) (cmp:Int→Int→Option Int):Option (List Int) :=
  ((EX n (IK.mk (IntKind.u64.wrap ((x.length:Nat):Int)))).bind fun x11 =>
  ((Bh n x 0 ((x.length:Nat):Int) x11 cmp).bind fun x13 =>
  some x13))
def B5 (n:Nat) (a:Int) (b:Int) (q0:Ag):Option Int :=
  ((Bv q0.buses a).bind fun x9 =>
  ((Bv q0.buses b).bind fun x15 =>
  some (IntKind.i64.wrap (x9.turn-x15.turn))))
def AR {σ:Type}:Nat→(σ→Int→Option (σ×Bool))→(List Int)→Int→σ→Option (Ex σ σ)
  | 0,_,_,_,_=>none
  | n+1,yield_,q0,x_v10,x_v11 =>
    (bif decide (x_v10<((q0.length:Nat):Int)) then
    ((Bv q0 x_v10).bind fun x9 =>
    ((yield_ x_v11 x9).bind fun x13 =>
    (bif (!x13.2) then
    some (Ex.ret x13.1)
    else
    AR n yield_ q0 (IntKind.i64.wrap (x_v10+1)) x13.1)))
    else
    some (Ex.go x_v11))
def Bu {σ:Type} (n:Nat) (yield_:σ→Int→Option (σ×Bool)) (s:σ) (q0:List Int):Option σ :=
  ((AR n yield_ q0 0 s).bind fun o_13=>Ex.bind o_13 (fun r=>some r) fun s_14 =>
  some s_14)
def Dn (n:Nat) (s:List Int):Option ((List Int)) :=
  some (s)
def By:Nat→Ag→Ar→(List Int)→Int→Option (List Int)
  | 0,_,_,_,_=>none
  | n+1,y,broken,x_v10,x_v11 =>
    (bif decide (x_v11<((y.buses.length:Nat):Int)) then
    ((KP 8 x_v11).bind fun x14 =>
    ((Bv broken.toL x_v11).bind fun x15 =>
    (bif (!x15) then
    ((Mb x_v10 ([x_v11]:List Int)).bind fun x20 =>
    By n y broken x20 (IntKind.i64.wrap (x_v11+1)))
    else
    By n y broken x_v10 (IntKind.i64.wrap (x_v11+1)))))
    else
    some x_v10)
def CD (n:Nat) (y:Ag) (broken:Ar):Option ((List Int)) :=
  ((By n y broken ([]:List Int) 0).bind fun o_34 =>
  ((AU n o_34 (fun(y0:Int)(y1:Int)=>B5 n y0 y1 y)).bind fun x24 =>
  ((Dn n x24).bind fun x26 =>
  some (x26))))
def Dv (n:Nat) (n_:Cj) (b:Int) (c:Int):Option Bool :=
  ((Bv n_.lane b).bind fun x10 =>
  ((Bv n_.lane c).bind fun x15 =>
  (bif (x10 == x15) then
  ((KP 8 b).bind fun x21 =>
  ((Bv n_.tm.toL b).bind fun x22 =>
  ((KP 8 c).bind fun x25 =>
  ((Bv n_.tm.toL c).bind fun x26 =>
  some (decide (x22<x26))))))
  else
  some false)))
def BF (n:Nat) (c:Int) (d:Int) (q0:Cj):Option Int :=
  ((KP 8 c).bind fun x8 =>
  ((Bv q0.tm.toL c).bind fun x9 =>
  ((KP 8 d).bind fun x12 =>
  ((Bv q0.tm.toL d).bind fun x13 =>
  some (IntKind.i64.wrap (x9-x13))))))
def Bp:Nat→Cj→Int→(List Int)→Int→Ar→Option ((List Int)×Ar)
  | 0,_,_,_,_,_=>none
  | n+1,n_,x15,x_v10,x_v11,x_v12 =>
    (bif decide (x_v11<((n_.yard.buses.length:Nat):Int)) then
    ((((KP 8 x_v11).bind fun x24 =>
    ((Bv x_v12.toL x_v11).bind fun x25 =>
    (bif (!x25) then
    (((fun(y0:Int)(y1:Int)=>Dv n n_ y0 y1) x_v11 x15).bind fun x31 =>
    some x31)
    else
    some false))):Option Bool).bind fun o_122 =>
    (bif o_122 then
    ((Mb x_v10 ([x_v11]:List Int)).bind fun x36 =>
    ((KP 8 x_v11).bind fun x38 =>
    ((Ar.setI x_v12 x_v11 true).bind fun u_186 =>
    Bp n n_ x15 x36 (IntKind.i64.wrap (x_v11+1)) u_186)))
    else
    Bp n n_ x15 x_v10 (IntKind.i64.wrap (x_v11+1)) x_v12))
    else
    some (x_v10,x_v12))
def Da (n:Nat) (n_:Cj):Option (List (List Int)) :=
  ((CD n n_.yard n_.broken).bind fun x14 =>
  ((Bu n (fun(s:(List (List Int))×Ar)(x15:Int)=>((((Bp n n_ x15 ([]:List Int) 0 s.2).bind fun o_104 =>
  ((AU n o_104.1 (fun(y0:Int)(y1:Int)=>BF n y0 y1 n_)).bind fun x42 =>
  ((KP 8 x15).bind fun x44 =>
  ((Ar.setI o_104.2 x15 true).bind fun u_233 =>
  ((Mb s.1 ([x42]:List (List Int))).bind fun x48 =>
  some (x48,u_233)))))):Option ((List (List Int))×Ar)).bind fun s1=>some (s1,true))) (([]:List (List Int)),(Ar.mk false false false false false false false false)) x14).bind fun o_65 =>
  some o_65.1))
def Fe (n:Nat) (y:Ag) (lanes:List Int) (order:List Int) (broken:List Int):Option ((List Int)×Int) :=
  ((Fq n y lanes order broken).bind fun x18 =>
  (bif (x18.2 != 0) then
  some (([]:List Int),x18.2)
  else
  ((Da n x18.1).bind fun x25 =>
  ((C9 n x25).bind fun x26 =>
  ((Oc x26).bind fun u_80 =>
  some (u_80,0))))))
def Be:Nat→Ag→(List Int)→Ar→(List Av)→Int→Option (List Av)
  | 0,_,_,_,_,_=>none
  | n+1,y,lanes,broken,x_v10,x_v11 =>
    (bif decide (x_v11<((y.buses.length:Nat):Int)) then
    ((KP 8 x_v11).bind fun x50 =>
    ((Bv broken.toL x_v11).bind fun x51 =>
    (bif x51 then
    ((Bv lanes x_v11).bind fun x55 =>
    ((Bv x_v10 x55).bind fun x57 =>
    ((Mb x57.buses ([x_v11]:List Int)).bind fun x65 =>
    ((upd x_v10 x55 ({ x57 with buses:=x65 }:Av)).bind fun u_307 =>
    Be n y lanes broken u_307 (IntKind.i64.wrap (x_v11+1))))))
    else
    Be n y lanes broken x_v10 (IntKind.i64.wrap (x_v11+1)))))
    else
    some x_v10)
def Cr (n:Nat) (y:Ag) (lanes:List Int) (broken:Ar):Option (List Av) :=
  ((mk ((y.room.length:Nat):Int) ((Av.mk ([]:List Int) 0):Av)).bind fun x15 =>
  ((CD n y broken).bind fun x18 =>
  ((Bu n (fun(s:List Av)(x19:Int)=>((((Bv lanes x19).bind fun x23 =>
  ((Bv s x23).bind fun x25 =>
  ((Mb x25.buses ([x19]:List Int)).bind fun x33 =>
  ((upd s x23 ({ x25 with buses:=x33 }:Av)).bind fun u_144 =>
  ((upd u_144 x23 ({ ({ x25 with buses:=x33 }:Av) with down:=IntKind.i64.wrap (x25.down+1) }:Av)).bind fun u_169 =>
  some u_169))))):Option (List Av)).bind fun s1=>some (s1,true))) x15 x18).bind fun o_65 =>
  ((Be n y lanes broken o_65 0).bind fun o_223 =>
  some o_223))))
mutual
def Ba:Nat→Ar→Int→Ag→(List Ar)→Int→Option (List Ar)
  | 0,_,_,_,_,_=>none
  | n+1,s_,more,y,x_v10,x_v11 =>
    (((bif decide (x_v11<((y.buses.length:Nat):Int)) then
    some (decide (more>0))
    else
    some false):Option Bool).bind fun o_61 =>
    (bif o_61 then
    ((KP 8 x_v11).bind fun x29 =>
    ((Ar.setI s_ x_v11 true).bind fun u_95 =>
    ((lane_Yard_breaks_1 n u_95 (IntKind.i64.wrap (x_v11+1)) (IntKind.i64.wrap (more-1)) x_v10 y).bind fun x36 =>
    Ba n s_ more y x36 (IntKind.i64.wrap (x_v11+1)))))
    else
    some x_v10))
def lane_Yard_breaks_1:Nat→Ar→Int→Int→(List Ar)→Ag→Option (List Ar)
  | 0,_,_,_,_,_=>none
  | n+1,s_,from_,more,out,y =>
    ((Mb out ([s_]:List Ar)).bind fun x14 =>
    ((Ba n s_ more y x14 from_).bind fun o_48 =>
    some o_48))
end
def C4 (n:Nat) (y:Ag):Option (List Ar) :=
  ((lane_Yard_breaks_1 n (Ar.mk false false false false false false false false) 0 y.broken ([]:List Ar) y).bind fun x9 =>
  some x9)
def Bm (n:Nat) (b:Bb):Option Int :=
  some b.lo
def Bd (n:Nat) (b:Bb):Option Int :=
  some b.hi
def II (n:Nat)  : Option (List BP) :=
  some ([(BP.mk (fun(y0:Bb)=>Bm n y0)),(BP.mk (fun(y0:Bb)=>Bd n y0))]:List BP)
mutual
def AH:Nat→Bt→Av→Ag→Int→(List BP)→Int→Ao→Int→(List (Bt×AM))→Option (Ao×Int×(List (Bt×AM)))
  | 0,_,_,_,_,_,_,_,_,_=>none
  | n+1,s_,c,y,x35,x37,x_v10,x_v11,x_v12,x_v13 =>
    (bif decide (x_v10<((x37.length:Nat):Int)) then
    ((Bv x37 x_v10).bind fun x42 =>
    ((Bv y.buses x35).bind fun x49 =>
    ((x42.tm x49).bind fun x51 =>
    (((bif decide (s_.behind<c.down) then
    ((C0 n ([s_.last,x51]:List Int)).bind fun x67 =>
    some x67)
    else
    some s_.last):Option Int).bind fun o_184 =>
    ((lane_Yard_worst_1 n (Bt.mk (IntKind.i64.wrap (s_.behind+1)) o_184) c x_v13 y).bind fun x71 =>
    (((bif decide (x51≤s_.last) then
    some (IntKind.i64.wrap (x71.1.many+1))
    else
    some x71.1.many):Option Int).bind fun o_249 =>
    (((bif (x_v10 == 0) then
    some true
    else
    some (decide (o_249>x_v12))):Option Bool).bind fun o_263 =>
    (bif o_263 then
    ((KP 8 x35).bind fun x93 =>
    ((Ao.setI x71.1.tm x35 x51).bind fun u_292 =>
    AH n s_ c y x35 x37 (IntKind.i64.wrap (x_v10+1)) u_292 o_249 x71.2))
    else
    AH n s_ c y x35 x37 (IntKind.i64.wrap (x_v10+1)) x_v11 x_v12 x71.2))))))))
    else
    some (x_v11,x_v12,x_v13))
def lane_Yard_worst_1:Nat→Bt→Av→(List (Bt×AM))→Ag→Option (AM×(List (Bt×AM)))
  | 0,_,_,_,_=>none
  | n+1,s_,c,known,y =>
    (bif (s_.behind == ((c.buses.length:Nat):Int)) then
    some ((AM.mk 0 (Ao.mk 0 0 0 0 0 0 0 0)),known)
    else
    ((some (DX known s_ ((AM.mk 0 (Ao.mk 0 0 0 0 0 0 0 0)):AM))).bind fun x26 =>
    (bif x26.2 then
    some (x26.1,known)
    else
    ((Bv c.buses s_.behind).bind fun x35 =>
    ((II n ).bind fun x37 =>
    ((AH n s_ c y x35 x37 0 (Ao.mk 0 0 0 0 0 0 0 0) 0 known).bind fun o_98 =>
    some ((AM.mk o_98.2.1 o_98.1),(Gn o_98.2.2 s_ (AM.mk o_98.2.1 o_98.1)))))))))
end
def BV (n:Nat) (y:Ag) (c:Av):Option AM :=
  ((lane_Yard_worst_1 n (Bt.mk 0 (-1)) c ([]:List (Bt×AM)) y).bind fun x11 =>
  some x11.1)
def Bz:Nat→Av→AM→Int→Ao→Option Ao
  | 0,_,_,_,_=>none
  | n+1,x30,x34,x_v30,x_v31 =>
    (bif decide (x_v30<((x30.buses.length:Nat):Int)) then
    ((Bv x30.buses x_v30).bind fun x44 =>
    ((KP 8 x44).bind fun x49 =>
    ((Bv x34.tm.toL x44).bind fun x50 =>
    ((KP 8 x44).bind fun x51 =>
    ((Ao.setI x_v31 x44 x50).bind fun u_213 =>
    Bz n x30 x34 (IntKind.i64.wrap (x_v30+1)) u_213)))))
    else
    some x_v31)
def B0:Nat→Ag→(List Av)→Int→Int→Ao→Option (Int×Ao)
  | 0,_,_,_,_,_=>none
  | n+1,y,x26,x_v20,x_v21,x_v22 =>
    (bif decide (x_v20<((x26.length:Nat):Int)) then
    ((Bv x26 x_v20).bind fun x30 =>
    ((BV n y x30).bind fun x34 =>
    ((Bz n x30 x34 0 x_v22).bind fun o_170 =>
    B0 n y x26 (IntKind.i64.wrap (x_v20+1)) (IntKind.i64.wrap (x_v21+x34.many)) o_170)))
    else
    some (x_v21,x_v22))
def Bf:Nat→Ag→(List Int)→(List Ar)→Int→Int→Ao→Ar→Option (Int×Ao×Ar)
  | 0,_,_,_,_,_,_,_=>none
  | n+1,y,lanes,x17,x_v10,x_v11,x_v12,x_v13 =>
    (bif decide (x_v10<((x17.length:Nat):Int)) then
    ((Bv x17 x_v10).bind fun x21 =>
    ((Cr n y lanes x21).bind fun x26 =>
    ((B0 n y x26 0 0 (Ao.mk 0 0 0 0 0 0 0 0)).bind fun o_104 =>
    (bif decide (o_104.1>x_v11) then
    Bf n y lanes x17 (IntKind.i64.wrap (x_v10+1)) o_104.1 o_104.2 x21
    else
    Bf n y lanes x17 (IntKind.i64.wrap (x_v10+1)) x_v11 x_v12 x_v13))))
    else
    some (x_v11,x_v12,x_v13))
def CH (n:Nat) (y:Ag) (lanes:List Int):Option (Ao×Ar×Int) :=
  ((C4 n y).bind fun x17 =>
  ((Bf n y lanes x17 0 (-1) (Ao.mk 0 0 0 0 0 0 0 0) (Ar.mk false false false false false false false false)).bind fun o_42 =>
  some (o_42.2.1,o_42.2.2,o_42.1)))
def B9 (n:Nat) (b:Int) (q0:Ar) (q1:Ag):Option Int :=
  ((KP 8 b).bind fun x6 =>
  ((Bv q0.toL b).bind fun x7 =>
  (bif x7 then
  some 2001
  else
  ((Bv q1.buses b).bind fun x11 =>
  some x11.turn))))
def BM:Nat→(List Int)→Int→Option (Ex Int Unit)
  | 0,_,_=>none
  | n+1,vals,x_v10 =>
    (bif decide (x_v10<((vals.length:Nat):Int)) then
    ((Bv vals x_v10).bind fun x10 =>
    (bif (x10 != 0) then
    some (Ex.ret x10)
    else
    BM n vals (IntKind.i64.wrap (x_v10+1))))
    else
    some (Ex.go ()))
def FT (n:Nat) (vals:List Int):Option Int :=
  ((BM n vals 0).bind fun o_8=>Ex.bind o_8 (fun r=>some r) fun s_9 =>
  some 0)
def Db (n:Nat) (a:Int) (b:Int) (q0:Ao) (q1:Int→Option Int):Option Int :=
  ((KP 8 a).bind fun x8 =>
  ((Bv q0.toL a).bind fun x9 =>
  ((KP 8 b).bind fun x11 =>
  ((Bv q0.toL b).bind fun x12 =>
  ((q1 b).bind fun x16 =>
  ((q1 a).bind fun x19 =>
  ((FT n ([IntKind.i64.wrap (x9-x12),IntKind.i64.wrap (x16-x19),IntKind.i64.wrap (a-b)]:List Int)).bind fun x25 =>
  some x25)))))))
def C1:Nat→Ag→(Ao×Ar×Int)→(List Int)→(List Int)→Int→Option ((List Int)×(List Int))
  | 0,_,_,_,_,_=>none
  | n+1,y,x25,x_v10,x_v11,x_v12 =>
    (bif decide (x_v12<((y.buses.length:Nat):Int)) then
    ((Mb x_v10 ([x_v12]:List Int)).bind fun x38 =>
    ((KP 8 x_v12).bind fun x40 =>
    ((Bv x25.2.1.toL x_v12).bind fun x41 =>
    (bif x41 then
    ((Mb x_v11 ([x_v12]:List Int)).bind fun x45 =>
    C1 n y x25 x38 x45 (IntKind.i64.wrap (x_v12+1)))
    else
    C1 n y x25 x38 x_v11 (IntKind.i64.wrap (x_v12+1))))))
    else
    some (x_v10,x_v11))
def Dc (n:Nat) (y:Ag) (lanes:List Int):Option ((List Int)×(List Int)×Int×Int) :=
  ((Ct n y).bind fun x14 =>
  (bif (x14 != 0) then
  some (([]:List Int),([]:List Int),0,x14)
  else
  ((CC n y lanes).bind fun x20 =>
  (bif (!x20) then
  some (([]:List Int),([]:List Int),0,2)
  else
  ((CH n y lanes).bind fun x25 =>
  ((C1 n y x25 ([]:List Int) ([]:List Int) 0).bind fun o_99 =>
  ((AU n o_99.1 (fun(y0:Int)(y1:Int)=>Db n y0 y1 x25.1 (fun(y0:Int)=>B9 n y0 x25.2.1 y))).bind fun x50 =>
  some (x50,o_99.2,x25.2.2,0))))))))
def Cl:Nat→Av→Int→Ar→Ar→Option (Ar×Ar)
  | 0,_,_,_,_=>none
  | n+1,x31,x_v30,x_v31,x_v32 =>
    (bif decide (x_v30<((x31.buses.length:Nat):Int)) then
    ((Bv x31.buses x_v30).bind fun x39 =>
    ((KP 8 x39).bind fun x48 =>
    ((Ar.setI x_v31 x39 true).bind fun us0 =>
    ((KP 8 x39).bind fun x50 =>
    ((Ar.setI x_v32 x39 (decide (x_v30≥x31.down))).bind fun us1 =>
    Cl n x31 (IntKind.i64.wrap (x_v30+1)) us0 us1)))))
    else
    some (x_v31,x_v32))
def Cm:Nat→Int→Ag→(List Av)→Int→Int→(List (Ev×Int))→Option (Int×(List (Ev×Int)))
  | 0,_,_,_,_,_,_=>none
  | n+1,many,y,x27,x_v20,x_v21,x_v22 =>
    (bif decide (x_v20<((x27.length:Nat):Int)) then
    ((Bv x27 x_v20).bind fun x31 =>
    ((Cl n x31 0 (Ar.mk false false false false false false false false) (Ar.mk false false false false false false false false)).bind fun o_134 =>
    ((some (DX x_v22 (Ev.mk o_134.1 o_134.2) (0:Int))).bind fun x55 =>
    (bif (!x55.2) then
    ((BV n y x31).bind fun x64 =>
    ((some (DX (Gn x_v22 (Ev.mk o_134.1 o_134.2) x64.many) (Ev.mk o_134.1 o_134.2) (0:Int))).bind fun x69 =>
    Cm n many y x27 (IntKind.i64.wrap (x_v20+1)) (IntKind.i64.wrap (x_v21+x69.1)) (Gn x_v22 (Ev.mk o_134.1 o_134.2) x64.many)))
    else
    ((some (DX x_v22 (Ev.mk o_134.1 o_134.2) (0:Int))).bind fun x69 =>
    Cm n many y x27 (IntKind.i64.wrap (x_v20+1)) (IntKind.i64.wrap (x_v21+x69.1)) x_v22)))))
    else
    some (x_v21,x_v22))
def Cn:Nat→(List Int)→Bool→Int→(List Ar)→Ag→Int→Int→(List (Ev×Int))→Option (Int×(List (Ev×Int)))
  | 0,_,_,_,_,_,_,_,_=>none
  | n+1,l,found,many,breaks,y,x_v10,x_v11,x_v12 =>
    (bif decide (x_v10<((breaks.length:Nat):Int)) then
    ((Bv breaks x_v10).bind fun x22 =>
    ((Cr n y l x22).bind fun x27 =>
    ((Cm n many y x27 0 0 x_v12).bind fun o_84 =>
    ((C0 n ([x_v11,o_84.1]:List Int)).bind fun x75 =>
    (bif found then
    (bif decide (x75≥many) then
    some (x75,o_84.2)
    else
    Cn n l found many breaks y (IntKind.i64.wrap (x_v10+1)) x75 o_84.2)
    else
    Cn n l found many breaks y (IntKind.i64.wrap (x_v10+1)) x75 o_84.2)))))
    else
    some (x_v11,x_v12))
def Ff (n:Nat) (l:List Int) (found:Bool) (many:Int) (breaks:List Ar) (y:Ag) (known:List (Ev×Int)):Option (Int×(List (Ev×Int))) :=
  ((Cn n l found many breaks y 0 0 known).bind fun o_21 =>
  some (o_21.1,o_21.2))
mutual
def Co:Nat→(List Int)→(List Int)→Ag→(List Ar)→(List Int)→Int→Bool→Int→(List Int)→(List (Ev×Int))→Option ((List Int)×Bool×Int×(List Int)×(List (Ev×Int)))
  | 0,_,_,_,_,_,_,_,_,_,_=>none
  | n+1,l,room,y,breaks,x_v10,x_v11,x_v12,x_v13,x_v14,x_v15 =>
    (bif decide (x_v11<((room.length:Nat):Int)) then
    ((Bv x_v10 x_v11).bind fun x37 =>
    (bif decide (x37>0) then
    ((Bv x_v10 x_v11).bind fun x42 =>
    ((Bv x_v10 x_v11).bind fun x45 =>
    ((upd x_v10 x_v11 (IntKind.i64.wrap (x42-1))).bind fun u_235 =>
    ((Mb l ([x_v11]:List Int)).bind fun x50 =>
    ((lane_Best_2 n x50 x_v12 x_v13 x_v14 u_235 y breaks x_v15).bind fun x51 =>
    ((Bv x51.2.2.2.1 x_v11).bind fun x54 =>
    ((Bv x51.2.2.2.1 x_v11).bind fun x57 =>
    ((upd x51.2.2.2.1 x_v11 (IntKind.i64.wrap (x54+1))).bind fun u_331 =>
    Co n l room y breaks u_331 (IntKind.i64.wrap (x_v11+1)) x51.1 x51.2.1 x51.2.2.1 x51.2.2.2.2))))))))
    else
    Co n l room y breaks x_v10 (IntKind.i64.wrap (x_v11+1)) x_v12 x_v13 x_v14 x_v15))
    else
    some (x_v10,x_v12,x_v13,x_v14,x_v15))
def lane_Best_2:Nat→(List Int)→Bool→Int→(List Int)→(List Int)→Ag→(List Ar)→(List (Ev×Int))→Option (Bool×Int×(List Int)×(List Int)×(List (Ev×Int)))
  | 0,_,_,_,_,_,_,_,_=>none
  | n+1,l,found,many,best,room,y,breaks,known =>
    (bif (((l.length:Nat):Int) == ((y.buses.length:Nat):Int)) then
    ((Ff n l found many breaks y known).bind fun x19 =>
    (((bif (!found) then
    some true
    else
    some (decide (x19.1<many))):Option Bool).bind fun o_63 =>
    (((bif o_63 then
    ((Bw n l).bind fun x28 =>
    some (true,x19.1,x28))
    else
    some (found,many,best)):Option (Bool×Int×(List Int))).bind fun o_79 =>
    some (o_79.1,o_79.2.1,o_79.2.2,room,x19.2))))
    else
    ((Co n l room y breaks room 0 found many best known).bind fun o_166 =>
    some (o_166.2.1,o_166.2.2.1,o_166.2.2.2.1,o_166.1,o_166.2.2.2.2)))
end
def DF (n:Nat) (y:Ag):Option ((List Int)×Int×Int) :=
  ((Ct n y).bind fun x14 =>
  (bif (x14 != 0) then
  some (([]:List Int),0,x14)
  else
  ((C4 n y).bind fun x19 =>
  ((Bw n y.room).bind fun x22 =>
  ((lane_Best_2 n ([]:List Int) false 0 ([]:List Int) x22 y x19 ([]:List (Ev×Int))).bind fun x27 =>
  (bif (!x27.1) then
  some (([]:List Int),0,9)
  else
  some (x27.2.2.1,x27.2.1,0)))))))
def GK (n:Nat)  : Option Ag :=
  some (Ag.mk ([2,2]:List Int) ([Bb.mk 100 120 40,Bb.mk 110 130 20,Bb.mk 125 140 30,Bb.mk 150 160 10]:List Bb) 0)
def D2:Nat→(List Int)→(List Int)→Int→Option (Ex Bool Unit)
  | 0,_,_,_=>none
  | n+1,a,b,x_v10 =>
    (bif decide (x_v10<((a.length:Nat):Int)) then
    ((Bv a x_v10).bind fun x19 =>
    ((Bv b x_v10).bind fun x23 =>
    (bif (x19 != x23) then
    some (Ex.ret false)
    else
    D2 n a b (IntKind.i64.wrap (x_v10+1)))))
    else
    some (Ex.go ()))
def FU (n:Nat) (a:List Int) (b:List Int):Option Bool :=
  (bif (((a.length:Nat):Int) != ((b.length:Nat):Int)) then
  some false
  else
  ((D2 n a b 0).bind fun o_11=>Ex.bind o_11 (fun r=>some r) fun s_12 =>
  some true))
def Cf (n:Nat)  : Option Bool :=
  ((GK n ).bind fun x11 =>
  ((Fe n x11 ([0,0,1,1]:List Int) ([0,1,2,3]:List Int) ([]:List Int)).bind fun x14 =>
  ((GK n ).bind fun x18 =>
  ((Dc n x18 ([0,1,1,0]:List Int)).bind fun x20 =>
  ((GK n ).bind fun x26 =>
  ((DF n x26).bind fun x27 =>
  (bif (x14.2 == 0) then
  ((FU n x14.1 ([0,2]:List Int)).bind fun x36 =>
  (bif x36 then
  (bif (x20.2.2.2 == 0) then
  (bif (x20.2.2.1 == 2) then
  (bif (x27.2.2 == 0) then
  (bif (x27.2.1 == 2) then
  ((FU n x27.1 ([0,0,1,1]:List Int)).bind fun x57 =>
  some x57)
  else
  some false)
  else
  some false)
  else
  some false)
  else
  some false)
  else
  some false))
  else
  some false)))))))
def Dj (n:Nat) (l:List Int):Option (List Int) :=
  ((Mb ([]:List Int) l).bind fun x4 =>
  some x4)
def D3:Nat→Ag→(List Bb)→Int→Option (List Bb)
  | 0,_,_,_=>none
  | n+1,y,x_v10,x_v11 =>
    (bif decide (x_v11<((y.buses.length:Nat):Int)) then
    ((Bv y.buses x_v11).bind fun x22 =>
    ((Mb x_v10 ([x22]:List Bb)).bind fun x34 =>
    D3 n y x34 (IntKind.i64.wrap (x_v11+1))))
    else
    some x_v10)
def Dk (n:Nat) (y:Ag):Option Ag :=
  ((Dj n y.room).bind fun x8 =>
  ((D3 n y ([]:List Bb) 0).bind fun o_50 =>
  some (Ag.mk x8 o_50 y.broken)))
def HX (n:Nat) (n_:Int) (low:Int) (high:Int):Option Bool :=
  (bif decide (n_≥low) then
  some (decide (n_≤high))
  else
  some false)
def Dd:Nat→Ag→Int→Option (Ex Int Unit)
  | 0,_,_=>none
  | n+1,y,x_v10 =>
    (bif decide (x_v10<((y.room.length:Nat):Int)) then
    ((Bv y.room x_v10).bind fun x37 =>
    ((HX n x37 0 8).bind fun x39 =>
    (bif (!x39) then
    some (Ex.ret 1)
    else
    Dd n y (IntKind.i64.wrap (x_v10+1)))))
    else
    some (Ex.go ()))
def De:Nat→Ag→Int→Bb→Int→Option (Ex Int Unit)
  | 0,_,_,_,_=>none
  | n+1,y,x_v20,x51,x_v30 =>
    (bif decide (x_v30<x_v20) then
    ((Bv y.buses x_v30).bind fun x78 =>
    (bif (x78.turn == x51.turn) then
    some (Ex.ret 1)
    else
    De n y x_v20 x51 (IntKind.i64.wrap (x_v30+1))))
    else
    some (Ex.go ()))
def Df:Nat→Ag→Int→Option (Ex Int Unit)
  | 0,_,_=>none
  | n+1,y,x_v20 =>
    (bif decide (x_v20<((y.buses.length:Nat):Int)) then
    ((Bv y.buses x_v20).bind fun x51 =>
    ((((HX n x51.lo 0 x51.hi).bind fun x57 =>
    (bif (!x57) then
    some true
    else
    (bif decide (x51.hi>2000) then
    some true
    else
    ((HX n x51.turn 0 2000).bind fun x67 =>
    some (!x67))))):Option Bool).bind fun o_162 =>
    (bif o_162 then
    some (Ex.ret 1)
    else
    ((De n y x_v20 x51 0).bind fun o_211=>Ex.bind o_211 (fun r=>some (Ex.ret r)) fun s_212 =>
    Df n y (IntKind.i64.wrap (x_v20+1))))))
    else
    some (Ex.go ()))
def FF (n:Nat) (y:Ag):Option Int :=
  (((bif decide (((y.room.length:Nat):Int)>3) then
  some true
  else
  some (decide (((y.buses.length:Nat):Int)>8))):Option Bool).bind fun o_14 =>
  (bif o_14 then
  some 3
  else
  (((bif decide (((y.room.length:Nat):Int)<1) then
  some true
  else
  ((HX n y.broken 0 2).bind fun x24 =>
  some (!x24))):Option Bool).bind fun o_33 =>
  (bif o_33 then
  some 1
  else
  ((Dd n y 0).bind fun o_65=>Ex.bind o_65 (fun r=>some r) fun s_66 =>
  ((Df n y 0).bind fun o_120=>Ex.bind o_120 (fun r=>some r) fun s_121 =>
  some 0))))))
def FG (n:Nat) (y:Ag):Option Bool :=
  ((HW n y).bind fun x4 =>
  (bif x4 then
  ((FF n y).bind fun x7 =>
  some (x7 == 0))
  else
  some false))
def Ej:Nat→(List Int)→Int→Int→Option (Ex Bool Unit)
  | 0,_,_,_=>none
  | n+1,l,n_,x_v10 =>
    (bif decide (x_v10<((l.length:Nat):Int)) then
    ((Bv l x_v10).bind fun x14 =>
    (bif (x14 == n_) then
    some (Ex.ret true)
    else
    Ej n l n_ (IntKind.i64.wrap (x_v10+1))))
    else
    some (Ex.go ()))
def Kk (n:Nat) (l:List Int) (n_:Int):Option Bool :=
  ((Ej n l n_ 0).bind fun o_6=>Ex.bind o_6 (fun r=>some r) fun s_7 =>
  some false)
def CI:Nat→Ag→(List Int)→Int→Option (List Int)
  | 0,_,_,_=>none
  | n+1,y,x_v20,x_v21 =>
    (((bif decide (x_v21>0) then
    ((Bv x_v20 x_v21).bind fun x32 =>
    ((Bv y.buses x32).bind fun x34 =>
    ((Bv x_v20 (IntKind.i64.wrap (x_v21-1))).bind fun x42 =>
    ((Bv y.buses x42).bind fun x44 =>
    some (decide (x34.turn<x44.turn))))))
    else
    some false):Option Bool).bind fun o_105 =>
    (bif o_105 then
    ((Bv x_v20 (IntKind.i64.wrap (x_v21-1))).bind fun x59 =>
    ((Bv x_v20 x_v21).bind fun x63 =>
    ((Bv x_v20 x_v21).bind fun x65 =>
    ((upd x_v20 x_v21 x59).bind fun u_225 =>
    ((Bv u_225 (IntKind.i64.wrap (x_v21-1))).bind fun x66 =>
    ((upd u_225 (IntKind.i64.wrap (x_v21-1)) x63).bind fun u_249 =>
    CI n y u_249 (IntKind.i64.wrap (x_v21-1))))))))
    else
    some x_v20))
def CJ:Nat→Ag→(List Int)→(List Int)→Int→Option (List Int)
  | 0,_,_,_,_=>none
  | n+1,y,broken,x_v10,x_v11 =>
    (bif decide (x_v11<((y.buses.length:Nat):Int)) then
    ((Kk n broken x_v11).bind fun x17 =>
    (bif x17 then
    CJ n y broken x_v10 (IntKind.i64.wrap (x_v11+1))
    else
    ((Mb x_v10 ([x_v11]:List Int)).bind fun x21 =>
    ((CI n y x21 (IntKind.i64.wrap (((x21.length:Nat):Int)-1))).bind fun o_92 =>
    CJ n y broken o_92 (IntKind.i64.wrap (x_v11+1))))))
    else
    some x_v10)
def GL (n:Nat) (y:Ag) (broken:List Int):Option (List Int) :=
  ((CJ n y broken ([]:List Int) 0).bind fun o_29 =>
  some o_29)
def HY (n:Nat) (words:List (IK .u16)) (at_:Int):Option Int :=
  (bif (((words.length:Nat):Int) == 0) then
  some 0
  else
  ((nz ((words.length:Nat):Int)).bind fun x12 =>
  ((Bv words (Int.tmod at_ ((words.length:Nat):Int))).bind fun x13 =>
  some (IntKind.i64.wrap x13.n))))
def CK:Nat→Ag→(List Int)→(List Int)→Int→Int→Option Int
  | 0,_,_,_,_,_=>none
  | n+1,y,x14,x_v10,x_v20,x_v21 =>
    (((bif decide (x_v20<((y.room.length:Nat):Int)) then
    ((Bv x_v10 x_v21).bind fun x39 =>
    ((Bv y.room x_v21).bind fun x44 =>
    some (decide (x39≥x44))))
    else
    some false):Option Bool).bind fun o_98 =>
    (bif o_98 then
    ((nz ((y.room.length:Nat):Int)).bind fun x55 =>
    CK n y x14 x_v10 (IntKind.i64.wrap (x_v20+1)) (Int.tmod (IntKind.i64.wrap (x_v21+1)) ((y.room.length:Nat):Int)))
    else
    some x_v21))
def CL:Nat→Ag→(List (IK .u16))→(List Int)→(List Int)→(List Int)→Int→Option (Ex ((List Int)×Bool) ((List Int)×(List Int)))
  | 0,_,_,_,_,_,_=>none
  | n+1,y,words,x14,x_v10,x_v11,x_v12 =>
    (bif decide (x_v12<((y.buses.length:Nat):Int)) then
    ((HY n words (IntKind.i64.wrap ((IntKind.i64.wrap (5*x_v12))+1))).bind fun x26 =>
    ((nz ((y.room.length:Nat):Int)).bind fun x30 =>
    ((CK n y x14 x_v10 0 (Int.tmod x26 ((y.room.length:Nat):Int))).bind fun o_85 =>
    ((Bv x_v10 o_85).bind fun x58 =>
    ((Bv y.room o_85).bind fun x63 =>
    (bif decide (x58≥x63) then
    some (Ex.ret (([]:List Int),false))
    else
    ((Bv x_v10 o_85).bind fun x68 =>
    ((Bv x_v10 o_85).bind fun x71 =>
    ((upd x_v10 o_85 (IntKind.i64.wrap (x68+1))).bind fun u_220 =>
    ((Mb x_v11 ([o_85]:List Int)).bind fun x75 =>
    CL n y words x14 u_220 x75 (IntKind.i64.wrap (x_v12+1))))))))))))
    else
    some (Ex.go (x_v10,x_v11)))
def EP (n:Nat) (y:Ag) (words:List (IK .u16)):Option ((List Int)×Bool) :=
  ((mk ((y.room.length:Nat):Int) (0:Int)).bind fun x14 =>
  ((CL n y words x14 x14 ([]:List Int) 0).bind fun o_51=>Ex.bind o_51 (fun r=>some r) fun s_52 =>
  some (s_52.2,true)))
def EY (n:Nat) (y:Ag) (which:IK .u8) (at_:IK .u8) (by_:IK .u16) (words:List (IK .u16)):Option Bool :=
  ((FG n y).bind fun x32 =>
  (bif (!x32) then
  ((Cf n ).bind fun x34 =>
  some x34)
  else
  ((Dj n y.room).bind fun x38 =>
  ((Mb ([]:List Bb) y.buses).bind fun x42 =>
  (((bif ((Int.tmod which.n 4) == 0) then
  some (x42,x38,if (IntKind.i64.wrap ((IntKind.i64.wrap (y.broken-1))-(Int.tmod (Int.tmod (IntKind.i64.wrap by_.n) 40) 2)))>0 then(IntKind.i64.wrap ((IntKind.i64.wrap (y.broken-1))-(Int.tmod (Int.tmod (IntKind.i64.wrap by_.n) 40) 2))) else 0)
  else
  (bif ((Int.tmod which.n 4) == 1) then
  ((nz ((x38.length:Nat):Int)).bind fun x69 =>
  ((Bv x38 (Int.tmod (IntKind.i64.wrap at_.n) ((x38.length:Nat):Int))).bind fun x76 =>
  ((Bv x38 (Int.tmod (IntKind.i64.wrap at_.n) ((x38.length:Nat):Int))).bind fun x82 =>
  ((upd x38 (Int.tmod (IntKind.i64.wrap at_.n) ((x38.length:Nat):Int)) (if (IntKind.i64.wrap (x76+(Int.tmod (Int.tmod (IntKind.i64.wrap by_.n) 40) 3)))<8 then(IntKind.i64.wrap (x76+(Int.tmod (Int.tmod (IntKind.i64.wrap by_.n) 40) 3))) else 8)).bind fun u_152 =>
  some (x42,u_152,y.broken)))))
  else
  (bif decide (((x42.length:Nat):Int)>0) then
  ((nz ((x42.length:Nat):Int)).bind fun x95 =>
  ((Bv x42 (Int.tmod (IntKind.i64.wrap at_.n) ((x42.length:Nat):Int))).bind fun x96 =>
  (bif ((Int.tmod which.n 4) == 2) then
  ((upd x42 (Int.tmod (IntKind.i64.wrap at_.n) ((x42.length:Nat):Int)) (Bb.mk (if (IntKind.i64.wrap (x96.lo+(Int.tmod (IntKind.i64.wrap by_.n) 40)))<x96.hi then(IntKind.i64.wrap (x96.lo+(Int.tmod (IntKind.i64.wrap by_.n) 40))) else x96.hi) x96.hi x96.turn)).bind fun u_191 =>
  some (u_191,x38,y.broken))
  else
  ((upd x42 (Int.tmod (IntKind.i64.wrap at_.n) ((x42.length:Nat):Int)) (Bb.mk x96.lo (if (IntKind.i64.wrap (x96.hi-(Int.tmod (IntKind.i64.wrap by_.n) 40)))>x96.lo then(IntKind.i64.wrap (x96.hi-(Int.tmod (IntKind.i64.wrap by_.n) 40))) else x96.lo) x96.turn)).bind fun u_205 =>
  some (u_205,x38,y.broken)))))
  else
  some (x42,x38,y.broken)))):Option ((List Bb)×(List Int)×Int)).bind fun o_95 =>
  ((Dk n y).bind fun x130 =>
  ((DF n x130).bind fun x131 =>
  ((Dk n (Ag.mk o_95.2.1 o_95.1 o_95.2.2)).bind fun x137 =>
  ((DF n x137).bind fun x138 =>
  (bif (x131.2.2 != 0) then
  (((bif (x131.2.2 == 9) then
  (bif (x138.2.2 == 0) then
  ((Cf n ).bind fun x155 =>
  some x155)
  else
  (bif (x138.2.2 == 9) then
  ((Cf n ).bind fun x155 =>
  some x155)
  else
  some false))
  else
  some false):Option Bool).bind fun o_292 =>
  some o_292)
  else
  ((EP n y words).bind fun x160 =>
  ((Dk n y).bind fun x165 =>
  ((Dj n x160.1).bind fun x167 =>
  ((Dc n x165 x167).bind fun x168 =>
  ((Dk n (Ag.mk o_95.2.1 o_95.1 o_95.2.2)).bind fun x175 =>
  ((Dj n x160.1).bind fun x177 =>
  ((Dc n x175 x177).bind fun x178 =>
  (bif (x138.2.2 == 0) then
  (bif x160.2 then
  (bif (x168.2.2.2 == 0) then
  (bif (x178.2.2.2 == 0) then
  (bif decide (x138.2.1≤x131.2.1) then
  (bif decide (x178.2.2.1≤x168.2.2.1) then
  ((Cf n ).bind fun x207 =>
  some x207)
  else
  some false)
  else
  some false)
  else
  some false)
  else
  some false)
  else
  some false)
  else
  some false))))))))))))))))))
def BC:Nat→(IK .u16)→(List Int)→(List Bb)→Int→Option (List Bb)
  | 0,_,_,_,_=>none
  | n+1,by_,x49,x_v10,x_v11 =>
    (bif decide (x_v11<((x49.length:Nat):Int)) then
    ((Bv x49 x_v11).bind fun x60 =>
    ((Bv x_v10 x60).bind fun x62 =>
    ((upd x_v10 x60 (Bb.mk (IntKind.i64.wrap (x62.lo+(IntKind.i64.wrap by_.n))) x62.hi x62.turn)).bind fun u_181 =>
    ((upd u_181 x60 (Bb.mk (IntKind.i64.wrap (x62.lo+(IntKind.i64.wrap by_.n))) (IntKind.i64.wrap (x62.hi+(IntKind.i64.wrap by_.n))) x62.turn)).bind fun u_196 =>
    ((upd u_196 x60 (Bb.mk (IntKind.i64.wrap (x62.lo+(IntKind.i64.wrap by_.n))) (IntKind.i64.wrap (x62.hi+(IntKind.i64.wrap by_.n))) (IntKind.i64.wrap ((IntKind.i64.wrap (3*x_v11))+1)))).bind fun u_211 =>
    BC n by_ x49 u_211 (IntKind.i64.wrap (x_v11+1)))))))
    else
    some x_v10)
def AF:Nat→Ag→(Bool×(List Int))→(List Int)→Int→Int→Bool→Bool→Option (Bool×Bool)
  | 0,_,_,_,_,_,_,_=>none
  | n+1,y,o_27,x49,x_v20,x_v30,x_v31,x_v32 =>
    (bif decide (x_v30<x_v20) then
    (((bif x_v32 then
    ((Bv x49 x_v20).bind fun x173 =>
    ((Bv o_27.2 x173).bind fun x175 =>
    ((Bv x49 x_v30).bind fun x180 =>
    ((Bv o_27.2 x180).bind fun x182 =>
    some (x175 != x182)))))
    else
    some false):Option Bool).bind fun o_513 =>
    (bif x_v31 then
    ((Bv x49 x_v30).bind fun x192 =>
    ((Bv y.buses x192).bind fun x194 =>
    ((Bv x49 x_v20).bind fun x201 =>
    ((Bv y.buses x201).bind fun x203 =>
    AF n y o_27 x49 x_v20 (IntKind.i64.wrap (x_v30+1)) (decide (x194.hi<x203.lo)) o_513))))
    else
    AF n y o_27 x49 x_v20 (IntKind.i64.wrap (x_v30+1)) false o_513))
    else
    some (x_v31,x_v32))
def Bj:Nat→Ag→(Bool×(List Int))→(List Int)→Int→Bool→Bool→Option (Bool×Bool)
  | 0,_,_,_,_,_,_=>none
  | n+1,y,o_27,x49,x_v20,x_v21,x_v22 =>
    (bif decide (x_v20<((x49.length:Nat):Int)) then
    ((AF n y o_27 x49 x_v20 0 x_v21 x_v22).bind fun o_497 =>
    Bj n y o_27 x49 (IntKind.i64.wrap (x_v20+1)) o_497.1 o_497.2)
    else
    some (x_v21,x_v22))
def B1:Nat→Ag→(Bool×(List Int))→(List Int)→Int→Int→Bool→Bool→Option (Bool×Bool)
  | 0,_,_,_,_,_,_,_=>none
  | n+1,y,o_27,x49,x_v40,x_v50,x_v51,x_v52 =>
    (bif decide (x_v50<x_v40) then
    (((bif x_v52 then
    ((Bv x49 x_v40).bind fun x173 =>
    ((Bv o_27.2 x173).bind fun x175 =>
    ((Bv x49 x_v50).bind fun x180 =>
    ((Bv o_27.2 x180).bind fun x182 =>
    some (x175 != x182)))))
    else
    some false):Option Bool).bind fun o_760 =>
    (bif x_v51 then
    ((Bv x49 x_v50).bind fun x192 =>
    ((Bv y.buses x192).bind fun x194 =>
    ((Bv x49 x_v40).bind fun x201 =>
    ((Bv y.buses x201).bind fun x203 =>
    B1 n y o_27 x49 x_v40 (IntKind.i64.wrap (x_v50+1)) (decide (x194.hi<x203.lo)) o_760))))
    else
    B1 n y o_27 x49 x_v40 (IntKind.i64.wrap (x_v50+1)) false o_760))
    else
    some (x_v51,x_v52))
def BD:Nat→Ag→(Bool×(List Int))→(List Int)→Int→Bool→Bool→Option (Bool×Bool)
  | 0,_,_,_,_,_,_=>none
  | n+1,y,o_27,x49,x_v40,x_v41,x_v42 =>
    (bif decide (x_v40<((x49.length:Nat):Int)) then
    ((B1 n y o_27 x49 x_v40 0 x_v41 x_v42).bind fun o_744 =>
    BD n y o_27 x49 (IntKind.i64.wrap (x_v40+1)) o_744.1 o_744.2)
    else
    some (x_v41,x_v42))
def Ef (n:Nat) (y:Ag) (words:List (IK .u16)) (by_:IK .u16):Option Bool :=
  ((FG n y).bind fun x32 =>
  (((bif x32 then
  ((EP n y words).bind fun x36 =>
  some (x36.2,x36.1))
  else
  some (false,([]:(List Int)))):Option (Bool×(List Int))).bind fun o_27 =>
  (bif (!o_27.1) then
  ((Cf n ).bind fun x41 =>
  some x41)
  else
  ((Mb ([]:List Bb) y.buses).bind fun x46 =>
  ((GL n y ([]:List Int)).bind fun x49 =>
  ((BC n by_ x49 x46 0).bind fun o_132 =>
  ((Dk n y).bind fun x91 =>
  ((Dj n o_27.2).bind fun x93 =>
  ((Dc n x91 x93).bind fun x94 =>
  (bif (x94.2.2.2 != 0) then
  some false
  else
  ((FF n (Ag.mk y.room o_132 y.broken)).bind fun x102 =>
  (bif (x102 == 0) then
  ((Dk n (Ag.mk y.room o_132 y.broken)).bind fun x106 =>
  ((Dj n o_27.2).bind fun x108 =>
  ((Dc n x106 x108).bind fun x109 =>
  ((Dk n y).bind fun x116 =>
  ((DF n x116).bind fun x117 =>
  ((Dk n (Ag.mk y.room o_132 y.broken)).bind fun x123 =>
  ((DF n x123).bind fun x124 =>
  (((bif (x109.2.2.2 != 0) then
  some true
  else
  (bif (x109.2.2.1 != x94.2.2.1) then
  some true
  else
  (bif (x117.2.2 != 0) then
  some true
  else
  (bif (x124.2.2 != 0) then
  some true
  else
  (bif (x117.2.1 != x124.2.1) then
  some true
  else
  ((FU n x117.1 x124.1).bind fun x151 =>
  some (!x151))))))):Option Bool).bind fun o_416 =>
  (bif o_416 then
  some false
  else
  ((Bj n y o_27 x49 0 (y.broken == 0) true).bind fun o_478 =>
  (bif (!o_478.2) then
  (bif (!o_478.1) then
  ((Cf n ).bind fun x219 =>
  some x219)
  else
  (bif (x94.2.2.1 == 0) then
  ((Cf n ).bind fun x219 =>
  some x219)
  else
  some false))
  else
  (bif (x94.2.2.1 == 0) then
  ((Cf n ).bind fun x219 =>
  some x219)
  else
  some false))))))))))))
  else
  ((BD n y o_27 x49 0 (y.broken == 0) true).bind fun o_725 =>
  (bif (!o_725.2) then
  (bif (!o_725.1) then
  ((Cf n ).bind fun x219 =>
  some x219)
  else
  (bif (x94.2.2.1 == 0) then
  ((Cf n ).bind fun x219 =>
  some x219)
  else
  some false))
  else
  (bif (x94.2.2.1 == 0) then
  ((Cf n ).bind fun x219 =>
  some x219)
  else
  some false)))))))))))))))
abbrev XZ:=@Option.some.inj
abbrev XY:=@Exists.intro
abbrev XX:=@Option.bind_some
abbrev XW:=@cond_true
abbrev XV:=@cond_false
abbrev XU:=@Ac.le_trans
abbrev XT:=@wp_seq
end Go.Proofs.Ythcbemnflgjadaa
