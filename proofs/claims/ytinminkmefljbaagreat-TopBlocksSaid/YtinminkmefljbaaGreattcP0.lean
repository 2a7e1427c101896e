/- What the functions compute, in plain Lean. -/
import Derived.Test.YtinminkmefljbaaGreattcS7
import Derived.Test.YtinminkmefljbaaGreatProg
import Derived.Lib.BitFns
set_option linter.all false
namespace Go.Proofs.YtinminkmefljbaaGreat
open Go Go.RowKit
open Rep (rep)
open KRep (kv)
open VRep (rv)
def UV (h:Ac) (v:Value) (f:Int→Option Bool):Prop:=∀ (h':Ac)(w':World),Ac.le h h'→CK h' w'→∀ (x0:Int)(r:Bool),f x0=some r→H7 Tryz.prog v #[.int .i64 x0] w' (CP (fun h v=>v=.bool r) h' w')
theorem UV.mono {h h':Ac} {v:Value} {f:Int→Option Bool} (H:UV h v f) (hle:Ac.le h h'):UV h' v f:=fun h2 w2 l=>H h2 w2 (Ac.le_trans hle l)
instance : Rep (Int→Option Bool):=⟨1,fun h f cs=>∃ fn first cap,cs=[.func fn first cap]∧UV h (.func fn first cap) f,fun hle ⟨a,b,c,e,hr⟩=>⟨a,b,c,e,hr.mono hle⟩,fun⟨a,b,c,e,_⟩=>by subst e; rfl,fun⟨a,b,c,e,_⟩ v hv=>by subst e; simp at hv; subst hv; rfl⟩
structure Cn where
  lo:Int
  hi:Int
  turn:Int
deriving DecidableEq,Inhabited
instance : Rep Cn:=Rep.via fun x=>(x.lo,x.hi,x.turn)
instance : VRep Cn:=VRep.agg Cn
def Wx (h:Ac) (v:Value) (f:Cn→Option Bool):Prop:=∀ (h':Ac)(w':World),Ac.le h h'→CK h' w'→∀ (x0:Cn)(cs0:List Value)(_:rep h' x0 cs0)(r:Bool),f x0=some r→H7 Tryz.prog v #[.agg cs0.toArray] w' (CP (fun h v=>v=.bool r) h' w')
theorem Wx.mono {h h':Ac} {v:Value} {f:Cn→Option Bool} (H:Wx h v f) (hle:Ac.le h h'):Wx h' v f:=fun h2 w2 l=>H h2 w2 (Ac.le_trans hle l)
instance : Rep (Cn→Option Bool):=⟨1,fun h f cs=>∃ fn first cap,cs=[.func fn first cap]∧Wx h (.func fn first cap) f,fun hle ⟨a,b,c,e,hr⟩=>⟨a,b,c,e,hr.mono hle⟩,fun⟨a,b,c,e,_⟩=>by subst e; rfl,fun⟨a,b,c,e,_⟩ v hv=>by subst e; simp at hv; subst hv; rfl⟩
structure Am where
  room:List Int
  lG:List Cn
  broken:Int
deriving DecidableEq,Inhabited
instance : Rep Am:=Rep.via fun x=>(x.room,x.lG,x.broken)
instance : VRep Am:=VRep.agg Am
structure A0 where
  a0:Int
  a1:Int
  a2:Int
  a3:Int
  a4:Int
  a5:Int
  a6:Int
  a7:Int
deriving DecidableEq,Inhabited
instance : Rep A0:=Rep.via fun x=>(x.a0,x.a1,x.a2,x.a3,x.a4,x.a5,x.a6,x.a7)
instance : VRep A0:=VRep.agg A0
def A0.toL (x:A0):List Int:=[x.a0,x.a1,x.a2,x.a3,x.a4,x.a5,x.a6,x.a7]
def A0.ofL:List Int→Option A0
  | [a0,a1,a2,a3,a4,a5,a6,a7]=>some ⟨a0,a1,a2,a3,a4,a5,a6,a7⟩
  | _=>none
theorem A0.ofL_some {l:List Int} {y:A0} (h:A0.ofL l=some y):y.toL=l:=by
  unfold A0.ofL at h
  split at h
  · cases h; rfl
  cases h
def A0.setI (x:A0) (i:Int) (v:Int):Option A0:=(upd x.toL i v).bind A0.ofL
theorem A0.setI_some {x y:A0} {i:Int} {v:Int} (h:x.setI i v=some y):0≤i∧i<8∧y.toL=x.toL.set i.toNat v:=by
  obtain⟨l,hl,h2⟩:=Ao h
  obtain⟨h0,h1,rfl⟩:=Cl hl
  exact⟨h0,h1,A0.ofL_some h2⟩
structure A1 where
  a0:Bool
  a1:Bool
  a2:Bool
  a3:Bool
  a4:Bool
  a5:Bool
  a6:Bool
  a7:Bool
deriving DecidableEq,Inhabited
instance : Rep A1:=Rep.via fun x=>(x.a0,x.a1,x.a2,x.a3,x.a4,x.a5,x.a6,x.a7)
instance : VRep A1:=VRep.agg A1
def A1.toL (x:A1):List Bool:=[x.a0,x.a1,x.a2,x.a3,x.a4,x.a5,x.a6,x.a7]
def A1.ofL:List Bool→Option A1
  | [a0,a1,a2,a3,a4,a5,a6,a7]=>some ⟨a0,a1,a2,a3,a4,a5,a6,a7⟩
  | _=>none
theorem A1.ofL_some {l:List Bool} {y:A1} (h:A1.ofL l=some y):y.toL=l:=by
  unfold A1.ofL at h
  split at h
  · cases h; rfl
  cases h
def A1.setI (x:A1) (i:Int) (v:Bool):Option A1:=(upd x.toL i v).bind A1.ofL
theorem A1.setI_some {x y:A1} {i:Int} {v:Bool} (h:x.setI i v=some y):0≤i∧i<8∧y.toL=x.toL.set i.toNat v:=by
  obtain⟨l,hl,h2⟩:=Ao h
  obtain⟨h0,h1,rfl⟩:=Cl hl
  exact⟨h0,h1,A1.ofL_some h2⟩
structure Cz where
  yard:Am
  lane:List Int
  tm:A0
  broken:A1
deriving DecidableEq,Inhabited
instance : Rep Cz:=Rep.via fun x=>(x.yard,x.lane,x.tm,x.broken)
instance : VRep Cz:=VRep.agg Cz
def We (h:Ac) (v:Value) (f:Int→Int→Option Int):Prop:=∀ (h':Ac)(w':World),Ac.le h h'→CK h' w'→∀ (x0:Int)(x1:Int)(r:Int),f x0 x1=some r→H7 Tryz.prog v #[.int .i64 x0,.int .i64 x1] w' (CP (fun h v=>v=.int .i64 r) h' w')
theorem We.mono {h h':Ac} {v:Value} {f:Int→Int→Option Int} (H:We h v f) (hle:Ac.le h h'):We h' v f:=fun h2 w2 l=>H h2 w2 (Ac.le_trans hle l)
instance : Rep (Int→Int→Option Int):=⟨1,fun h f cs=>∃ fn first cap,cs=[.func fn first cap]∧We h (.func fn first cap) f,fun hle ⟨a,b,c,e,hr⟩=>⟨a,b,c,e,hr.mono hle⟩,fun⟨a,b,c,e,_⟩=>by subst e; rfl,fun⟨a,b,c,e,_⟩ v hv=>by subst e; simp at hv; subst hv; rfl⟩
def X3 (h:Ac) (v:Value) (f:Int→Int→Option Bool):Prop:=∀ (h':Ac)(w':World),Ac.le h h'→CK h' w'→∀ (x0:Int)(x1:Int)(r:Bool),f x0 x1=some r→H7 Tryz.prog v #[.int .i64 x0,.int .i64 x1] w' (CP (fun h v=>v=.bool r) h' w')
theorem X3.mono {h h':Ac} {v:Value} {f:Int→Int→Option Bool} (H:X3 h v f) (hle:Ac.le h h'):X3 h' v f:=fun h2 w2 l=>H h2 w2 (Ac.le_trans hle l)
instance : Rep (Int→Int→Option Bool):=⟨1,fun h f cs=>∃ fn first cap,cs=[.func fn first cap]∧X3 h (.func fn first cap) f,fun hle ⟨a,b,c,e,hr⟩=>⟨a,b,c,e,hr.mono hle⟩,fun⟨a,b,c,e,_⟩=>by subst e; rfl,fun⟨a,b,c,e,_⟩ v hv=>by subst e; simp at hv; subst hv; rfl⟩
structure A4 where
  lG:List Int
  down:Int
deriving DecidableEq,Inhabited
instance : Rep A4:=Rep.via fun x=>(x.lG,x.down)
instance : VRep A4:=VRep.agg A4
def Xy (h:Ac) (v:Value) (f:Cn→Option Int):Prop:=∀ (h':Ac)(w':World),Ac.le h h'→CK h' w'→∀ (x0:Cn)(cs0:List Value)(_:rep h' x0 cs0)(r:Int),f x0=some r→H7 Tryz.prog v #[.agg cs0.toArray] w' (CP (fun h v=>v=.int .i64 r) h' w')
theorem Xy.mono {h h':Ac} {v:Value} {f:Cn→Option Int} (H:Xy h v f) (hle:Ac.le h h'):Xy h' v f:=fun h2 w2 l=>H h2 w2 (Ac.le_trans hle l)
instance : Rep (Cn→Option Int):=⟨1,fun h f cs=>∃ fn first cap,cs=[.func fn first cap]∧Xy h (.func fn first cap) f,fun hle ⟨a,b,c,e,hr⟩=>⟨a,b,c,e,hr.mono hle⟩,fun⟨a,b,c,e,_⟩=>by subst e; rfl,fun⟨a,b,c,e,_⟩ v hv=>by subst e; simp at hv; subst hv; rfl⟩
structure Cg where
  tm:Cn→Option Int
instance : Rep Cg:=Rep.via fun x=>(x.tm)
instance : VRep Cg:=VRep.agg Cg
structure B7 where
  behind:Int
  last:Int
deriving DecidableEq,Inhabited
instance : Rep B7:=Rep.via fun x=>(x.behind,x.last)
instance : VRep B7:=VRep.agg B7
structure AX where
  many:Int
  tm:A0
deriving DecidableEq,Inhabited
instance : Rep AX:=Rep.via fun x=>(x.many,x.tm)
instance : VRep AX:=VRep.agg AX
instance : KRep B7:=⟨fun x=>.agg #[.int .i64 x.behind,.int .i64 x.last],fun {a b} h=>by
  rcases a with⟨a0,a1⟩
  rcases b with⟨b0,b1⟩
  simp_all⟩
structure Fy where
  lG:A1
  down:A1
deriving DecidableEq,Inhabited
instance : Rep Fy:=Rep.via fun x=>(x.lG,x.down)
instance : VRep Fy:=VRep.agg Fy
instance : KRep Fy:=⟨fun x=>.agg #[.bool x.lG.a0,.bool x.lG.a1,.bool x.lG.a2,.bool x.lG.a3,.bool x.lG.a4,.bool x.lG.a5,.bool x.lG.a6,.bool x.lG.a7,.bool x.down.a0,.bool x.down.a1,.bool x.down.a2,.bool x.down.a3,.bool x.down.a4,.bool x.down.a5,.bool x.down.a6,.bool x.down.a7],fun {a b} h=>by
  rcases a with⟨⟨a0,a1,a2,a3,a4,a5,a6,a7⟩,⟨a8,a9,a10,a11,a12,a13,a14,a15⟩⟩
  rcases b with⟨⟨b0,b1,b2,b3,b4,b5,b6,b7⟩,⟨b8,b9,b10,b11,b12,b13,b14,b15⟩⟩
  simp_all⟩
structure AH where
  fr:Int
  to_:Int
  start:Int
  least:Int
  most:Int
  kind:Int
deriving DecidableEq,Inhabited
instance : Rep AH:=Rep.via fun x=>(x.fr,x.to_,x.start,x.least,x.most,x.kind)
instance : VRep AH:=VRep.agg AH
structure An where
  places:Int
  layover:Int
  empty:List (List Int)
  trips:List AH
deriving DecidableEq,Inhabited
instance : Rep An:=Rep.via fun x=>(x.places,x.layover,x.empty,x.trips)
instance : VRep An:=VRep.agg An
def Wy (h:Ac) (v:Value) (f:(List Int)→Option Bool):Prop:=∀ (h':Ac)(w':World),Ac.le h h'→CK h' w'→∀ (x0:List Int)(a0:Option Addr)(c0:Nat)(_:At h' a0 c0 x0)(r:Bool),f x0=some r→H7 Tryz.prog v #[.slice a0 x0.length c0] w' (CP (fun h v=>v=.bool r) h' w')
theorem Wy.mono {h h':Ac} {v:Value} {f:(List Int)→Option Bool} (H:Wy h v f) (hle:Ac.le h h'):Wy h' v f:=fun h2 w2 l=>H h2 w2 (Ac.le_trans hle l)
instance : Rep ((List Int)→Option Bool):=⟨1,fun h f cs=>∃ fn first cap,cs=[.func fn first cap]∧Wy h (.func fn first cap) f,fun hle ⟨a,b,c,e,hr⟩=>⟨a,b,c,e,hr.mono hle⟩,fun⟨a,b,c,e,_⟩=>by subst e; rfl,fun⟨a,b,c,e,_⟩ v hv=>by subst e; simp at hv; subst hv; rfl⟩
def Wz (h:Ac) (v:Value) (f:AH→Option Bool):Prop:=∀ (h':Ac)(w':World),Ac.le h h'→CK h' w'→∀ (x0:AH)(cs0:List Value)(_:rep h' x0 cs0)(r:Bool),f x0=some r→H7 Tryz.prog v #[.agg cs0.toArray] w' (CP (fun h v=>v=.bool r) h' w')
theorem Wz.mono {h h':Ac} {v:Value} {f:AH→Option Bool} (H:Wz h v f) (hle:Ac.le h h'):Wz h' v f:=fun h2 w2 l=>H h2 w2 (Ac.le_trans hle l)
instance : Rep (AH→Option Bool):=⟨1,fun h f cs=>∃ fn first cap,cs=[.func fn first cap]∧Wz h (.func fn first cap) f,fun hle ⟨a,b,c,e,hr⟩=>⟨a,b,c,e,hr.mono hle⟩,fun⟨a,b,c,e,_⟩=>by subst e; rfl,fun⟨a,b,c,e,_⟩ v hv=>by subst e; simp at hv; subst hv; rfl⟩
def X4 (h:Ac) (v:Value) (f:AH→Option Int):Prop:=∀ (h':Ac)(w':World),Ac.le h h'→CK h' w'→∀ (x0:AH)(cs0:List Value)(_:rep h' x0 cs0)(r:Int),f x0=some r→H7 Tryz.prog v #[.agg cs0.toArray] w' (CP (fun h v=>v=.int .i64 r) h' w')
theorem X4.mono {h h':Ac} {v:Value} {f:AH→Option Int} (H:X4 h v f) (hle:Ac.le h h'):X4 h' v f:=fun h2 w2 l=>H h2 w2 (Ac.le_trans hle l)
instance : Rep (AH→Option Int):=⟨1,fun h f cs=>∃ fn first cap,cs=[.func fn first cap]∧X4 h (.func fn first cap) f,fun hle ⟨a,b,c,e,hr⟩=>⟨a,b,c,e,hr.mono hle⟩,fun⟨a,b,c,e,_⟩=>by subst e; rfl,fun⟨a,b,c,e,_⟩ v hv=>by subst e; simp at hv; subst hv; rfl⟩
structure N0 where
  of_:AH→Option Int
instance : Rep N0:=Rep.via fun x=>(x.of_)
instance : VRep N0:=VRep.agg N0
structure BK where
  table:An
  follows:List (List Int)
  next:List Int
  before:List Int
deriving DecidableEq,Inhabited
instance : Rep BK:=Rep.via fun x=>(x.table,x.follows,x.next,x.before)
instance : VRep BK:=VRep.agg BK
structure DL where
  a0:Bool
  a1:Bool
  a2:Bool
  a3:Bool
  a4:Bool
  a5:Bool
  a6:Bool
  a7:Bool
  a8:Bool
  a9:Bool
  a10:Bool
  a11:Bool
deriving DecidableEq,Inhabited
instance : Rep DL:=Rep.via fun x=>(x.a0,x.a1,x.a2,x.a3,x.a4,x.a5,x.a6,x.a7,x.a8,x.a9,x.a10,x.a11)
instance : VRep DL:=VRep.agg DL
def DL.toL (x:DL):List Bool:=[x.a0,x.a1,x.a2,x.a3,x.a4,x.a5,x.a6,x.a7,x.a8,x.a9,x.a10,x.a11]
def DL.ofL:List Bool→Option DL
  | [a0,a1,a2,a3,a4,a5,a6,a7,a8,a9,a10,a11]=>some ⟨a0,a1,a2,a3,a4,a5,a6,a7,a8,a9,a10,a11⟩
  | _=>none
theorem DL.ofL_some {l:List Bool} {y:DL} (h:DL.ofL l=some y):y.toL=l:=by
  unfold DL.ofL at h
  split at h
  · cases h; rfl
  cases h
def DL.setI (x:DL) (i:Int) (v:Bool):Option DL:=(upd x.toL i v).bind DL.ofL
theorem DL.setI_some {x y:DL} {i:Int} {v:Bool} (h:x.setI i v=some y):0≤i∧i<12∧y.toL=x.toL.set i.toNat v:=by
  obtain⟨l,hl,h2⟩:=Ao h
  obtain⟨h0,h1,rfl⟩:=Cl hl
  exact⟨h0,h1,DL.ofL_some h2⟩
def CM (n:Nat) (n_:Int) (low:Int) (high:Int):Option Bool :=
  (bif decide (low≤n_) then
  some (decide (n_≤high))
  else
  some false)
def CS (n:Nat) (x:Int) (q0:Int→Option Bool):Option Bool :=
  ((q0 x).bind fun x6 =>
  some (!x6))
def AF:Nat→(List Int)→(Int→Option Bool)→Int→Option (Ex Int Unit)
  | 0,_,_,_=>none
  | n+1,s,f,aB =>
    (bif decide (aB<((s.length:Nat):Int)) then
    ((Bm s aB).bind fun cQ =>
    ((f cQ).bind fun cT =>
    (bif cT then
    some (Ex.ret aB)
    else
    AF n s f (IntKind.i64.wrap (aB+1)))))
    else
    some (Ex.go ()))
def BQ (n:Nat) (s:List Int) (f:Int→Option Bool):Option Int :=
  ((AF n s f 0).bind fun kL=>Ex.bind kL (fun r=>some r) fun s_7 =>
  some (-1))
def Bf (n:Nat) (s:List Int) (f:Int→Option Bool):Option Bool :=
  ((BQ n s f).bind fun x7 =>
  some (decide (x7≥0)))
def E7 (n:Nat) (l:List Int) (right:Int→Option Bool):Option Bool :=
  ((Bf n l (fun(y0:Int)=>CS n y0 right)).bind fun x7 =>
  some (!x7))
def C2 (n:Nat) (b:Cn):Option Bool :=
  ((CM n b.lo 0 b.hi).bind fun x7 =>
  (bif x7 then
  (bif decide (b.hi≤2000) then
  ((CM n b.turn 0 2000).bind fun cT =>
  some cT)
  else
  some false)
  else
  some false))
def BJ (n:Nat) (x:Cn) (q0:Cn→Option Bool):Option Bool :=
  ((q0 x).bind fun x6 =>
  some (!x6))
def AA:Nat→(List Cn)→(Cn→Option Bool)→Int→Option (Ex Int Unit)
  | 0,_,_,_=>none
  | n+1,s,f,aB =>
    (bif decide (aB<((s.length:Nat):Int)) then
    ((Bm s aB).bind fun cQ =>
    ((f cQ).bind fun cT =>
    (bif cT then
    some (Ex.ret aB)
    else
    AA n s f (IntKind.i64.wrap (aB+1)))))
    else
    some (Ex.go ()))
def Bw (n:Nat) (s:List Cn) (f:Cn→Option Bool):Option Int :=
  ((AA n s f 0).bind fun kL=>Ex.bind kL (fun r=>some r) fun s_7 =>
  some (-1))
def Bg (n:Nat) (s:List Cn) (f:Cn→Option Bool):Option Bool :=
  ((Bw n s f).bind fun x7 =>
  some (decide (x7≥0)))
def CC (n:Nat) (l:List Cn) (right:Cn→Option Bool):Option Bool :=
  ((Bg n l (fun(y0:Cn)=>BJ n y0 right)).bind fun x7 =>
  some (!x7))
def Ch (n:Nat) (n_:Int):Option Bool :=
  ((CM n n_ 0 8).bind fun x4 =>
  some x4)
def BU:Nat→Am→Int→(List (Int×Bool))→Option (Ex Int (List (Int×Bool)))
  | 0,_,_,_=>none
  | n+1,y,aB,aA =>
    (bif decide (aB<((y.lG.length:Nat):Int)) then
    ((Bm y.lG aB).bind fun fN =>
    ((some (ES aA fN.turn (false:Bool))).bind fun x53 =>
    (bif x53.1 then
    some (Ex.ret 1)
    else
    BU n y (IntKind.i64.wrap (aB+1)) (Hp aA fN.turn true))))
    else
    some (Ex.go aA))
def CE (n:Nat) (y:Am):Option Int :=
  (((bif decide (((y.room.length:Nat):Int)>3) then
  some true
  else
  some (decide (((y.lG.length:Nat):Int)>8))):Option Bool).bind fun o_16 =>
  (bif o_16 then
  some 3
  else
  (((bif (((y.room.length:Nat):Int) == 0) then
  some true
  else
  ((CM n y.broken 0 2).bind fun cJ =>
  (bif (!cJ) then
  some true
  else
  ((E7 n y.room (fun(y0:Int)=>Ch n y0)).bind fun fU =>
  (bif (!fU) then
  some true
  else
  ((CC n y.lG (fun(y0:Cn)=>C2 n y0)).bind fun fO =>
  some (!fO))))))):Option Bool).bind fun o_35 =>
  (bif o_35 then
  some 1
  else
  ((BU n y 0 ([]:List (Int×Bool))).bind fun o_115=>Ex.bind o_115 (fun r=>some r) fun s_116 =>
  some 0)))))
def BB (n:Nat) (s:List Int):Option (List Int) :=
  ((Ih ([]:List Int) s).bind fun x7 =>
  some x7)
def BV:Nat→(List Int)→(List Int)→Int→Option (Ex Bool (List Int))
  | 0,_,_,_=>none
  | n+1,l,aB,aA =>
    (bif decide (aA<((l.length:Nat):Int)) then
    ((Bm l aA).bind fun cR =>
    ((((CM n cR 0 (IntKind.i64.wrap (((aB.length:Nat):Int)-1))).bind fun dG =>
    (bif (!dG) then
    some true
    else
    ((Bm aB cR).bind fun jL =>
    some (jL == 0)))):Option Bool).bind fun o_78 =>
    (bif o_78 then
    some (Ex.ret false)
    else
    ((Bm aB cR).bind fun eJ =>
    ((Bm aB cR).bind fun x41 =>
    ((upd aB cR (IntKind.i64.wrap (eJ-1))).bind fun u_152 =>
    BV n l u_152 (IntKind.i64.wrap (aA+1))))))))
    else
    some (Ex.go aB))
def DM (n:Nat) (y:Am) (l:List Int):Option Bool :=
  (bif (((l.length:Nat):Int) != ((y.lG.length:Nat):Int)) then
  some false
  else
  ((BB n y.room).bind fun cT =>
  ((BV n l cT 0).bind fun o_47=>Ex.bind o_47 (fun r=>some r) fun s_48 =>
  some true)))
def B5:Nat→(List Int)→Int→Int→Option Int
  | 0,_,_,_=>none
  | n+1,x,aB,aA =>
    (bif decide (aB<((x.length:Nat):Int)) then
    ((Bm x aB).bind fun cR =>
    B5 n x (IntKind.i64.wrap (aB+1)) (if cR>aA then cR else aA))
    else
    some aA)
def CT (n:Nat) (x:List Int):Option Int :=
  (bif decide (((x.length:Nat):Int)<1) then
  none
  else
  ((Bm x 0).bind fun iM =>
  ((B5 n x 1 iM).bind fun o_25 =>
  some o_25)))
def CN (n:Nat) (l:List Int):Option Int :=
  ((CT n l).bind fun x4 =>
  some x4)
def DU (n:Nat) (y:Am) (n_:Int):Option Bool :=
  ((CM n n_ 0 (IntKind.i64.wrap (((y.lG.length:Nat):Int)-1))).bind fun iM =>
  some iM)
def B6:Nat→Am→(List Int)→Int→Int→A0→A1→Option (Ex (A0×Bool) (A0×A1))
  | 0,_,_,_,_,_,_=>none
  | n+1,y,order,aB,aA,aC,cA =>
    (bif decide (aB<((order.length:Nat):Int)) then
    ((Bm order aB).bind fun cB =>
    ((((DU n y cB).bind fun cJ =>
    (bif (!cJ) then
    some true
    else
    ((LZ 8 cB).bind fun dM =>
    ((Bm cA.toL cB).bind fun eH =>
    (bif eH then
    some true
    else
    ((Bm y.lG cB).bind fun cK =>
    some (decide (cK.hi<aA)))))))):Option Bool).bind fun o_73 =>
    (bif o_73 then
    some (Ex.ret (aC,false))
    else
    ((LZ 8 cB).bind fun iI =>
    ((A1.setI cA cB true).bind fun u_143 =>
    ((Bm y.lG cB).bind fun cO =>
    ((LZ 8 cB).bind fun gA =>
    ((CN n ([aA,cO.lo]:List Int)).bind fun x56 =>
    ((A0.setI aC cB aB).bind fun us0 =>
    B6 n y order (IntKind.i64.wrap (aB+1)) x56 us0 u_143)))))))))
    else
    some (Ex.go (aC,cA)))
def Cv (n:Nat) (y:Am) (order:List Int):Option (A0×Bool) :=
  (bif (((order.length:Nat):Int) != ((y.lG.length:Nat):Int)) then
  some ((A0.mk 0 0 0 0 0 0 0 0),false)
  else
  ((B6 n y order 0 0 (A0.mk 0 0 0 0 0 0 0 0) (A1.mk false false false false false false false false)).bind fun o_40=>Ex.bind o_40 (fun r=>some r) fun s_41 =>
  some (s_41.1,true)))
def Ci:Nat→Am→(List Int)→Int→Int→A1→Option (Ex (A1×Bool) A1)
  | 0,_,_,_,_,_=>none
  | n+1,y,broken,aB,aA,aC =>
    (bif decide (aB<((broken.length:Nat):Int)) then
    ((Bm broken aB).bind fun cC =>
    ((((DU n y cC).bind fun dX =>
    (bif (!dX) then
    some true
    else
    some (decide (cC≤aA)))):Option Bool).bind fun o_55 =>
    (bif o_55 then
    some (Ex.ret (aC,false))
    else
    ((LZ 8 cC).bind fun dG =>
    ((A1.setI aC cC true).bind fun u_95 =>
    Ci n y broken (IntKind.i64.wrap (aB+1)) cC u_95)))))
    else
    some (Ex.go aC))
def Er (n:Nat) (y:Am) (broken:List Int):Option (A1×Bool) :=
  ((Ci n y broken 0 (-1) (A1.mk false false false false false false false false)).bind fun o_24=>Ex.bind o_24 (fun r=>some r) fun s_25 =>
  some (s_25,decide (((broken.length:Nat):Int)≤y.broken)))
def Dc (n:Nat) (y:Am) (lanes:List Int) (order:List Int) (broken:List Int):Option (Cz×Int) :=
  ((CE n y).bind fun cT =>
  (bif (cT != 0) then
  some ((Cz.mk (Am.mk ([]:List Int) ([]:List Cn) 0) ([]:List Int) (A0.mk 0 0 0 0 0 0 0 0) (A1.mk false false false false false false false false)),cT)
  else
  ((Cv n y order).bind fun dA =>
  ((Er n y broken).bind fun dM =>
  (((bif (!dA.2) then
  some true
  else
  (bif (!dM.2) then
  some true
  else
  ((DM n y lanes).bind fun dI =>
  some (!dI)))):Option Bool).bind fun o_85 =>
  (bif o_85 then
  some ((Cz.mk (Am.mk ([]:List Int) ([]:List Cn) 0) ([]:List Int) (A0.mk 0 0 0 0 0 0 0 0) (A1.mk false false false false false false false false)),2)
  else
  some ((Cz.mk y lanes dA.1 dM.1),0)))))))
def Bd:Nat→(List (List Int))→Int→Int→Option Int
  | 0,_,_,_=>none
  | n+1,slices,aB,aA =>
    (bif decide (aB<((slices.length:Nat):Int)) then
    ((Bm slices aB).bind fun cC =>
    (bif decide ((IntKind.i64.wrap (aA+((cC.length:Nat):Int)))<0) then
    none
    else
    Bd n slices (IntKind.i64.wrap (aB+1)) (IntKind.i64.wrap (aA+((cC.length:Nat):Int)))))
    else
    some aA)
def Be:Nat→(List (List Int))→(List Int)→Int→Option (List Int)
  | 0,_,_,_=>none
  | n+1,slices,aD,aE =>
    (bif decide (aE<((slices.length:Nat):Int)) then
    ((Bm slices aE).bind fun gN =>
    ((Ih aD gN).bind fun fU =>
    Be n slices fU (IntKind.i64.wrap (aE+1))))
    else
    some aD)
def Ct (n:Nat) (slices:List (List Int)):Option (List Int) :=
  ((Bd n slices 0 0).bind fun o_8 =>
  ((Uc o_8).bind fun dA =>
  ((Be n slices ([]:List Int) 0).bind fun o_75 =>
  some o_75)))
def A6:Nat→Int→(Int→Int→Option Int)→(List Int)→Int→Option (List Int)
  | 0,_,_,_,_=>none
  | n+1,a,cmp,aD,aE =>
    (((bif decide (aE>a) then
    ((Bm aD aE).bind fun eC =>
    ((Bm aD (IntKind.i64.wrap (aE-1))).bind fun dM =>
    ((cmp eC dM).bind fun jL =>
    some (decide (jL<0)))))
    else
    some false):Option Bool).bind fun o_48 =>
    (bif o_48 then
    ((Bm aD (IntKind.i64.wrap (aE-1))).bind fun iI =>
    ((Bm aD aE).bind fun dY =>
    ((Bm aD aE).bind fun cG =>
    ((upd aD aE iI).bind fun u_155 =>
    ((Bm u_155 (IntKind.i64.wrap (aE-1))).bind fun cO =>
    ((upd u_155 (IntKind.i64.wrap (aE-1)) dY).bind fun u_178 =>
    A6 n a cmp u_178 (IntKind.i64.wrap (aE-1))))))))
    else
    some aD))
def A7:Nat→Int→Int→(Int→Int→Option Int)→(List Int)→Int→Option (List Int)
  | 0,_,_,_,_,_=>none
  | n+1,a,b,cmp,aB,aA =>
    (bif decide (aA<b) then
    ((A6 n a cmp aB aA).bind fun o_35 =>
    A7 n a b cmp o_35 (IntKind.i64.wrap (aA+1)))
    else
    some aB)
def Bi (n:Nat) (data:List Int) (a:Int) (b:Int) (cmp:Int→Int→Option Int):Option (List Int) :=
  ((A7 n a b cmp data (IntKind.i64.wrap (a+1))).bind fun o_10 =>
  some o_10)
def Gd (n:Nat) (x:IK .u64):Option Int:=if 0≤x.n∧x.n≤18446744073709551615 then some (Lib.bitLen x.n.toNat:Nat) else none
def B0:Nat→(List Int)→Int→Int→Int→(Int→Int→Option Int)→Option (Ex (List Int) Unit)
  | 0,_,_,_,_,_=>none
  | n+1,data,a,b,limit,cmp =>
    (bif decide ((IntKind.i64.wrap (b-a))≤12) then
    ((Bi n data a b cmp).bind fun dM =>
    some (Ex.ret dM))
    else
    (bif (limit == 0) then
    none
    else
    (bif (!true) then
    none
    else
    none)))
def Bu:Nat→(List Int)→Int→Int→Int→(Int→Int→Option Int)→Option (List Int)
  | 0,_,_,_,_,_=>none
  | n+1,data,a,b,limit,cmp =>
    ((B0 n data a b limit cmp ).bind fun kL=>Ex.bind kL (fun r=>some r) fun s_7 =>
    some data)
def AW (n:Nat) (x:List Int) (cmp:Int→Int→Option Int):Option (List Int) :=
  ((Gd n (IK.mk (IntKind.u64.wrap ((x.length:Nat):Int)))).bind fun cY =>
  ((Bu n x 0 ((x.length:Nat):Int) cY cmp).bind fun cC =>
  some cC))
def BL (n:Nat) (a:Int) (b:Int) (q0:Am):Option Int :=
  ((Bm q0.lG a).bind fun x9 =>
  ((Bm q0.lG b).bind fun dJ =>
  some (IntKind.i64.wrap (x9.turn-dJ.turn))))
def AV {σ:Type}:Nat→(σ→Int→Option (σ×Bool))→(List Int)→Int→σ→Option (Ex σ σ)
  | 0,_,_,_,_=>none
  | n+1,dT,q0,aB,aA =>
    (bif decide (aB<((q0.length:Nat):Int)) then
    ((Bm q0 aB).bind fun x9 =>
    ((dT aA x9).bind fun cC =>
    (bif (!cC.2) then
    some (Ex.ret cC.1)
    else
    AV n dT q0 (IntKind.i64.wrap (aB+1)) cC.1)))
    else
    some (Ex.go aA))
def B8 {σ:Type} (n:Nat) (dT:σ→Int→Option (σ×Bool)) (s:σ) (q0:List Int):Option σ :=
  ((AV n dT q0 0 s).bind fun o_13=>Ex.bind o_13 (fun r=>some r) fun s_14 =>
  some s_14)
def DY (n:Nat) (s:List Int):Option ((List Int)) :=
  some (s)
def BC:Nat→Am→A1→(List Int)→Int→Option (List Int)
  | 0,_,_,_,_=>none
  | n+1,y,broken,aB,aA =>
    (bif decide (aA<((y.lG.length:Nat):Int)) then
    ((LZ 8 aA).bind fun cQ =>
    ((Bm broken.toL aA).bind fun dJ =>
    (bif (!dJ) then
    ((Ih aB ([aA]:List Int)).bind fun cL =>
    BC n y broken cL (IntKind.i64.wrap (aA+1)))
    else
    BC n y broken aB (IntKind.i64.wrap (aA+1)))))
    else
    some aB)
def Dd (n:Nat) (y:Am) (broken:A1):Option ((List Int)) :=
  ((BC n y broken ([]:List Int) 0).bind fun o_34 =>
  ((AW n o_34 (fun(y0:Int)(y1:Int)=>BL n y0 y1 y)).bind fun dA =>
  ((DY n dA).bind fun cJ =>
  some (cJ))))
def CD (n:Nat) (n_:Cz) (b:Int) (c:Int):Option Bool :=
  ((Bm n_.lane b).bind fun iM =>
  ((Bm n_.lane c).bind fun dJ =>
  (bif (iM == dJ) then
  ((LZ 8 b).bind fun cR =>
  ((Bm n_.tm.toL b).bind fun cB =>
  ((LZ 8 c).bind fun eC =>
  ((Bm n_.tm.toL c).bind fun cJ =>
  some (decide (cB<cJ))))))
  else
  some false)))
def AR (n:Nat) (c:Int) (d:Int) (q0:Cz):Option Int :=
  ((LZ 8 c).bind fun x8 =>
  ((Bm q0.tm.toL c).bind fun x9 =>
  ((LZ 8 d).bind fun cI =>
  ((Bm q0.tm.toL d).bind fun cC =>
  some (IntKind.i64.wrap (x9-cC))))))
def AQ:Nat→Cz→Int→(List Int)→Int→A1→Option ((List Int)×A1)
  | 0,_,_,_,_,_=>none
  | n+1,n_,dJ,aB,aA,aC =>
    (bif decide (aA<((n_.yard.lG.length:Nat):Int)) then
    ((((LZ 8 aA).bind fun dA =>
    ((Bm aC.toL aA).bind fun eC =>
    (bif (!eC) then
    (((fun(y0:Int)(y1:Int)=>CD n n_ y0 y1) aA dJ).bind fun eH =>
    some eH)
    else
    some false))):Option Bool).bind fun o_122 =>
    (bif o_122 then
    ((Ih aB ([aA]:List Int)).bind fun cD =>
    ((LZ 8 aA).bind fun eJ =>
    ((A1.setI aC aA true).bind fun u_186 =>
    AQ n n_ dJ cD (IntKind.i64.wrap (aA+1)) u_186)))
    else
    AQ n n_ dJ aB (IntKind.i64.wrap (aA+1)) aC))
    else
    some (aB,aC))
def Cw (n:Nat) (n_:Cz):Option (List (List Int)) :=
  ((Dd n n_.yard n_.broken).bind fun cQ =>
  ((B8 n (fun(s:(List (List Int))×A1)(dJ:Int)=>((((AQ n n_ dJ ([]:List Int) 0 s.2).bind fun o_104 =>
  ((AW n o_104.1 (fun(y0:Int)(y1:Int)=>AR n y0 y1 n_)).bind fun dI =>
  ((LZ 8 dJ).bind fun dW =>
  ((A1.setI o_104.2 dJ true).bind fun u_233 =>
  ((Ih s.1 ([dI]:List (List Int))).bind fun fN =>
  some (fN,u_233)))))):Option ((List (List Int))×A1)).bind fun s1=>some (s1,true))) (([]:List (List Int)),(A1.mk false false false false false false false false)) cQ).bind fun kM =>
  some kM.1))
def Ft (n:Nat) (y:Am) (lanes:List Int) (order:List Int) (broken:List Int):Option ((List Int)×Int) :=
  ((Dc n y lanes order broken).bind fun cS =>
  (bif (cS.2 != 0) then
  some (([]:List Int),cS.2)
  else
  ((Cw n cS.1).bind fun eC =>
  ((Ct n eC).bind fun cJ =>
  ((Qo cJ).bind fun u_80 =>
  some (u_80,0))))))
def F0 (n:Nat) (y:Am) (lanes:List Int) (order:List Int) (broken:List Int):Option ((List (List Int))×Int) :=
  ((Dc n y lanes order broken).bind fun dX =>
  (bif (dX.2 != 0) then
  some (([]:List (List Int)),dX.2)
  else
  ((Cw n dX.1).bind fun dA =>
  some (dA,0))))
def Bp:Nat→Am→(List Int)→A1→(List A4)→Int→Option (List A4)
  | 0,_,_,_,_,_=>none
  | n+1,y,lanes,broken,aB,aA =>
    (bif decide (aA<((y.lG.length:Nat):Int)) then
    ((LZ 8 aA).bind fun jM =>
    ((Bm broken.toL aA).bind fun cG =>
    (bif cG then
    ((Bm lanes aA).bind fun gB =>
    ((Bm aB gB).bind fun gA =>
    ((Ih gA.lG ([aA]:List Int)).bind fun kE =>
    ((upd aB gB ({ gA with lG:=kE }:A4)).bind fun u_307 =>
    Bp n y lanes broken u_307 (IntKind.i64.wrap (aA+1))))))
    else
    Bp n y lanes broken aB (IntKind.i64.wrap (aA+1)))))
    else
    some aB)
def Dh (n:Nat) (y:Am) (lanes:List Int) (broken:A1):Option (List A4) :=
  ((mk ((y.room.length:Nat):Int) ((A4.mk ([]:List Int) 0):A4)).bind fun dJ =>
  ((Dd n y broken).bind fun cS =>
  ((B8 n (fun(s:List A4)(bZ:Int)=>((((Bm lanes bZ).bind fun eS =>
  ((Bm s eS).bind fun eC =>
  ((Ih eC.lG ([bZ]:List Int)).bind fun fU =>
  ((upd s eS ({ eC with lG:=fU }:A4)).bind fun u_144 =>
  ((upd u_144 eS ({ ({ eC with lG:=fU }:A4) with down:=IntKind.i64.wrap (eC.down+1) }:A4)).bind fun u_169 =>
  some u_169))))):Option (List A4)).bind fun s1=>some (s1,true))) dJ cS).bind fun kM =>
  ((Bp n y lanes broken kM 0).bind fun o_223 =>
  some o_223))))
mutual
def Bl:Nat→A1→Int→Am→(List A1)→Int→Option (List A1)
  | 0,_,_,_,_,_=>none
  | n+1,s_,more,y,aB,aA =>
    (((bif decide (aA<((y.lG.length:Nat):Int)) then
    some (decide (more>0))
    else
    some false):Option Bool).bind fun o_61 =>
    (bif o_61 then
    ((LZ 8 aA).bind fun gN =>
    ((A1.setI s_ aA true).bind fun u_95 =>
    ((lane_Yard_breaks_1 n u_95 (IntKind.i64.wrap (aA+1)) (IntKind.i64.wrap (more-1)) aB y).bind fun cD =>
    Bl n s_ more y cD (IntKind.i64.wrap (aA+1)))))
    else
    some aB))
def lane_Yard_breaks_1:Nat→A1→Int→Int→(List A1)→Am→Option (List A1)
  | 0,_,_,_,_,_=>none
  | n+1,s_,fG,more,out,y =>
    ((Ih out ([s_]:List A1)).bind fun cQ =>
    ((Bl n s_ more y cQ fG).bind fun o_48 =>
    some o_48))
end
def D1 (n:Nat) (y:Am):Option (List A1) :=
  ((lane_Yard_breaks_1 n (A1.mk false false false false false false false false) 0 y.broken ([]:List A1) y).bind fun x9 =>
  some x9)
def B1 (n:Nat) (b:Cn):Option Int :=
  some b.lo
def Bo (n:Nat) (b:Cn):Option Int :=
  some b.hi
def JM (n:Nat)  : Option (List Cg) :=
  some ([(Cg.mk (fun(y0:Cn)=>B1 n y0)),(Cg.mk (fun(y0:Cn)=>Bo n y0))]:List Cg)
mutual
def AN:Nat→B7→A4→Am→Int→(List Cg)→Int→A0→Int→(List (B7×AX))→Option (A0×Int×(List (B7×AX)))
  | 0,_,_,_,_,_,_,_,_,_=>none
  | n+1,s_,c,y,dC,cK,aB,aA,aC,cA =>
    (bif decide (aB<((cK.length:Nat):Int)) then
    ((Bm cK aB).bind fun dI =>
    ((Bm y.lG dC).bind fun dY =>
    ((dI.tm dY).bind fun cG =>
    (((bif decide (s_.behind<c.down) then
    ((CN n ([s_.last,cG]:List Int)).bind fun iT =>
    some iT)
    else
    some s_.last):Option Int).bind fun o_184 =>
    ((lane_Yard_worst_1 n (B7.mk (IntKind.i64.wrap (s_.behind+1)) o_184) c cA y).bind fun fJ =>
    (((bif decide (cG≤s_.last) then
    some (IntKind.i64.wrap (fJ.1.many+1))
    else
    some fJ.1.many):Option Int).bind fun o_249 =>
    (((bif (aB == 0) then
    some true
    else
    some (decide (o_249>aC))):Option Bool).bind fun o_263 =>
    (bif o_263 then
    ((LZ 8 dC).bind fun x93 =>
    ((A0.setI fJ.1.tm dC cG).bind fun u_292 =>
    AN n s_ c y dC cK (IntKind.i64.wrap (aB+1)) u_292 o_249 fJ.2))
    else
    AN n s_ c y dC cK (IntKind.i64.wrap (aB+1)) aA aC fJ.2))))))))
    else
    some (aA,aC,cA))
def lane_Yard_worst_1:Nat→B7→A4→(List (B7×AX))→Am→Option (AX×(List (B7×AX)))
  | 0,_,_,_,_=>none
  | n+1,s_,c,known,y =>
    (bif (s_.behind == ((c.lG.length:Nat):Int)) then
    some ((AX.mk 0 (A0.mk 0 0 0 0 0 0 0 0)),known)
    else
    ((some (ES known s_ ((AX.mk 0 (A0.mk 0 0 0 0 0 0 0 0)):AX))).bind fun cJ =>
    (bif cJ.2 then
    some (cJ.1,known)
    else
    ((Bm c.lG s_.behind).bind fun dC =>
    ((JM n ).bind fun cK =>
    ((AN n s_ c y dC cK 0 (A0.mk 0 0 0 0 0 0 0 0) 0 known).bind fun kN =>
    some ((AX.mk kN.2.1 kN.1),(Hp kN.2.2 s_ (AX.mk kN.2.1 kN.1)))))))))
end
def De (n:Nat) (y:Am) (c:A4):Option AX :=
  ((lane_Yard_worst_1 n (B7.mk 0 (-1)) c ([]:List (B7×AX)) y).bind fun cY =>
  some cY.1)
def C3:Nat→A4→Int→A1→A1→Option (A1×A1)
  | 0,_,_,_,_=>none
  | n+1,eH,bB,fV,dS =>
    (bif decide (bB<((eH.lG.length:Nat):Int)) then
    ((Bm eH.lG bB).bind fun fO =>
    ((LZ 8 fO).bind fun fN =>
    ((A1.setI fV fO true).bind fun us0 =>
    ((LZ 8 fO).bind fun jM =>
    ((A1.setI dS fO (decide (bB≥eH.down))).bind fun us1 =>
    C3 n eH (IntKind.i64.wrap (bB+1)) us0 us1)))))
    else
    some (fV,dS))
def C4:Nat→Int→Am→(List A4)→Int→Int→(List (Fy×Int))→Option (Int×(List (Fy×Int)))
  | 0,_,_,_,_,_,_=>none
  | n+1,many,y,dG,aD,aE,aF =>
    (bif decide (aD<((dG.length:Nat):Int)) then
    ((Bm dG aD).bind fun eH =>
    ((C3 n eH 0 (A1.mk false false false false false false false false) (A1.mk false false false false false false false false)).bind fun gS =>
    ((some (ES aF (Fy.mk gS.1 gS.2) (0:Int))).bind fun gB =>
    (bif (!gB.2) then
    ((De n y eH).bind fun gX =>
    ((some (ES (Hp aF (Fy.mk gS.1 gS.2) gX.many) (Fy.mk gS.1 gS.2) (0:Int))).bind fun eZ =>
    C4 n many y dG (IntKind.i64.wrap (aD+1)) (IntKind.i64.wrap (aE+eZ.1)) (Hp aF (Fy.mk gS.1 gS.2) gX.many)))
    else
    ((some (ES aF (Fy.mk gS.1 gS.2) (0:Int))).bind fun eZ =>
    C4 n many y dG (IntKind.i64.wrap (aD+1)) (IntKind.i64.wrap (aE+eZ.1)) aF)))))
    else
    some (aE,aF))
def C5:Nat→(List Int)→Bool→Int→(List A1)→Am→Int→Int→(List (Fy×Int))→Option (Int×(List (Fy×Int)))
  | 0,_,_,_,_,_,_,_,_=>none
  | n+1,l,found,many,breaks,y,aB,aA,aC =>
    (bif decide (aB<((breaks.length:Nat):Int)) then
    ((Bm breaks aB).bind fun cB =>
    ((Dh n y l cB).bind fun dG =>
    ((C4 n many y dG 0 0 aC).bind fun o_84 =>
    ((CN n ([aA,o_84.1]:List Int)).bind fun iS =>
    (bif found then
    (bif decide (iS≥many) then
    some (iS,o_84.2)
    else
    C5 n l found many breaks y (IntKind.i64.wrap (aB+1)) iS o_84.2)
    else
    C5 n l found many breaks y (IntKind.i64.wrap (aB+1)) iS o_84.2)))))
    else
    some (aA,aC))
def Gk (n:Nat) (l:List Int) (found:Bool) (many:Int) (breaks:List A1) (y:Am) (known:List (Fy×Int)):Option (Int×(List (Fy×Int))) :=
  ((C5 n l found many breaks y 0 0 known).bind fun o_21 =>
  some (o_21.1,o_21.2))
mutual
def C6:Nat→(List Int)→(List Int)→Am→(List A1)→(List Int)→Int→Bool→Int→(List Int)→(List (Fy×Int))→Option ((List Int)×Bool×Int×(List Int)×(List (Fy×Int)))
  | 0,_,_,_,_,_,_,_,_,_,_=>none
  | n+1,l,room,y,breaks,aB,aA,aC,cA,ge,gY =>
    (bif decide (aA<((room.length:Nat):Int)) then
    ((Bm aB aA).bind fun cK =>
    (bif decide (cK>0) then
    ((Bm aB aA).bind fun dI =>
    ((Bm aB aA).bind fun iI =>
    ((upd aB aA (IntKind.i64.wrap (dI-1))).bind fun kO =>
    ((Ih l ([aA]:List Int)).bind fun jM =>
    ((lane_Best_2 n jM aC cA ge kO y breaks gY).bind fun cG =>
    ((Bm cG.2.2.2.1 aA).bind fun x54 =>
    ((Bm cG.2.2.2.1 aA).bind fun gA =>
    ((upd cG.2.2.2.1 aA (IntKind.i64.wrap (x54+1))).bind fun u_331 =>
    C6 n l room y breaks u_331 (IntKind.i64.wrap (aA+1)) cG.1 cG.2.1 cG.2.2.1 cG.2.2.2.2))))))))
    else
    C6 n l room y breaks aB (IntKind.i64.wrap (aA+1)) aC cA ge gY))
    else
    some (aB,aC,cA,ge,gY))
def lane_Best_2:Nat→(List Int)→Bool→Int→(List Int)→(List Int)→Am→(List A1)→(List (Fy×Int))→Option (Bool×Int×(List Int)×(List Int)×(List (Fy×Int)))
  | 0,_,_,_,_,_,_,_,_=>none
  | n+1,l,found,many,best,room,y,breaks,known =>
    (bif (((l.length:Nat):Int) == ((y.lG.length:Nat):Int)) then
    ((Gk n l found many breaks y known).bind fun bZ =>
    (((bif (!found) then
    some true
    else
    some (decide (bZ.1<many))):Option Bool).bind fun o_63 =>
    (((bif o_63 then
    ((BB n l).bind fun eK =>
    some (true,bZ.1,eK))
    else
    some (found,many,best)):Option (Bool×Int×(List Int))).bind fun o_79 =>
    some (o_79.1,o_79.2.1,o_79.2.2,room,bZ.2))))
    else
    ((C6 n l room y breaks room 0 found many best known).bind fun jN =>
    some (jN.2.1,jN.2.2.1,jN.2.2.2.1,jN.1,jN.2.2.2.2)))
end
def GQ (n:Nat) (y:Am):Option ((List Int)×Int×Int) :=
  ((CE n y).bind fun cQ =>
  (bif (cQ != 0) then
  some (([]:List Int),0,cQ)
  else
  ((D1 n y).bind fun bZ =>
  ((BB n y.room).bind fun cB =>
  ((lane_Best_2 n ([]:List Int) false 0 ([]:List Int) cB y bZ ([]:List (Fy×Int))).bind fun dG =>
  (bif (!dG.1) then
  some (([]:List Int),0,9)
  else
  some (dG.2.2.1,dG.2.1,0)))))))
def Je (n:Nat) (l:List Int):Option (List Int) :=
  ((Ih ([]:List Int) l).bind fun x4 =>
  some x4)
def Es:Nat→Am→(List Cn)→Int→Option (List Cn)
  | 0,_,_,_=>none
  | n+1,y,aB,aA =>
    (bif decide (aA<((y.lG.length:Nat):Int)) then
    ((Bm y.lG aA).bind fun cB =>
    ((Ih aB ([cB]:List Cn)).bind fun gF =>
    Es n y gF (IntKind.i64.wrap (aA+1))))
    else
    some aB)
def Gl (n:Nat) (y:Am):Option Am :=
  ((Je n y.room).bind fun x8 =>
  ((Es n y ([]:List Cn) 0).bind fun kP =>
  some (Am.mk x8 kP y.broken)))
def Jf (n:Nat) (n_:Int) (low:Int) (high:Int):Option Bool :=
  (bif decide (n_≥low) then
  some (decide (n_≤high))
  else
  some false)
def DD:Nat→Am→Int→Option (Ex Int Unit)
  | 0,_,_=>none
  | n+1,y,aB =>
    (bif decide (aB<((y.room.length:Nat):Int)) then
    ((Bm y.room aB).bind fun cK =>
    ((Jf n cK 0 8).bind fun fO =>
    (bif (!fO) then
    some (Ex.ret 1)
    else
    DD n y (IntKind.i64.wrap (aB+1)))))
    else
    some (Ex.go ()))
def DE:Nat→Am→Int→Cn→Int→Option (Ex Int Unit)
  | 0,_,_,_,_=>none
  | n+1,y,aD,cG,bB =>
    (bif decide (bB<aD) then
    ((Bm y.lG bB).bind fun x78 =>
    (bif (x78.turn == cG.turn) then
    some (Ex.ret 1)
    else
    DE n y aD cG (IntKind.i64.wrap (bB+1))))
    else
    some (Ex.go ()))
def DF:Nat→Am→Int→Option (Ex Int Unit)
  | 0,_,_=>none
  | n+1,y,aD =>
    (bif decide (aD<((y.lG.length:Nat):Int)) then
    ((Bm y.lG aD).bind fun cG =>
    ((((Jf n cG.lo 0 cG.hi).bind fun gA =>
    (bif (!gA) then
    some true
    else
    (bif decide (cG.hi>2000) then
    some true
    else
    ((Jf n cG.turn 0 2000).bind fun iT =>
    some (!iT))))):Option Bool).bind fun o_162 =>
    (bif o_162 then
    some (Ex.ret 1)
    else
    ((DE n y aD cG 0).bind fun o_211=>Ex.bind o_211 (fun r=>some (Ex.ret r)) fun s_212 =>
    DF n y (IntKind.i64.wrap (aD+1))))))
    else
    some (Ex.go ()))
def FT (n:Nat) (y:Am):Option Int :=
  (((bif decide (((y.room.length:Nat):Int)>3) then
  some true
  else
  some (decide (((y.lG.length:Nat):Int)>8))):Option Bool).bind fun o_14 =>
  (bif o_14 then
  some 3
  else
  (((bif decide (((y.room.length:Nat):Int)<1) then
  some true
  else
  ((Jf n y.broken 0 2).bind fun dA =>
  some (!dA))):Option Bool).bind fun o_33 =>
  (bif o_33 then
  some 1
  else
  ((DD n y 0).bind fun kM=>Ex.bind kM (fun r=>some r) fun s_66 =>
  ((DF n y 0).bind fun o_120=>Ex.bind o_120 (fun r=>some r) fun s_121 =>
  some 0))))))
def DN (n:Nat) (y:Am) (order:List Int):Option Bool :=
  ((CE n y).bind fun x8 =>
  (bif (x8 != 0) then
  some false
  else
  ((Cv n y order).bind fun cC =>
  some cC.2)))
def Dn:Nat→(List (List Int))→Int→Option (Ex Bool Unit)
  | 0,_,_=>none
  | n+1,l,aB =>
    (((bif decide (aB<((l.length:Nat):Int)) then
    some (decide (aB<16))
    else
    some false):Option Bool).bind fun o_20 =>
    (bif o_20 then
    ((Bm l aB).bind fun cT =>
    (bif decide (((cT.length:Nat):Int)>15) then
    some (Ex.ret false)
    else
    Dn n l (IntKind.i64.wrap (aB+1))))
    else
    some (Ex.go ())))
def Iq (n:Nat) (l:List (List Int)):Option Bool :=
  ((Dn n l 0).bind fun kL=>Ex.bind kL (fun r=>some r) fun s_7 =>
  some (decide (((l.length:Nat):Int)≤15)))
def HP (n:Nat) (t_:An):Option Bool :=
  ((Iq n t_.empty).bind fun x5 =>
  (bif x5 then
  some (decide (((t_.trips.length:Nat):Int)≤15))
  else
  some false))
def E8 (n:Nat) (n_:Int) (low:Int) (high:Int):Option Bool :=
  (bif decide (n_≥low) then
  some (decide (n_≤high))
  else
  some false)
def Dp:Nat→An→Int→Int→Option (Ex Int Unit)
  | 0,_,_,_=>none
  | n+1,t_,aB,aD =>
    (bif decide (aD<t_.places) then
    ((Bm t_.empty aB).bind fun gX =>
    ((Bm gX aD).bind fun iT =>
    ((E8 n iT 0 600).bind fun eZ =>
    (bif (!eZ) then
    some (Ex.ret 1)
    else
    Dp n t_ aB (IntKind.i64.wrap (aD+1))))))
    else
    some (Ex.go ()))
def Dq:Nat→An→Int→Option (Ex Int Unit)
  | 0,_,_=>none
  | n+1,t_,aB =>
    (bif decide (aB<t_.places) then
    ((((Bm t_.empty aB).bind fun eJ =>
    (bif (((eJ.length:Nat):Int) != t_.places) then
    some true
    else
    ((Bm t_.empty aB).bind fun fN =>
    ((Bm fN aB).bind fun cG =>
    some (cG != 0))))):Option Bool).bind fun o_85 =>
    (bif o_85 then
    some (Ex.ret 1)
    else
    ((Dp n t_ aB 0).bind fun o_155=>Ex.bind o_155 (fun r=>some (Ex.ret r)) fun s_156 =>
    Dq n t_ (IntKind.i64.wrap (aB+1)))))
    else
    some (Ex.go ()))
def CO:Nat→An→Int→Option (Ex Int Unit)
  | 0,_,_=>none
  | n+1,t_,bB =>
    (bif decide (bB<((t_.trips.length:Nat):Int)) then
    ((Bm t_.trips bB).bind fun fS =>
    ((E8 n fS.fr 0 (IntKind.i64.wrap (t_.places-1))).bind fun x88 =>
    (bif (!x88) then
    some (Ex.ret 1)
    else
    ((E8 n fS.to_ 0 (IntKind.i64.wrap (t_.places-1))).bind fun jA =>
    (bif (!jA) then
    some (Ex.ret 1)
    else
    ((E8 n fS.start 0 2000).bind fun kF =>
    (bif (!kF) then
    some (Ex.ret 1)
    else
    ((E8 n fS.least 1 fS.most).bind fun kG =>
    (bif (!kG) then
    some (Ex.ret 1)
    else
    (bif decide (fS.most>600) then
    some (Ex.ret 1)
    else
    ((E8 n fS.kind 0 2).bind fun kH =>
    (bif (!kH) then
    some (Ex.ret 1)
    else
    CO n t_ (IntKind.i64.wrap (bB+1))))))))))))))
    else
    some (Ex.go ()))
def GU (n:Nat) (t_:An):Option Int :=
  (bif decide (((t_.trips.length:Nat):Int)>12) then
  some 3
  else
  ((((E8 n t_.places 1 6).bind fun cC =>
  (bif (!cC) then
  some true
  else
  ((E8 n t_.layover 0 600).bind fun cS =>
  (bif (!cS) then
  some true
  else
  some (((t_.empty.length:Nat):Int) != t_.places))))):Option Bool).bind fun o_19 =>
  (bif o_19 then
  some 1
  else
  ((Dq n t_ 0).bind fun o_68=>Ex.bind o_68 (fun r=>some r) fun s_69 =>
  ((CO n t_ 0).bind fun o_233=>Ex.bind o_233 (fun r=>some r) fun s_234 =>
  some 0)))))
def Ds (n:Nat) (x:Int) (q0:Int→Option Bool):Option Bool :=
  ((q0 x).bind fun x6 =>
  some (!x6))
def Ht (n:Nat) (l:List Int) (right:Int→Option Bool):Option Bool :=
  ((Bf n l (fun(y0:Int)=>Ds n y0 right)).bind fun x7 =>
  some (!x7))
def Dt (n:Nat) (n_:Int) (low:Int) (high:Int):Option Bool :=
  (bif decide (low≤n_) then
  some (decide (n_≤high))
  else
  some false)
def C7 (n:Nat) (n_:Int):Option Bool :=
  ((Dt n n_ 0 600).bind fun x4 =>
  some x4)
def BM (n:Nat) (l:List Int) (q0:An):Option Bool :=
  (bif (((l.length:Nat):Int) == q0.places) then
  ((Ht n l (fun(y0:Int)=>C7 n y0)).bind fun cY =>
  some cY)
  else
  some false)
def AO:Nat→(List (List Int))→((List Int)→Option Bool)→Int→Option (Ex Int Unit)
  | 0,_,_,_=>none
  | n+1,s,f,aB =>
    (bif decide (aB<((s.length:Nat):Int)) then
    ((Bm s aB).bind fun cQ =>
    ((f cQ).bind fun cT =>
    (bif cT then
    some (Ex.ret aB)
    else
    AO n s f (IntKind.i64.wrap (aB+1)))))
    else
    some (Ex.go ()))
def Cj (n:Nat) (s:List (List Int)) (f:(List Int)→Option Bool):Option Int :=
  ((AO n s f 0).bind fun kL=>Ex.bind kL (fun r=>some r) fun s_7 =>
  some (-1))
def BN (n:Nat) (s:List (List Int)) (f:(List Int)→Option Bool):Option Bool :=
  ((Cj n s f).bind fun x7 =>
  some (decide (x7≥0)))
def C8 (n:Nat) (x:List Int) (q0:(List Int)→Option Bool):Option Bool :=
  ((q0 x).bind fun x6 =>
  some (!x6))
def GI (n:Nat) (l:List (List Int)) (right:(List Int)→Option Bool):Option Bool :=
  ((BN n l (fun(y0:List Int)=>C8 n y0 right)).bind fun x7 =>
  some (!x7))
def DO (n:Nat) (t_:An) (n_:Int):Option Bool :=
  ((Dt n n_ 0 (IntKind.i64.wrap (t_.places-1))).bind fun x9 =>
  some x9)
def C9 (n:Nat) (t_:An) (x:AH):Option Bool :=
  ((DO n t_ x.fr).bind fun x8 =>
  (bif x8 then
  ((DO n t_ x.to_).bind fun cC =>
  (bif cC then
  ((Dt n x.start 0 2000).bind fun cS =>
  (bif cS then
  ((Dt n x.least 1 x.most).bind fun eC =>
  (bif eC then
  ((C7 n x.most).bind fun dM =>
  (bif dM then
  ((Dt n x.kind 0 2).bind fun dC =>
  some dC)
  else
  some false))
  else
  some false))
  else
  some false))
  else
  some false))
  else
  some false))
def AB:Nat→(List AH)→(AH→Option Bool)→Int→Option (Ex Int Unit)
  | 0,_,_,_=>none
  | n+1,s,f,aB =>
    (bif decide (aB<((s.length:Nat):Int)) then
    ((Bm s aB).bind fun cQ =>
    ((f cQ).bind fun cT =>
    (bif cT then
    some (Ex.ret aB)
    else
    AB n s f (IntKind.i64.wrap (aB+1)))))
    else
    some (Ex.go ()))
def By (n:Nat) (s:List AH) (f:AH→Option Bool):Option Int :=
  ((AB n s f 0).bind fun kL=>Ex.bind kL (fun r=>some r) fun s_7 =>
  some (-1))
def Bh (n:Nat) (s:List AH) (f:AH→Option Bool):Option Bool :=
  ((By n s f).bind fun x7 =>
  some (decide (x7≥0)))
def BD (n:Nat) (x:AH) (q0:AH→Option Bool):Option Bool :=
  ((q0 x).bind fun x6 =>
  some (!x6))
def E9 (n:Nat) (l:List AH) (right:AH→Option Bool):Option Bool :=
  ((Bh n l (fun(y0:AH)=>BD n y0 right)).bind fun x7 =>
  some (!x7))
def BW:Nat→An→Int→Option (Ex Int Unit)
  | 0,_,_=>none
  | n+1,t_,aB =>
    (bif decide (aB<t_.places) then
    ((Bm t_.empty aB).bind fun x46 =>
    ((Bm x46 aB).bind fun dY =>
    (bif (dY != 0) then
    some (Ex.ret 1)
    else
    BW n t_ (IntKind.i64.wrap (aB+1)))))
    else
    some (Ex.go ()))
def DP (n:Nat) (t_:An):Option Int :=
  (bif decide (((t_.trips.length:Nat):Int)>12) then
  some 3
  else
  ((((Dt n t_.places 1 6).bind fun dJ =>
  (bif (!dJ) then
  some true
  else
  ((C7 n t_.layover).bind fun cL =>
  (bif (!cL) then
  some true
  else
  (bif (((t_.empty.length:Nat):Int) != t_.places) then
  some true
  else
  ((GI n t_.empty (fun(y0:List Int)=>BM n y0 t_)).bind fun dC =>
  some (!dC))))))):Option Bool).bind fun o_29 =>
  (bif o_29 then
  some 1
  else
  ((BW n t_ 0).bind fun o_95=>Ex.bind o_95 (fun r=>some r) fun s_96 =>
  ((E9 n t_.trips (fun(y0:AH)=>C9 n t_ y0)).bind fun gO =>
  (bif (!gO) then
  some 1
  else
  some 0))))))
def Ff (n:Nat) (t_:An) (x:AH) (how:N0) (place:Int):Option Int :=
  ((Bm t_.empty x.to_).bind fun eS =>
  ((Bm eS place).bind fun cJ =>
  ((how.of_ x).bind fun cQ =>
  some (IntKind.i64.wrap ((IntKind.i64.wrap ((IntKind.i64.wrap (x.start+cQ))+t_.layover))+cJ)))))
def Du (n:Nat) (x:AH):Option Int :=
  some x.most
def ER (n:Nat) (t_:An) (a:AH) (b:AH):Option Bool :=
  (((bif ((a.fr == b.fr) && ((a.to_ == b.to_) && ((a.start == b.start) && ((a.least == b.least) && ((a.most == b.most) && ((a.kind == b.kind) && true)))))) then
  some true
  else
  some (a.kind != b.kind)):Option Bool).bind fun o_24 =>
  (bif o_24 then
  some false
  else
  ((Ff n t_ a (N0.mk (fun(y0:AH)=>Du n y0)) b.fr).bind fun cB =>
  some (decide (cB≤b.start)))))
def Bq {σ:Type}:Nat→(σ→Int→Int→Option (σ×Bool))→An→Int→AH→Int→σ→Option (Ex σ σ)
  | 0,_,_,_,_,_,_=>none
  | n+1,dT,q0,aB,cC,aD,aE =>
    (bif decide (aD<((q0.trips.length:Nat):Int)) then
    ((Bm q0.trips aD).bind fun cR =>
    ((ER n q0 cC cR).bind fun cJ =>
    (bif cJ then
    ((dT aE aB aD).bind fun eH =>
    (bif (!eH.2) then
    some (Ex.ret eH.1)
    else
    Bq n dT q0 aB cC (IntKind.i64.wrap (aD+1)) eH.1))
    else
    Bq n dT q0 aB cC (IntKind.i64.wrap (aD+1)) aE)))
    else
    some (Ex.go aE))
def Br {σ:Type}:Nat→(σ→Int→Int→Option (σ×Bool))→An→Int→σ→Option (Ex σ σ)
  | 0,_,_,_,_=>none
  | n+1,dT,q0,aB,aA =>
    (bif decide (aB<((q0.trips.length:Nat):Int)) then
    ((Bm q0.trips aB).bind fun cC =>
    ((Bq n dT q0 aB cC 0 aA).bind fun o_75=>Ex.bind o_75 (fun r=>some (Ex.ret r)) fun s_76 =>
    Br n dT q0 (IntKind.i64.wrap (aB+1)) s_76))
    else
    some (Ex.go aA))
def Ef {σ:Type} (n:Nat) (dT:σ→Int→Int→Option (σ×Bool)) (s:σ) (q0:An):Option σ :=
  ((Br n dT q0 0 s).bind fun o_16=>Ex.bind o_16 (fun r=>some r) fun s_17 =>
  some s_17)
def Fg (n:Nat) (t_:An):Option (An) :=
  some (t_)
def Di (n:Nat) (t_:An):Option (List (List Int)) :=
  ((mk ((t_.trips.length:Nat):Int) (([]:List Int):List Int)).bind fun x9 =>
  ((Fg n t_).bind fun cY =>
  ((Ef n (fun(s:List (List Int))(cI:Int)(cC:Int)=>((((Bm s cI).bind fun cS =>
  ((Ih cS ([cC]:List Int)).bind fun cB =>
  ((Bm s cI).bind fun eS =>
  ((upd s cI cB).bind fun u_133 =>
  some u_133)))):Option (List (List Int))).bind fun s1=>some (s1,true))) x9 cY).bind fun o_55 =>
  some o_55)))
def Kl (n:Nat) (x y:IK .u64):Option (IK .u64×IK .u64):=Ph x y
def BR:Nat→(List Int)→Int→Option (List Int)
  | 0,_,_=>none
  | n+1,aB,aA =>
    (bif decide (aA<((aB.length:Nat):Int)) then
    ((sub aB aA).bind fun x41 =>
    ((VO aB aA).bind fun dW =>
    ((some (EU aB aA)).bind fun u_103 =>
    BR n  u_103 (IntKind.i64.wrap (aA+((min (aA:Int).toNat (aB.length-(aA:Int).toNat):Nat):Int))))))
    else
    some aB)
def Cu (n:Nat) (x:List Int) (count:Int):Option (List Int) :=
  (bif decide (count<0) then
  none
  else
  ((Kl n (IK.mk (IntKind.u64.wrap ((x.length:Nat):Int))) (IK.mk (IntKind.u64.wrap count))).bind fun cS =>
  (((bif decide (cS.1.n>0) then
  some true
  else
  some (decide (cS.2.n>9223372036854775807))):Option Bool).bind fun o_18 =>
  (bif o_18 then
  none
  else
  ((mk (IntKind.i64.wrap cS.2.n) (0:Int)).bind fun dM =>
  ((some (EE dM x)).bind fun u_51 =>
  ((BR n  u_51 ((min x.length dM.length:Nat):Int)).bind fun o_72 =>
  some o_72)))))))
mutual
def Bs:Nat→Int→BK→DL→(List Int)→(List Int)→(List Int)→Int→DL→Option (Ex (Bool×DL×(List Int)×(List Int)) ((List Int)×(List Int)×DL))
  | 0,_,_,_,_,_,_,_,_=>none
  | n+1,i,m,aH,cQ,aB,aA,aC,cA =>
    (bif decide (aC<((cQ.length:Nat):Int)) then
    ((Bm cQ aC).bind fun bZ =>
    ((((LZ 12 bZ).bind fun cB =>
    ((Bm aH.toL bZ).bind fun eS =>
    (bif (!eS) then
    some true
    else
    ((LZ 12 bZ).bind fun dG =>
    ((Bm cA.toL bZ).bind fun eK =>
    some eK))))):Option Bool).bind fun o_81 =>
    (bif o_81 then
    Bs n i m aH cQ aB aA (IntKind.i64.wrap (aC+1)) cA
    else
    ((LZ 12 bZ).bind fun eH =>
    ((DL.setI cA bZ true).bind fun u_124 =>
    ((((Bm aA bZ).bind fun cK =>
    (bif (cK == (-1)) then
    some (aB,aA,true,u_124)
    else
    ((Bm aA bZ).bind fun iU =>
    ((run_Table_match_1 n iU (BK.mk m.table m.follows aB aA) u_124 aH).bind fun dY =>
    some (dY.2.2.1,dY.2.2.2,dY.1,dY.2.1))))):Option ((List Int)×(List Int)×Bool×DL)).bind fun gZ =>
    (bif gZ.2.2.1 then
    ((Bm gZ.1 i).bind fun x63 =>
    ((upd gZ.1 i bZ).bind fun kO =>
    ((Bm gZ.2.1 bZ).bind fun gX =>
    ((upd gZ.2.1 bZ i).bind fun u_258 =>
    some (Ex.ret (true,gZ.2.2.2,kO,u_258))))))
    else
    Bs n i m aH cQ gZ.1 gZ.2.1 (IntKind.i64.wrap (aC+1)) gZ.2.2.2)))))))
    else
    some (Ex.go (aB,aA,cA)))
def run_Table_match_1:Nat→Int→BK→DL→DL→Option (Bool×DL×(List Int)×(List Int))
  | 0,_,_,_,_=>none
  | n+1,i,m,tried,aH =>
    ((Bm m.follows i).bind fun cQ =>
    ((Bs n i m aH cQ m.next m.before 0 tried).bind fun kP=>Ex.bind kP (fun r=>some r) fun s_51 =>
    some (false,s_51.2.2,s_51.1,s_51.2.1)))
end
def BE:Nat→An→DL→(List (List Int))→(List Int)→(List Int)→Int→DL→Option ((List Int)×(List Int)×DL)
  | 0,_,_,_,_,_,_,_=>none
  | n+1,t_,aH,cY,aB,aA,aC,cA =>
    (bif decide (aC<((t_.trips.length:Nat):Int)) then
    ((LZ 12 aC).bind fun fU =>
    ((Bm aH.toL aC).bind fun gF =>
    (bif gF then
    ((run_Table_match_1 n aC (BK.mk t_ cY aB aA) (DL.mk false false false false false false false false false false false false) aH).bind fun cK =>
    BE n t_ aH cY cK.2.2.1 cK.2.2.2 (IntKind.i64.wrap (aC+1)) cK.2.1)
    else
    BE n t_ aH cY aB aA (IntKind.i64.wrap (aC+1)) (DL.mk false false false false false false false false false false false false))))
    else
    some (aB,aA,cA))
def DQ (n:Nat) (t_:An) (aH:DL):Option (Option (Bx BK)) :=
  ((Di n t_).bind fun cY =>
  ((Cu n ([(-1)]:List Int) ((t_.trips.length:Nat):Int)).bind fun cT =>
  ((Cu n ([(-1)]:List Int) ((t_.trips.length:Nat):Int)).bind fun cR =>
  ((BE n t_ aH cY cT cR 0 (DL.mk false false false false false false false false false false false false)).bind fun o_116 =>
  some (some (Bx.mk (BK.mk t_ cY o_116.1 o_116.2.1)))))))
def F2:Nat→Int→DL→Option DL
  | 0,_,_=>none
  | n+1,aB,aA =>
    (bif decide (aB<12) then
    ((LZ 12 aB).bind fun x6 =>
    ((DL.setI aA aB true).bind fun u_33 =>
    F2 n  (IntKind.i64.wrap (aB+1)) u_33))
    else
    some aA)
def JN (n:Nat)  : Option DL :=
  ((F2 n  0 (DL.mk false false false false false false false false false false false false)).bind fun o_9 =>
  some o_9)
def Et:Nat→(Bx BK)→(List Int)→Int→Option (List Int)
  | 0,_,_,_=>none
  | n+1,gT,aD,aE =>
    (bif (aE != (-1)) then
    ((Ih aD ([aE]:List Int)).bind fun dW =>
    ((Bm gT.v.next aE).bind fun fO =>
    Et n gT dW fO))
    else
    some aD)
def DG:Nat→(Bx BK)→(List (List Int))→Int→Option (List (List Int))
  | 0,_,_,_=>none
  | n+1,gT,aB,aA =>
    (bif decide (aA<((gT.v.before.length:Nat):Int)) then
    ((Bm gT.v.before aA).bind fun dG =>
    (bif (dG != (-1)) then
    DG n gT aB (IntKind.i64.wrap (aA+1))
    else
    ((Et n gT ([]:List Int) aA).bind fun o_148 =>
    ((Ih aB ([o_148]:List (List Int))).bind fun fN =>
    DG n gT fN (IntKind.i64.wrap (aA+1))))))
    else
    some aB)
def JO (n:Nat) (t_:An):Option ((List (List Int))×Int) :=
  ((DP n t_).bind fun cI =>
  (bif (cI != 0) then
  some (([]:List (List Int)),cI)
  else
  ((JN n ).bind fun dX =>
  ((DQ n t_ dX).bind fun cS =>
  (Rg cS
  (none)
  (fun gT =>
  ((DG n gT ([]:List (List Int)) 0).bind fun o_96 =>
  some (o_96,0))))))))
def FU (n:Nat)  : Option Bool :=
  ((JO n (An.mk 1 0 ([([0]:List Int)]:List (List Int)) ([AH.mk 0 0 5 2 3 0]:List AH))).bind fun cI =>
  ((GQ n (Am.mk ([1]:List Int) ([Cn.mk 7 8 5]:List Cn) 0)).bind fun cL =>
  (bif (cI.2 == 0) then
  (bif (((cI.1.length:Nat):Int) == 1) then
  ((Bm cI.1 0).bind fun fU =>
  (bif (((fU.length:Nat):Int) == 1) then
  ((Bm cI.1 0).bind fun eF =>
  ((Bm eF 0).bind fun dI =>
  (bif (dI == 0) then
  (bif (cL.2.2 == 0) then
  (bif (cL.2.1 == 0) then
  (bif (((cL.1.length:Nat):Int) == 1) then
  ((Bm cL.1 0).bind fun x61 =>
  some (x61 == 0))
  else
  some false)
  else
  some false)
  else
  some false)
  else
  some false)))
  else
  some false))
  else
  some false)
  else
  some false)))
def JP (n:Nat) (l:List Int):Option (List Int) :=
  ((Ih ([]:List Int) l).bind fun x4 =>
  some x4)
def DH:Nat→(List (List Int))→(List (List Int))→Int→Option (List (List Int))
  | 0,_,_,_=>none
  | n+1,l,aB,aA =>
    (bif decide (aA<((l.length:Nat):Int)) then
    ((Bm l aA).bind fun cQ =>
    ((JP n cQ).bind fun cT =>
    ((Ih aB ([cT]:List (List Int))).bind fun cS =>
    DH n l cS (IntKind.i64.wrap (aA+1)))))
    else
    some aB)
def JQ (n:Nat) (l:List (List Int)):Option (List (List Int)) :=
  ((DH n l ([]:List (List Int)) 0).bind fun o_18 =>
  some o_18)
def Dv:Nat→An→(List AH)→Int→Option (List AH)
  | 0,_,_,_=>none
  | n+1,t_,aB,aA =>
    (bif decide (aA<((t_.trips.length:Nat):Int)) then
    ((Bm t_.trips aA).bind fun dA =>
    ((Ih aB ([dA]:List AH)).bind fun dI =>
    Dv n t_ dI (IntKind.i64.wrap (aA+1))))
    else
    some aB)
def GV (n:Nat) (t_:An):Option An :=
  ((JQ n t_.empty).bind fun cI =>
  ((Dv n t_ ([]:List AH) 0).bind fun kP =>
  some (An.mk t_.places t_.layover cI kP)))
def Ir (n:Nat) (t_:An) (trip:Int) (takes:Int) (place:Int):Option Int :=
  ((Bm t_.trips trip).bind fun cC =>
  ((Bm t_.empty cC.to_).bind fun cJ =>
  ((Bm cJ place).bind fun gN =>
  some (IntKind.i64.wrap ((IntKind.i64.wrap ((IntKind.i64.wrap (cC.start+takes))+t_.layover))+gN)))))
def HQ (n:Nat) (t_:An) (first:Int) (next:Int):Option Bool :=
  ((Bm t_.trips first).bind fun cI =>
  ((Bm t_.trips next).bind fun dX =>
  (bif (first != next) then
  (bif (cI.kind == dX.kind) then
  ((Ir n t_ first cI.most dX.fr).bind fun cD =>
  some (decide (cD≤dX.start)))
  else
  some false)
  else
  some false)))
def Ck:Nat→An→(List (List Int))→Int→(List Bool)→Int→Int→Option (Ex Bool ((List Bool)×Int))
  | 0,_,_,_,_,_,_=>none
  | n+1,t_,blocks,aA,aD,aE,aF =>
    ((Bm blocks aA).bind fun gN =>
    (bif decide (aE<((gN.length:Nat):Int)) then
    ((Bm blocks aA).bind fun cK =>
    ((Bm cK aE).bind fun eF =>
    ((((E8 n eF 0 (IntKind.i64.wrap (((t_.trips.length:Nat):Int)-1))).bind fun iU =>
    (bif (!iU) then
    some true
    else
    ((Bm aD eF).bind fun cO =>
    (bif cO then
    some true
    else
    (bif decide (aE>0) then
    ((Bm blocks aA).bind fun jR =>
    ((Bm jR (IntKind.i64.wrap (aE-1))).bind fun jS =>
    ((HQ n t_ jS eF).bind fun eZ =>
    some (!eZ))))
    else
    some false))))):Option Bool).bind fun o_158 =>
    (bif o_158 then
    some (Ex.ret false)
    else
    ((Bm aD eF).bind fun iS =>
    ((upd aD eF true).bind fun u_272 =>
    Ck n t_ blocks aA u_272 (IntKind.i64.wrap (aE+1)) (IntKind.i64.wrap (aF+1))))))))
    else
    some (Ex.go (aD,aF))))
def BO:Nat→An→(List (List Int))→(List Bool)→Int→Int→Option (Ex Bool ((List Bool)×Int))
  | 0,_,_,_,_,_=>none
  | n+1,t_,blocks,aB,aA,aC =>
    (bif decide (aA<((blocks.length:Nat):Int)) then
    ((Bm blocks aA).bind fun cB =>
    (bif (((cB.length:Nat):Int) == 0) then
    some (Ex.ret false)
    else
    ((Ck n t_ blocks aA aB 0 aC).bind fun o_91=>Ex.bind o_91 (fun r=>some (Ex.ret r)) fun s_92 =>
    BO n t_ blocks s_92.1 (IntKind.i64.wrap (aA+1)) s_92.2)))
    else
    some (Ex.go (aB,aC)))
def Eu (n:Nat) (t_:An) (blocks:List (List Int)):Option Bool :=
  ((mk ((t_.trips.length:Nat):Int) (false:Bool)).bind fun cC =>
  ((BO n t_ blocks cC 0 0).bind fun o_41=>Ex.bind o_41 (fun r=>some r) fun s_42 =>
  some (s_42.2 == ((t_.trips.length:Nat):Int))))
def Ev:Nat→An→(List (List Int))→(List Cn)→Int→Option (List Cn)
  | 0,_,_,_,_=>none
  | n+1,t_,blocks,aB,aA =>
    (bif decide (aA<((blocks.length:Nat):Int)) then
    ((Bm blocks aA).bind fun dA =>
    ((Bm dA 0).bind fun cJ =>
    ((Bm t_.trips cJ).bind fun eK =>
    ((Bm blocks aA).bind fun gF =>
    ((Bm blocks aA).bind fun eJ =>
    ((Bm gF (IntKind.i64.wrap (((eJ.length:Nat):Int)-1))).bind fun dI =>
    ((Bm t_.trips dI).bind fun dW =>
    ((Ih aB ([Cn.mk (IntKind.i64.wrap (dW.start+dW.least)) (IntKind.i64.wrap (dW.start+dW.most)) eK.start]:List Cn)).bind fun jR =>
    Ev n t_ blocks jR (IntKind.i64.wrap (aA+1))))))))))
    else
    some aB)
def LH (n:Nat) (t_:An) (blocks:List (List Int)) (room:List Int):Option (Am×Bool) :=
  ((Ev n t_ blocks ([]:List Cn) 0).bind fun o_43 =>
  ((FT n (Am.mk room o_43 0)).bind fun jS =>
  some ((Am.mk room o_43 0),(jS == 0))))
def BS:Nat→An→(List (IK .u16))→(List Int)→Int→Option (List Int)
  | 0,_,_,_,_=>none
  | n+1,t_,words,aB,aA =>
    (bif decide (aA<((t_.trips.length:Nat):Int)) then
    ((Bm t_.trips aA).bind fun cL =>
    (((bif decide (((words.length:Nat):Int)>0) then
    ((nz ((words.length:Nat):Int)).bind fun gN =>
    ((Bm words (Int.tmod aA ((words.length:Nat):Int))).bind fun dM =>
    some (IntKind.i64.wrap dM.n)))
    else
    some 1):Option Int).bind fun o_74 =>
    ((nz (IntKind.i64.wrap ((IntKind.i64.wrap (cL.most-cL.least))+1))).bind fun x43 =>
    (bif ((Int.tmod o_74 3) == 0) then
    ((Ih aB ([cL.least]:List Int)).bind fun gO =>
    BS n t_ words gO (IntKind.i64.wrap (aA+1)))
    else
    (bif ((Int.tmod o_74 3) == 1) then
    ((Ih aB ([cL.most]:List Int)).bind fun gO =>
    BS n t_ words gO (IntKind.i64.wrap (aA+1)))
    else
    ((Ih aB ([IntKind.i64.wrap (cL.least+(Int.tmod (IntKind.i64.wrap (Int.tdiv o_74 3)) (IntKind.i64.wrap ((IntKind.i64.wrap (cL.most-cL.least))+1))))]:List Int)).bind fun gO =>
    BS n t_ words gO (IntKind.i64.wrap (aA+1))))))))
    else
    some aB)
def Gm (n:Nat) (t_:An) (words:List (IK .u16)):Option (List Int) :=
  ((BS n t_ words ([]:List Int) 0).bind fun o_29 =>
  some o_29)
def BY:Nat→(List Int)→(List Int)→Int→Option ((List Int)×(List Int))
  | 0,_,_,_=>none
  | n+1,aD,aE,aF =>
    (((bif decide (aF>0) then
    ((Bm aE aF).bind fun iV =>
    ((Bm aE (IntKind.i64.wrap (aF-1))).bind fun kI =>
    some (decide (iV<kI))))
    else
    some false):Option Bool).bind fun o_374 =>
    (bif o_374 then
    ((Bm aD (IntKind.i64.wrap (aF-1))).bind fun eV =>
    ((Bm aD aF).bind fun gI =>
    ((Bm aD aF).bind fun x128 =>
    ((upd aD aF eV).bind fun u_466 =>
    ((Bm u_466 (IntKind.i64.wrap (aF-1))).bind fun x129 =>
    ((upd u_466 (IntKind.i64.wrap (aF-1)) gI).bind fun u_490 =>
    ((Bm aE (IntKind.i64.wrap (aF-1))).bind fun fH =>
    ((Bm aE aF).bind fun gP =>
    ((Bm aE aF).bind fun x144 =>
    ((upd aE aF fH).bind fun u_547 =>
    ((Bm u_547 (IntKind.i64.wrap (aF-1))).bind fun x145 =>
    ((upd u_547 (IntKind.i64.wrap (aF-1)) gP).bind fun u_571 =>
    BY n  u_490 u_571 (IntKind.i64.wrap (aF-1))))))))))))))
    else
    some (aD,aE)))
def Cx:Nat→An→((List (List Int))×Int)→(List Int)→(List Int)→(List Int)→Int→Option ((List Int)×(List Int))
  | 0,_,_,_,_,_,_=>none
  | n+1,t_,cD,eG,aB,aA,aC =>
    (bif decide (aC<((cD.1.length:Nat):Int)) then
    ((Bm cD.1 aC).bind fun eZ =>
    ((Bm cD.1 aC).bind fun eB =>
    ((Bm eZ (IntKind.i64.wrap (((eB.length:Nat):Int)-1))).bind fun dK =>
    ((Bm t_.trips dK).bind fun dZ =>
    ((Bm eG dK).bind fun eT =>
    ((Ih aB ([aC]:List Int)).bind fun jB =>
    ((Ih aA ([IntKind.i64.wrap (dZ.start+eT)]:List Int)).bind fun jA =>
    ((BY n  jB jA aC).bind fun o_361 =>
    Cx n t_ cD eG o_361.1 o_361.2 (IntKind.i64.wrap (aC+1))))))))))
    else
    some (aB,aA))
def Ge (n:Nat) (t_:An) (room:List Int) (words:List (IK .u16)):Option Bool :=
  ((((HP n t_).bind fun eC =>
  (bif (!eC) then
  some true
  else
  ((GU n t_).bind fun gN =>
  some (gN != 0)))):Option Bool).bind fun o_14 =>
  (bif o_14 then
  ((FU n ).bind fun jL =>
  some jL)
  else
  ((GV n t_).bind fun dC =>
  ((JO n dC).bind fun cD =>
  (((bif (cD.2 != 0) then
  some true
  else
  ((Eu n t_ cD.1).bind fun dW =>
  some (!dW))):Option Bool).bind fun o_90 =>
  (bif o_90 then
  some false
  else
  ((WB ([]:List Int) room).bind fun cG =>
  ((LH n t_ cD.1 cG).bind fun cO =>
  (bif (!cO.2) then
  ((FU n ).bind fun gA =>
  some gA)
  else
  ((Gm n t_ words).bind fun eG =>
  ((Cx n t_ cD eG ([]:List Int) ([]:List Int) 0).bind fun kQ =>
  ((Gl n cO.1).bind fun gQ =>
  ((GQ n gQ).bind fun cZ =>
  ((Gl n cO.1).bind fun iW =>
  ((Ih ([]:List Int) kQ.1).bind fun gC =>
  ((DN n iW gC).bind fun kJ =>
  (bif (!kJ) then
  some false
  else
  (bif (cZ.2.2 != 0) then
  (((bif (cZ.2.2 == 9) then
  ((FU n ).bind fun kR =>
  some kR)
  else
  some false):Option Bool).bind fun o_710 =>
  some o_710)
  else
  ((Gl n cO.1).bind fun iJ =>
  ((Ih ([]:List Int) cZ.1).bind fun gJ =>
  ((Ih ([]:List Int) kQ.1).bind fun gU =>
  ((Ft n iJ gJ gU ([]:List Int)).bind fun eM =>
  ((Gl n cO.1).bind fun iK =>
  ((Ih ([]:List Int) cZ.1).bind fun hC =>
  ((Ih ([]:List Int) kQ.1).bind fun iN =>
  ((F0 n iK hC iN ([]:List Int)).bind fun fI =>
  (bif (eM.2 == 0) then
  (bif (fI.2 == 0) then
  (bif decide (((eM.1.length:Nat):Int)≤cZ.2.1) then
  (bif (((fI.1.length:Nat):Int) == ((cD.1.length:Nat):Int)) then
  ((FU n ).bind fun kK =>
  some kK)
  else
  some false)
  else
  some false)
  else
  some false)
  else
  some false)))))))))))))))))))))))))))
abbrev XZ:=@Option.some.inj
abbrev XY:=@Exists.intro
abbrev XX:=@Option.bind_some
abbrev XW:=@cond_true
abbrev XV:=@cond_false
abbrev XU:=@Ac.le_trans
abbrev XT:=@wp_seq
abbrev XR (x:Int):SC:=.int .i64 x
abbrev Yb (a:Option Addr)(b c:Nat):SC:=.slice a b c
abbrev Yc (x:Int):Nat:=x.toNat
abbrev Yd:=Option Addr
abbrev Ye:=List Value
abbrev Ya:=IntKind.wrap .i64
abbrev CW (b o p q):=([(b,0),(o,0),(p,0),(q,0)]:AJ)
abbrev Mh (i)(y:Am)(l d e):=([Yb i y.room.length l,Yb d y.lG.length e,XR y.broken]:List SC)
abbrev NW (t_:An)(k l p q):=([XR t_.places,XR t_.layover,Yb k t_.empty.length l,Yb p t_.trips.length q]:List SC)
abbrev S2 (d e m)(p:Nat)(aB:Int):=([(d,0),(e,0),(m,p+Yc aB*1)]:AJ)
abbrev UR (a g)(i:Nat)(bB:Int)(m):=([(a,0),(g,i+Yc bB*6),(m,0)]:AJ)
abbrev VQ:List SC:=[.bool false,.bool false,.bool false,.bool false,.bool false,.bool false,.bool false,.bool false]
abbrev VU (fS:AH):=([XR fS.fr,XR fS.to_,XR fS.start,XR fS.least,XR fS.most,XR fS.kind]:List SC)
abbrev WP (cA:A1):=([.bool cA.a0,.bool cA.a1,.bool cA.a2,.bool cA.a3,.bool cA.a4,.bool cA.a5,.bool cA.a6,.bool cA.a7]:List SC)
abbrev Yf:=@List.getElem?_eq_getElem
abbrev Yg:=@Option.bind_some
abbrev Yh:=@List.getElem_mem
abbrev Yi:=@Bool.false_or
abbrev Yj:=@List.drop_zero
abbrev Yk:=@Bool.not_true
abbrev Yl:=@List.length_take
abbrev Ym:=@List.take_succ_eq_append_getElem
abbrev Yn:=@Int.eq_ofNat_of_zero_le
abbrev Yo:=@List.getD_eq_getElem?_getD
abbrev Yp:=@Bool.and_eq_true
abbrev Yq:=@List.foldl_cons
abbrev Yr:=@Bool.true_and
abbrev Ys:=@Nat.le_refl
abbrev Yt:=@List.pairwise_cons
abbrev Yu:=@List.length_cons
abbrev Yv:=@List.mem_filter
abbrev Yw:=@List.length_filter_le
abbrev Yx:=@List.filter_append
abbrev Yy:=@List.getElem?_map
abbrev Yz:=@List.getElem?_set_self
abbrev Y0:=@List.nil_append
abbrev Y1:=@List.length_append
abbrev Y2:=@Bool.eq_false_or_eq_true
abbrev Y3:=@Nat.zero_add
abbrev Y4:=@Nat.lt_succ_self
abbrev Y5:=@Nat.lt_of_lt_of_le
abbrev Y6:=@Nat.lt_add_of_pos_right
abbrev Y7:=@Nat.le_of_ble_eq_true
abbrev Y8:=@Nat.le_of_eq
end Go.Proofs.YtinminkmefljbaaGreat
