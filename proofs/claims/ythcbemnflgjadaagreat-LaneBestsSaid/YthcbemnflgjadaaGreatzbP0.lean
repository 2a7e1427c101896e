/- What the functions compute, in plain Lean. -/
import Derived.Test.YthcbemnflgjadaaGreatzbS8
import Derived.Test.YthcbemnflgjadaaGreatProg
import Derived.Lib.BitFns
set_option linter.all false
namespace Go.Proofs.YthcbemnflgjadaaGreat
open Go Go.RowKit
open Rep (rep)
open KRep (kv)
open VRep (rv)
structure BO where
  lo:Int
  hi:Int
  turn:Int
deriving DecidableEq,Inhabited
instance : Rep BO:=Rep.via fun x=>(x.lo,x.hi,x.turn)
instance : VRep BO:=VRep.agg BO
structure Ag where
  room:List Int
  buses:List BO
  broken:Int
deriving DecidableEq,Inhabited
instance : Rep Ag:=Rep.via fun x=>(x.room,x.buses,x.broken)
instance : VRep Ag:=VRep.agg Ag
def Ut (h:Ac) (v:Value) (f:Int→Option Bool):Prop:=∀ (h':Ac)(w':World),Ac.le h h'→Db h' w'→∀ (x0:Int)(r:Bool),f x0=some r→IQ Tryz.prog v #[.int .i64 x0] w' (Dd (fun h v=>v=.bool r) h' w')
theorem Ut.mono {h h':Ac} {v:Value} {f:Int→Option Bool} (H:Ut h v f) (hle:Ac.le h h'):Ut h' v f:=fun h2 w2 l=>H h2 w2 (Ac.le_trans hle l)
instance : Rep (Int→Option Bool):=⟨1,fun h f cs=>∃ fn first cap,cs=[.func fn first cap]∧Ut h (.func fn first cap) f,fun hle ⟨a,b,c,e,hr⟩=>⟨a,b,c,e,hr.mono hle⟩,fun⟨a,b,c,e,_⟩=>by subst e; rfl,fun⟨a,b,c,e,_⟩ v hv=>by subst e; simp at hv; subst hv; rfl⟩
def Uu (h:Ac) (v:Value) (f:BO→Option Bool):Prop:=∀ (h':Ac)(w':World),Ac.le h h'→Db h' w'→∀ (x0:BO)(cs0:List Value)(_:rep h' x0 cs0)(r:Bool),f x0=some r→IQ Tryz.prog v #[.agg cs0.toArray] w' (Dd (fun h v=>v=.bool r) h' w')
theorem Uu.mono {h h':Ac} {v:Value} {f:BO→Option Bool} (H:Uu h v f) (hle:Ac.le h h'):Uu h' v f:=fun h2 w2 l=>H h2 w2 (Ac.le_trans hle l)
instance : Rep (BO→Option Bool):=⟨1,fun h f cs=>∃ fn first cap,cs=[.func fn first cap]∧Uu h (.func fn first cap) f,fun hle ⟨a,b,c,e,hr⟩=>⟨a,b,c,e,hr.mono hle⟩,fun⟨a,b,c,e,_⟩=>by subst e; rfl,fun⟨a,b,c,e,_⟩ v hv=>by subst e; simp at hv; subst hv; rfl⟩
structure An where
  a0:Int
  a1:Int
  a2:Int
  a3:Int
  a4:Int
  a5:Int
  a6:Int
  a7:Int
deriving DecidableEq,Inhabited
instance : Rep An:=Rep.via fun x=>(x.a0,x.a1,x.a2,x.a3,x.a4,x.a5,x.a6,x.a7)
instance : VRep An:=VRep.agg An
def An.toL (x:An):List Int:=[x.a0,x.a1,x.a2,x.a3,x.a4,x.a5,x.a6,x.a7]
def An.ofL:List Int→Option An
  | [a0,a1,a2,a3,a4,a5,a6,a7]=>some ⟨a0,a1,a2,a3,a4,a5,a6,a7⟩
  | _=>none
theorem An.ofL_some {l:List Int} {y:An} (h:An.ofL l=some y):y.toL=l:=by
  unfold An.ofL at h
  split at h
  · cases h; rfl
  · cases h
def An.setI (x:An) (i:Int) (v:Int):Option An:=(upd x.toL i v).bind An.ofL
theorem An.setI_some {x y:An} {i:Int} {v:Int} (h:x.setI i v=some y):0≤i∧i<8∧y.toL=x.toL.set i.toNat v:=by
  obtain⟨l,hl,h2⟩:=Ap h
  obtain⟨h0,h1,rfl⟩:=CK hl
  exact⟨h0,h1,An.ofL_some h2⟩
structure Ar where
  a0:Bool
  a1:Bool
  a2:Bool
  a3:Bool
  a4:Bool
  a5:Bool
  a6:Bool
  a7:Bool
deriving DecidableEq,Inhabited
instance : Rep Ar:=Rep.via fun x=>(x.a0,x.a1,x.a2,x.a3,x.a4,x.a5,x.a6,x.a7)
instance : VRep Ar:=VRep.agg Ar
def Ar.toL (x:Ar):List Bool:=[x.a0,x.a1,x.a2,x.a3,x.a4,x.a5,x.a6,x.a7]
def Ar.ofL:List Bool→Option Ar
  | [a0,a1,a2,a3,a4,a5,a6,a7]=>some ⟨a0,a1,a2,a3,a4,a5,a6,a7⟩
  | _=>none
theorem Ar.ofL_some {l:List Bool} {y:Ar} (h:Ar.ofL l=some y):y.toL=l:=by
  unfold Ar.ofL at h
  split at h
  · cases h; rfl
  · cases h
def Ar.setI (x:Ar) (i:Int) (v:Bool):Option Ar:=(upd x.toL i v).bind Ar.ofL
theorem Ar.setI_some {x y:Ar} {i:Int} {v:Bool} (h:x.setI i v=some y):0≤i∧i<8∧y.toL=x.toL.set i.toNat v:=by
  obtain⟨l,hl,h2⟩:=Ap h
  obtain⟨h0,h1,rfl⟩:=CK hl
  exact⟨h0,h1,Ar.ofL_some h2⟩
structure Cd where
  yard:Ag
  lane:List Int
  tm:An
  broken:Ar
deriving DecidableEq,Inhabited
instance : Rep Cd:=Rep.via fun x=>(x.yard,x.lane,x.tm,x.broken)
instance : VRep Cd:=VRep.agg Cd
def T4 (h:Ac) (v:Value) (f:Int→Int→Option Int):Prop:=∀ (h':Ac)(w':World),Ac.le h h'→Db h' w'→∀ (x0:Int)(x1:Int)(r:Int),f x0 x1=some r→IQ Tryz.prog v #[.int .i64 x0,.int .i64 x1] w' (Dd (fun h v=>v=.int .i64 r) h' w')
theorem T4.mono {h h':Ac} {v:Value} {f:Int→Int→Option Int} (H:T4 h v f) (hle:Ac.le h h'):T4 h' v f:=fun h2 w2 l=>H h2 w2 (Ac.le_trans hle l)
instance : Rep (Int→Int→Option Int):=⟨1,fun h f cs=>∃ fn first cap,cs=[.func fn first cap]∧T4 h (.func fn first cap) f,fun hle ⟨a,b,c,e,hr⟩=>⟨a,b,c,e,hr.mono hle⟩,fun⟨a,b,c,e,_⟩=>by subst e; rfl,fun⟨a,b,c,e,_⟩ v hv=>by subst e; simp at hv; subst hv; rfl⟩
def Vn (h:Ac) (v:Value) (f:Int→Int→Option Bool):Prop:=∀ (h':Ac)(w':World),Ac.le h h'→Db h' w'→∀ (x0:Int)(x1:Int)(r:Bool),f x0 x1=some r→IQ Tryz.prog v #[.int .i64 x0,.int .i64 x1] w' (Dd (fun h v=>v=.bool r) h' w')
theorem Vn.mono {h h':Ac} {v:Value} {f:Int→Int→Option Bool} (H:Vn h v f) (hle:Ac.le h h'):Vn h' v f:=fun h2 w2 l=>H h2 w2 (Ac.le_trans hle l)
instance : Rep (Int→Int→Option Bool):=⟨1,fun h f cs=>∃ fn first cap,cs=[.func fn first cap]∧Vn h (.func fn first cap) f,fun hle ⟨a,b,c,e,hr⟩=>⟨a,b,c,e,hr.mono hle⟩,fun⟨a,b,c,e,_⟩=>by subst e; rfl,fun⟨a,b,c,e,_⟩ v hv=>by subst e; simp at hv; subst hv; rfl⟩
structure Av where
  buses:List Int
  down:Int
deriving DecidableEq,Inhabited
instance : Rep Av:=Rep.via fun x=>(x.buses,x.down)
instance : VRep Av:=VRep.agg Av
def Vf (h:Ac) (v:Value) (f:BO→Option Int):Prop:=∀ (h':Ac)(w':World),Ac.le h h'→Db h' w'→∀ (x0:BO)(cs0:List Value)(_:rep h' x0 cs0)(r:Int),f x0=some r→IQ Tryz.prog v #[.agg cs0.toArray] w' (Dd (fun h v=>v=.int .i64 r) h' w')
theorem Vf.mono {h h':Ac} {v:Value} {f:BO→Option Int} (H:Vf h v f) (hle:Ac.le h h'):Vf h' v f:=fun h2 w2 l=>H h2 w2 (Ac.le_trans hle l)
instance : Rep (BO→Option Int):=⟨1,fun h f cs=>∃ fn first cap,cs=[.func fn first cap]∧Vf h (.func fn first cap) f,fun hle ⟨a,b,c,e,hr⟩=>⟨a,b,c,e,hr.mono hle⟩,fun⟨a,b,c,e,_⟩=>by subst e; rfl,fun⟨a,b,c,e,_⟩ v hv=>by subst e; simp at hv; subst hv; rfl⟩
structure BL where
  tm:BO→Option Int
instance : Rep BL:=Rep.via fun x=>(x.tm)
instance : VRep BL:=VRep.agg BL
structure Bq where
  behind:Int
  last:Int
deriving DecidableEq,Inhabited
instance : Rep Bq:=Rep.via fun x=>(x.behind,x.last)
instance : VRep Bq:=VRep.agg Bq
structure AJ where
  many:Int
  tm:An
deriving DecidableEq,Inhabited
instance : Rep AJ:=Rep.via fun x=>(x.many,x.tm)
instance : VRep AJ:=VRep.agg AJ
instance : KRep Bq:=⟨fun x=>.agg #[.int .i64 x.behind,.int .i64 x.last],fun {a b} h=>by
  rcases a with⟨a0,a1⟩
  rcases b with⟨b0,b1⟩
  simp_all⟩
def Vo (h:Ac) (v:Value) (f:Int→Option Int):Prop:=∀ (h':Ac)(w':World),Ac.le h h'→Db h' w'→∀ (x0:Int)(r:Int),f x0=some r→IQ Tryz.prog v #[.int .i64 x0] w' (Dd (fun h v=>v=.int .i64 r) h' w')
theorem Vo.mono {h h':Ac} {v:Value} {f:Int→Option Int} (H:Vo h v f) (hle:Ac.le h h'):Vo h' v f:=fun h2 w2 l=>H h2 w2 (Ac.le_trans hle l)
instance : Rep (Int→Option Int):=⟨1,fun h f cs=>∃ fn first cap,cs=[.func fn first cap]∧Vo h (.func fn first cap) f,fun hle ⟨a,b,c,e,hr⟩=>⟨a,b,c,e,hr.mono hle⟩,fun⟨a,b,c,e,_⟩=>by subst e; rfl,fun⟨a,b,c,e,_⟩ v hv=>by subst e; simp at hv; subst hv; rfl⟩
structure E0 where
  buses:Ar
  down:Ar
deriving DecidableEq,Inhabited
instance : Rep E0:=Rep.via fun x=>(x.buses,x.down)
instance : VRep E0:=VRep.agg E0
instance : KRep E0:=⟨fun x=>.agg #[.bool x.buses.a0,.bool x.buses.a1,.bool x.buses.a2,.bool x.buses.a3,.bool x.buses.a4,.bool x.buses.a5,.bool x.buses.a6,.bool x.buses.a7,.bool x.down.a0,.bool x.down.a1,.bool x.down.a2,.bool x.down.a3,.bool x.down.a4,.bool x.down.a5,.bool x.down.a6,.bool x.down.a7],fun {a b} h=>by
  rcases a with⟨⟨a0,a1,a2,a3,a4,a5,a6,a7⟩,⟨a8,a9,a10,a11,a12,a13,a14,a15⟩⟩
  rcases b with⟨⟨b0,b1,b2,b3,b4,b5,b6,b7⟩,⟨b8,b9,b10,b11,b12,b13,b14,b15⟩⟩
  simp_all⟩
def IA (n:Nat) (y:Ag):Option Bool :=
  (bif decide (((y.room.length:Nat):Int)≤6) then
  some (decide (((y.buses.length:Nat):Int)≤12))
  else
  some false)
def Cu (n:Nat) (n_:Int) (low:Int) (high:Int):Option Bool :=
  (bif decide (low≤n_) then
  some (decide (n_≤high))
  else
  some false)
def C2 (n:Nat) (x:Int) (q0:Int→Option Bool):Option Bool :=
  ((q0 x).bind fun x6 =>
  some (!x6))
def AK:Nat→(List Int)→(Int→Option Bool)→Int→Option (Ex Int Unit)
  | 0,_,_,_=>none
  | n+1,s,f,x_v10 =>
    (bif decide (x_v10<((s.length:Nat):Int)) then
    ((B3 s x_v10).bind fun x14 =>
    ((f x14).bind fun x16 =>
    (bif x16 then
    some (Ex.ret x_v10)
    else
    AK n s f (IntKind.i64.wrap (x_v10+1)))))
    else
    some (Ex.go ()))
def Cb (n:Nat) (s:List Int) (f:Int→Option Bool):Option Int :=
  ((AK n s f 0).bind fun o_6=>Ex.bind o_6 (fun r=>some r) fun s_7 =>
  some (-1))
def BE (n:Nat) (s:List Int) (f:Int→Option Bool):Option Bool :=
  ((Cb n s f).bind fun x7 =>
  some (decide (x7≥0)))
def DK (n:Nat) (l:List Int) (right:Int→Option Bool):Option Bool :=
  ((BE n l (fun(y0:Int)=>C2 n y0 right)).bind fun x7 =>
  some (!x7))
def Ce (n:Nat) (b:BO):Option Bool :=
  ((Cu n b.lo 0 b.hi).bind fun x7 =>
  (bif x7 then
  (bif decide (b.hi≤2000) then
  ((Cu n b.turn 0 2000).bind fun x16 =>
  some x16)
  else
  some false)
  else
  some false))
def B1 (n:Nat) (x:BO) (q0:BO→Option Bool):Option Bool :=
  ((q0 x).bind fun x6 =>
  some (!x6))
def A2:Nat→(List BO)→(BO→Option Bool)→Int→Option (Ex Int Unit)
  | 0,_,_,_=>none
  | n+1,s,f,x_v10 =>
    (bif decide (x_v10<((s.length:Nat):Int)) then
    ((B3 s x_v10).bind fun x14 =>
    ((f x14).bind fun x16 =>
    (bif x16 then
    some (Ex.ret x_v10)
    else
    A2 n s f (IntKind.i64.wrap (x_v10+1)))))
    else
    some (Ex.go ()))
def Bh (n:Nat) (s:List BO) (f:BO→Option Bool):Option Int :=
  ((A2 n s f 0).bind fun o_6=>Ex.bind o_6 (fun r=>some r) fun s_7 =>
  some (-1))
def AV (n:Nat) (s:List BO) (f:BO→Option Bool):Option Bool :=
  ((Bh n s f).bind fun x7 =>
  some (decide (x7≥0)))
def Cm (n:Nat) (l:List BO) (right:BO→Option Bool):Option Bool :=
  ((AV n l (fun(y0:BO)=>B1 n y0 right)).bind fun x7 =>
  some (!x7))
def BM (n:Nat) (n_:Int):Option Bool :=
  ((Cu n n_ 0 8).bind fun x4 =>
  some x4)
def B9:Nat→Ag→Int→(List (Int×Bool))→Option (Ex Int (List (Int×Bool)))
  | 0,_,_,_=>none
  | n+1,y,x_v10,x_v11 =>
    (bif decide (x_v10<((y.buses.length:Nat):Int)) then
    ((B3 y.buses x_v10).bind fun x48 =>
    ((some (Ea x_v11 x48.turn (false:Bool))).bind fun x53 =>
    (bif x53.1 then
    some (Ex.ret 1)
    else
    B9 n y (IntKind.i64.wrap (x_v10+1)) (G7 x_v11 x48.turn true))))
    else
    some (Ex.go x_v11))
def Cp (n:Nat) (y:Ag):Option Int :=
  (((bif decide (((y.room.length:Nat):Int)>3) then
  some true
  else
  some (decide (((y.buses.length:Nat):Int)>8))):Option Bool).bind fun o_16 =>
  (bif o_16 then
  some 3
  else
  (((bif (((y.room.length:Nat):Int) == 0) then
  some true
  else
  ((Cu n y.broken 0 2).bind fun x26 =>
  (bif (!x26) then
  some true
  else
  ((DK n y.room (fun(y0:Int)=>BM n y0)).bind fun x33 =>
  (bif (!x33) then
  some true
  else
  ((Cm n y.buses (fun(y0:BO)=>Ce n y0)).bind fun x39 =>
  some (!x39))))))):Option Bool).bind fun o_35 =>
  (bif o_35 then
  some 1
  else
  ((B9 n y 0 ([]:List (Int×Bool))).bind fun o_115=>Ex.bind o_115 (fun r=>some r) fun s_116 =>
  some 0)))))
def Bu (n:Nat) (s:List Int):Option (List Int) :=
  ((Ij ([]:List Int) s).bind fun x7 =>
  some x7)
def BA:Nat→(List Int)→(List Int)→Int→Option (Ex Bool (List Int))
  | 0,_,_,_=>none
  | n+1,l,x_v10,x_v11 =>
    (bif decide (x_v11<((l.length:Nat):Int)) then
    ((B3 l x_v11).bind fun x21 =>
    ((((Cu n x21 0 (IntKind.i64.wrap (((x_v10.length:Nat):Int)-1))).bind fun x27 =>
    (bif (!x27) then
    some true
    else
    ((B3 x_v10 x21).bind fun x32 =>
    some (x32 == 0)))):Option Bool).bind fun o_78 =>
    (bif o_78 then
    some (Ex.ret false)
    else
    ((B3 x_v10 x21).bind fun x38 =>
    ((B3 x_v10 x21).bind fun x41 =>
    ((upd x_v10 x21 (IntKind.i64.wrap (x38-1))).bind fun u_152 =>
    BA n l u_152 (IntKind.i64.wrap (x_v11+1))))))))
    else
    some (Ex.go x_v10))
def CD (n:Nat) (y:Ag) (l:List Int):Option Bool :=
  (bif (((l.length:Nat):Int) != ((y.buses.length:Nat):Int)) then
  some false
  else
  ((Bu n y.room).bind fun x16 =>
  ((BA n l x16 0).bind fun o_47=>Ex.bind o_47 (fun r=>some r) fun s_48 =>
  some true)))
def Bo:Nat→(List Int)→Int→Int→Option Int
  | 0,_,_,_=>none
  | n+1,x,x_v10,x_v11 =>
    (bif decide (x_v10<((x.length:Nat):Int)) then
    ((B3 x x_v10).bind fun x21 =>
    Bo n x (IntKind.i64.wrap (x_v10+1)) (if x21>x_v11 then x21 else x_v11))
    else
    some x_v11)
def C3 (n:Nat) (x:List Int):Option Int :=
  (bif decide (((x.length:Nat):Int)<1) then
  none
  else
  ((B3 x 0).bind fun x10 =>
  ((Bo n x 1 x10).bind fun o_25 =>
  some o_25)))
def Cv (n:Nat) (l:List Int):Option Int :=
  ((C3 n l).bind fun x4 =>
  some x4)
def Fh (n:Nat) (y:Ag) (n_:Int):Option Bool :=
  ((Cu n n_ 0 (IntKind.i64.wrap (((y.buses.length:Nat):Int)-1))).bind fun x10 =>
  some x10)
def Ca:Nat→Ag→(List Int)→Int→Int→An→Ar→Option (Ex (An×Bool) (An×Ar))
  | 0,_,_,_,_,_,_=>none
  | n+1,y,order,x_v10,x_v11,x_v12,x_v13 =>
    (bif decide (x_v10<((order.length:Nat):Int)) then
    ((B3 order x_v10).bind fun x22 =>
    ((((Fh n y x22).bind fun x26 =>
    (bif (!x26) then
    some true
    else
    ((Lw 8 x22).bind fun x30 =>
    ((B3 x_v13.toL x22).bind fun x31 =>
    (bif x31 then
    some true
    else
    ((B3 y.buses x22).bind fun x37 =>
    some (decide (x37.hi<x_v11)))))))):Option Bool).bind fun o_73 =>
    (bif o_73 then
    some (Ex.ret (x_v12,false))
    else
    ((Lw 8 x22).bind fun x45 =>
    ((Ar.setI x_v13 x22 true).bind fun u_143 =>
    ((B3 y.buses x22).bind fun x52 =>
    ((Lw 8 x22).bind fun x57 =>
    ((Cv n ([x_v11,x52.lo]:List Int)).bind fun x56 =>
    ((An.setI x_v12 x22 x_v10).bind fun us0 =>
    Ca n y order (IntKind.i64.wrap (x_v10+1)) x56 us0 u_143)))))))))
    else
    some (Ex.go (x_v12,x_v13)))
def Ei (n:Nat) (y:Ag) (order:List Int):Option (An×Bool) :=
  (bif (((order.length:Nat):Int) != ((y.buses.length:Nat):Int)) then
  some ((An.mk 0 0 0 0 0 0 0 0),false)
  else
  ((Ca n y order 0 0 (An.mk 0 0 0 0 0 0 0 0) (Ar.mk false false false false false false false false)).bind fun o_40=>Ex.bind o_40 (fun r=>some r) fun s_41 =>
  some (s_41.1,true)))
def CG:Nat→Ag→(List Int)→Int→Int→Ar→Option (Ex (Ar×Bool) Ar)
  | 0,_,_,_,_,_=>none
  | n+1,y,broken,x_v10,x_v11,x_v12 =>
    (bif decide (x_v10<((broken.length:Nat):Int)) then
    ((B3 broken x_v10).bind fun x13 =>
    ((((Fh n y x13).bind fun x17 =>
    (bif (!x17) then
    some true
    else
    some (decide (x13≤x_v11)))):Option Bool).bind fun o_55 =>
    (bif o_55 then
    some (Ex.ret (x_v12,false))
    else
    ((Lw 8 x13).bind fun x27 =>
    ((Ar.setI x_v12 x13 true).bind fun u_95 =>
    CG n y broken (IntKind.i64.wrap (x_v10+1)) x13 u_95)))))
    else
    some (Ex.go x_v12))
def Gh (n:Nat) (y:Ag) (broken:List Int):Option (Ar×Bool) :=
  ((CG n y broken 0 (-1) (Ar.mk false false false false false false false false)).bind fun o_24=>Ex.bind o_24 (fun r=>some r) fun s_25 =>
  some (s_25,decide (((broken.length:Nat):Int)≤y.broken)))
def F6 (n:Nat) (y:Ag) (lanes:List Int) (order:List Int) (broken:List Int):Option (Cd×Int) :=
  ((Cp n y).bind fun x16 =>
  (bif (x16 != 0) then
  some ((Cd.mk (Ag.mk ([]:List Int) ([]:List BO) 0) ([]:List Int) (An.mk 0 0 0 0 0 0 0 0) (Ar.mk false false false false false false false false)),x16)
  else
  ((Ei n y order).bind fun x24 =>
  ((Gh n y broken).bind fun x30 =>
  (((bif (!x24.2) then
  some true
  else
  (bif (!x30.2) then
  some true
  else
  ((CD n y lanes).bind fun x42 =>
  some (!x42)))):Option Bool).bind fun o_85 =>
  (bif o_85 then
  some ((Cd.mk (Ag.mk ([]:List Int) ([]:List BO) 0) ([]:List Int) (An.mk 0 0 0 0 0 0 0 0) (Ar.mk false false false false false false false false)),2)
  else
  some ((Cd.mk y lanes x24.1 x30.1),0)))))))
def B6:Nat→(List (List Int))→Int→Int→Option Int
  | 0,_,_,_=>none
  | n+1,slices,x_v10,x_v11 =>
    (bif decide (x_v10<((slices.length:Nat):Int)) then
    ((B3 slices x_v10).bind fun x13 =>
    (bif decide ((IntKind.i64.wrap (x_v11+((x13.length:Nat):Int)))<0) then
    none
    else
    B6 n slices (IntKind.i64.wrap (x_v10+1)) (IntKind.i64.wrap (x_v11+((x13.length:Nat):Int)))))
    else
    some x_v11)
def B7:Nat→(List (List Int))→(List Int)→Int→Option (List Int)
  | 0,_,_,_=>none
  | n+1,slices,x_v20,x_v21 =>
    (bif decide (x_v21<((slices.length:Nat):Int)) then
    ((B3 slices x_v21).bind fun x29 =>
    ((Ij x_v20 x29).bind fun x33 =>
    B7 n slices x33 (IntKind.i64.wrap (x_v21+1))))
    else
    some x_v20)
def C9 (n:Nat) (slices:List (List Int)):Option (List Int) :=
  ((B6 n slices 0 0).bind fun o_8 =>
  ((TU o_8).bind fun x24 =>
  ((B7 n slices ([]:List Int) 0).bind fun o_75 =>
  some o_75)))
def A0:Nat→Int→(Int→Int→Option Int)→(List Int)→Int→Option (List Int)
  | 0,_,_,_,_=>none
  | n+1,a,cmp,x_v20,x_v21 =>
    (((bif decide (x_v21>a) then
    ((B3 x_v20 x_v21).bind fun x25 =>
    ((B3 x_v20 (IntKind.i64.wrap (x_v21-1))).bind fun x30 =>
    ((cmp x25 x30).bind fun x32 =>
    some (decide (x32<0)))))
    else
    some false):Option Bool).bind fun o_48 =>
    (bif o_48 then
    ((B3 x_v20 (IntKind.i64.wrap (x_v21-1))).bind fun x45 =>
    ((B3 x_v20 x_v21).bind fun x49 =>
    ((B3 x_v20 x_v21).bind fun x51 =>
    ((upd x_v20 x_v21 x45).bind fun u_155 =>
    ((B3 u_155 (IntKind.i64.wrap (x_v21-1))).bind fun x52 =>
    ((upd u_155 (IntKind.i64.wrap (x_v21-1)) x49).bind fun u_178 =>
    A0 n a cmp u_178 (IntKind.i64.wrap (x_v21-1))))))))
    else
    some x_v20))
def A1:Nat→Int→Int→(Int→Int→Option Int)→(List Int)→Int→Option (List Int)
  | 0,_,_,_,_,_=>none
  | n+1,a,b,cmp,x_v10,x_v11 =>
    (bif decide (x_v11<b) then
    ((A0 n a cmp x_v10 x_v11).bind fun o_35 =>
    A1 n a b cmp o_35 (IntKind.i64.wrap (x_v11+1)))
    else
    some x_v10)
def AW (n:Nat) (data:List Int) (a:Int) (b:Int) (cmp:Int→Int→Option Int):Option (List Int) :=
  ((A1 n a b cmp data (IntKind.i64.wrap (a+1))).bind fun o_10 =>
  some o_10)
def Fi (n:Nat) (x:IK .u64):Option Int:=if 0≤x.n∧x.n≤18446744073709551615 then some (Lib.bitLen x.n.toNat:Nat) else none
def Bk:Nat→(List Int)→Int→Int→Int→(Int→Int→Option Int)→Option (Ex (List Int) Unit)
  | 0,_,_,_,_,_=>none
  | n+1,data,a,b,limit,cmp =>
    (bif decide ((IntKind.i64.wrap (b-a))≤12) then
    ((AW n data a b cmp).bind fun x30 =>
    some (Ex.ret x30))
    else
    (bif (limit == 0) then
    none
    else
    (bif (!true) then
    none
    else
    none)))
def Bg:Nat→(List Int)→Int→Int→Int→(Int→Int→Option Int)→Option (List Int)
  | 0,_,_,_,_,_=>none
  | n+1,data,a,b,limit,cmp =>
    ((Bk n data a b limit cmp ).bind fun o_6=>Ex.bind o_6 (fun r=>some r) fun s_7 =>
    some data)
def AO (n:Nat) (x:List Int) (cmp:Int→Int→Option Int):Option (List Int) :=
  ((Fi n (IK.mk (IntKind.u64.wrap ((x.length:Nat):Int)))).bind fun x11 =>
  ((Bg n x 0 ((x.length:Nat):Int) x11 cmp).bind fun x13 =>
  some x13))
def B2 (n:Nat) (a:Int) (b:Int) (q0:Ag):Option Int :=
  ((B3 q0.buses a).bind fun x9 =>
  ((B3 q0.buses b).bind fun x15 =>
  some (IntKind.i64.wrap (x9.turn-x15.turn))))
def AM {σ:Type}:Nat→(σ→Int→Option (σ×Bool))→(List Int)→Int→σ→Option (Ex σ σ)
  | 0,_,_,_,_=>none
  | n+1,yield_,q0,x_v10,x_v11 =>
    (bif decide (x_v10<((q0.length:Nat):Int)) then
    ((B3 q0 x_v10).bind fun x9 =>
    ((yield_ x_v11 x9).bind fun x13 =>
    (bif (!x13.2) then
    some (Ex.ret x13.1)
    else
    AM n yield_ q0 (IntKind.i64.wrap (x_v10+1)) x13.1)))
    else
    some (Ex.go x_v11))
def Br {σ:Type} (n:Nat) (yield_:σ→Int→Option (σ×Bool)) (s:σ) (q0:List Int):Option σ :=
  ((AM n yield_ q0 0 s).bind fun o_13=>Ex.bind o_13 (fun r=>some r) fun s_14 =>
  some s_14)
def Dw (n:Nat) (s:List Int):Option ((List Int)) :=
  some (s)
def Bv:Nat→Ag→Ar→(List Int)→Int→Option (List Int)
  | 0,_,_,_,_=>none
  | n+1,y,broken,x_v10,x_v11 =>
    (bif decide (x_v11<((y.buses.length:Nat):Int)) then
    ((Lw 8 x_v11).bind fun x14 =>
    ((B3 broken.toL x_v11).bind fun x15 =>
    (bif (!x15) then
    ((Ij x_v10 ([x_v11]:List Int)).bind fun x20 =>
    Bv n y broken x20 (IntKind.i64.wrap (x_v11+1)))
    else
    Bv n y broken x_v10 (IntKind.i64.wrap (x_v11+1)))))
    else
    some x_v10)
def CE (n:Nat) (y:Ag) (broken:Ar):Option ((List Int)) :=
  ((Bv n y broken ([]:List Int) 0).bind fun o_34 =>
  ((AO n o_34 (fun(y0:Int)(y1:Int)=>B2 n y0 y1 y)).bind fun x24 =>
  ((Dw n x24).bind fun x26 =>
  some (x26))))
def D3 (n:Nat) (n_:Cd) (b:Int) (c:Int):Option Bool :=
  ((B3 n_.lane b).bind fun x10 =>
  ((B3 n_.lane c).bind fun x15 =>
  (bif (x10 == x15) then
  ((Lw 8 b).bind fun x21 =>
  ((B3 n_.tm.toL b).bind fun x22 =>
  ((Lw 8 c).bind fun x25 =>
  ((B3 n_.tm.toL c).bind fun x26 =>
  some (decide (x22<x26))))))
  else
  some false)))
def BB (n:Nat) (c:Int) (d:Int) (q0:Cd):Option Int :=
  ((Lw 8 c).bind fun x8 =>
  ((B3 q0.tm.toL c).bind fun x9 =>
  ((Lw 8 d).bind fun x12 =>
  ((B3 q0.tm.toL d).bind fun x13 =>
  some (IntKind.i64.wrap (x9-x13))))))
def Bp:Nat→Cd→Int→(List Int)→Int→Ar→Option ((List Int)×Ar)
  | 0,_,_,_,_,_=>none
  | n+1,n_,x15,x_v10,x_v11,x_v12 =>
    (bif decide (x_v11<((n_.yard.buses.length:Nat):Int)) then
    ((((Lw 8 x_v11).bind fun x24 =>
    ((B3 x_v12.toL x_v11).bind fun x25 =>
    (bif (!x25) then
    (((fun(y0:Int)(y1:Int)=>D3 n n_ y0 y1) x_v11 x15).bind fun x31 =>
    some x31)
    else
    some false))):Option Bool).bind fun o_122 =>
    (bif o_122 then
    ((Ij x_v10 ([x_v11]:List Int)).bind fun x36 =>
    ((Lw 8 x_v11).bind fun x38 =>
    ((Ar.setI x_v12 x_v11 true).bind fun u_186 =>
    Bp n n_ x15 x36 (IntKind.i64.wrap (x_v11+1)) u_186)))
    else
    Bp n n_ x15 x_v10 (IntKind.i64.wrap (x_v11+1)) x_v12))
    else
    some (x_v10,x_v12))
def Dg (n:Nat) (n_:Cd):Option (List (List Int)) :=
  ((CE n n_.yard n_.broken).bind fun x14 =>
  ((Br n (fun(s:(List (List Int))×Ar)(x15:Int)=>((((Bp n n_ x15 ([]:List Int) 0 s.2).bind fun o_104 =>
  ((AO n o_104.1 (fun(y0:Int)(y1:Int)=>BB n y0 y1 n_)).bind fun x42 =>
  ((Lw 8 x15).bind fun x44 =>
  ((Ar.setI o_104.2 x15 true).bind fun u_233 =>
  ((Ij s.1 ([x42]:List (List Int))).bind fun x48 =>
  some (x48,u_233)))))):Option ((List (List Int))×Ar)).bind fun s1=>some (s1,true))) (([]:List (List Int)),(Ar.mk false false false false false false false false)) x14).bind fun o_65 =>
  some o_65.1))
def Fs (n:Nat) (y:Ag) (lanes:List Int) (order:List Int) (broken:List Int):Option ((List Int)×Int) :=
  ((F6 n y lanes order broken).bind fun x18 =>
  (bif (x18.2 != 0) then
  some (([]:List Int),x18.2)
  else
  ((Dg n x18.1).bind fun x25 =>
  ((C9 n x25).bind fun x26 =>
  ((Pa x26).bind fun u_80 =>
  some (u_80,0))))))
def Be:Nat→Ag→(List Int)→Ar→(List Av)→Int→Option (List Av)
  | 0,_,_,_,_,_=>none
  | n+1,y,lanes,broken,x_v10,x_v11 =>
    (bif decide (x_v11<((y.buses.length:Nat):Int)) then
    ((Lw 8 x_v11).bind fun x50 =>
    ((B3 broken.toL x_v11).bind fun x51 =>
    (bif x51 then
    ((B3 lanes x_v11).bind fun x55 =>
    ((B3 x_v10 x55).bind fun x57 =>
    ((Ij x57.buses ([x_v11]:List Int)).bind fun x65 =>
    ((upd x_v10 x55 ({ x57 with buses:=x65 }:Av)).bind fun u_307 =>
    Be n y lanes broken u_307 (IntKind.i64.wrap (x_v11+1))))))
    else
    Be n y lanes broken x_v10 (IntKind.i64.wrap (x_v11+1)))))
    else
    some x_v10)
def Cn (n:Nat) (y:Ag) (lanes:List Int) (broken:Ar):Option (List Av) :=
  ((mk ((y.room.length:Nat):Int) ((Av.mk ([]:List Int) 0):Av)).bind fun x15 =>
  ((CE n y broken).bind fun x18 =>
  ((Br n (fun(s:List Av)(x19:Int)=>((((B3 lanes x19).bind fun x23 =>
  ((B3 s x23).bind fun x25 =>
  ((Ij x25.buses ([x19]:List Int)).bind fun x33 =>
  ((upd s x23 ({ x25 with buses:=x33 }:Av)).bind fun u_144 =>
  ((upd u_144 x23 ({ ({ x25 with buses:=x33 }:Av) with down:=IntKind.i64.wrap (x25.down+1) }:Av)).bind fun u_169 =>
  some u_169))))):Option (List Av)).bind fun s1=>some (s1,true))) x15 x18).bind fun o_65 =>
  ((Be n y lanes broken o_65 0).bind fun o_223 =>
  some o_223))))
mutual
def AY:Nat→Ar→Int→Ag→(List Ar)→Int→Option (List Ar)
  | 0,_,_,_,_,_=>none
  | n+1,s_,more,y,x_v10,x_v11 =>
    (((bif decide (x_v11<((y.buses.length:Nat):Int)) then
    some (decide (more>0))
    else
    some false):Option Bool).bind fun o_61 =>
    (bif o_61 then
    ((Lw 8 x_v11).bind fun x29 =>
    ((Ar.setI s_ x_v11 true).bind fun u_95 =>
    ((lane_Yard_breaks_1 n u_95 (IntKind.i64.wrap (x_v11+1)) (IntKind.i64.wrap (more-1)) x_v10 y).bind fun x36 =>
    AY n s_ more y x36 (IntKind.i64.wrap (x_v11+1)))))
    else
    some x_v10))
def lane_Yard_breaks_1:Nat→Ar→Int→Int→(List Ar)→Ag→Option (List Ar)
  | 0,_,_,_,_,_=>none
  | n+1,s_,from_,more,out,y =>
    ((Ij out ([s_]:List Ar)).bind fun x14 =>
    ((AY n s_ more y x14 from_).bind fun o_48 =>
    some o_48))
end
def C1 (n:Nat) (y:Ag):Option (List Ar) :=
  ((lane_Yard_breaks_1 n (Ar.mk false false false false false false false false) 0 y.broken ([]:List Ar) y).bind fun x9 =>
  some x9)
def Bl (n:Nat) (b:BO):Option Int :=
  some b.lo
def Bb (n:Nat) (b:BO):Option Int :=
  some b.hi
def Jv (n:Nat)  : Option (List BL) :=
  some ([(BL.mk (fun(y0:BO)=>Bl n y0)),(BL.mk (fun(y0:BO)=>Bb n y0))]:List BL)
mutual
def AD:Nat→Bq→Av→Ag→Int→(List BL)→Int→An→Int→(List (Bq×AJ))→Option (An×Int×(List (Bq×AJ)))
  | 0,_,_,_,_,_,_,_,_,_=>none
  | n+1,s_,c,y,x35,x37,x_v10,x_v11,x_v12,x_v13 =>
    (bif decide (x_v10<((x37.length:Nat):Int)) then
    ((B3 x37 x_v10).bind fun x42 =>
    ((B3 y.buses x35).bind fun x49 =>
    ((x42.tm x49).bind fun x51 =>
    (((bif decide (s_.behind<c.down) then
    ((Cv n ([s_.last,x51]:List Int)).bind fun x67 =>
    some x67)
    else
    some s_.last):Option Int).bind fun o_184 =>
    ((lane_Yard_worst_1 n (Bq.mk (IntKind.i64.wrap (s_.behind+1)) o_184) c x_v13 y).bind fun x71 =>
    (((bif decide (x51≤s_.last) then
    some (IntKind.i64.wrap (x71.1.many+1))
    else
    some x71.1.many):Option Int).bind fun o_249 =>
    (((bif (x_v10 == 0) then
    some true
    else
    some (decide (o_249>x_v12))):Option Bool).bind fun o_263 =>
    (bif o_263 then
    ((Lw 8 x35).bind fun x93 =>
    ((An.setI x71.1.tm x35 x51).bind fun u_292 =>
    AD n s_ c y x35 x37 (IntKind.i64.wrap (x_v10+1)) u_292 o_249 x71.2))
    else
    AD n s_ c y x35 x37 (IntKind.i64.wrap (x_v10+1)) x_v11 x_v12 x71.2))))))))
    else
    some (x_v11,x_v12,x_v13))
def lane_Yard_worst_1:Nat→Bq→Av→(List (Bq×AJ))→Ag→Option (AJ×(List (Bq×AJ)))
  | 0,_,_,_,_=>none
  | n+1,s_,c,known,y =>
    (bif (s_.behind == ((c.buses.length:Nat):Int)) then
    some ((AJ.mk 0 (An.mk 0 0 0 0 0 0 0 0)),known)
    else
    ((some (Ea known s_ ((AJ.mk 0 (An.mk 0 0 0 0 0 0 0 0)):AJ))).bind fun x26 =>
    (bif x26.2 then
    some (x26.1,known)
    else
    ((B3 c.buses s_.behind).bind fun x35 =>
    ((Jv n ).bind fun x37 =>
    ((AD n s_ c y x35 x37 0 (An.mk 0 0 0 0 0 0 0 0) 0 known).bind fun o_98 =>
    some ((AJ.mk o_98.2.1 o_98.1),(G7 o_98.2.2 s_ (AJ.mk o_98.2.1 o_98.1)))))))))
end
def BP (n:Nat) (y:Ag) (c:Av):Option AJ :=
  ((lane_Yard_worst_1 n (Bq.mk 0 (-1)) c ([]:List (Bq×AJ)) y).bind fun x11 =>
  some x11.1)
def Bw:Nat→Av→AJ→Int→An→Option An
  | 0,_,_,_,_=>none
  | n+1,x30,x34,x_v30,x_v31 =>
    (bif decide (x_v30<((x30.buses.length:Nat):Int)) then
    ((B3 x30.buses x_v30).bind fun x44 =>
    ((Lw 8 x44).bind fun x49 =>
    ((B3 x34.tm.toL x44).bind fun x50 =>
    ((Lw 8 x44).bind fun x51 =>
    ((An.setI x_v31 x44 x50).bind fun u_213 =>
    Bw n x30 x34 (IntKind.i64.wrap (x_v30+1)) u_213)))))
    else
    some x_v31)
def By:Nat→Ag→(List Av)→Int→Int→An→Option (Int×An)
  | 0,_,_,_,_,_=>none
  | n+1,y,x26,x_v20,x_v21,x_v22 =>
    (bif decide (x_v20<((x26.length:Nat):Int)) then
    ((B3 x26 x_v20).bind fun x30 =>
    ((BP n y x30).bind fun x34 =>
    ((Bw n x30 x34 0 x_v22).bind fun o_170 =>
    By n y x26 (IntKind.i64.wrap (x_v20+1)) (IntKind.i64.wrap (x_v21+x34.many)) o_170)))
    else
    some (x_v21,x_v22))
def Bf:Nat→Ag→(List Int)→(List Ar)→Int→Int→An→Ar→Option (Int×An×Ar)
  | 0,_,_,_,_,_,_,_=>none
  | n+1,y,lanes,x17,x_v10,x_v11,x_v12,x_v13 =>
    (bif decide (x_v10<((x17.length:Nat):Int)) then
    ((B3 x17 x_v10).bind fun x21 =>
    ((Cn n y lanes x21).bind fun x26 =>
    ((By n y x26 0 0 (An.mk 0 0 0 0 0 0 0 0)).bind fun o_104 =>
    (bif decide (o_104.1>x_v11) then
    Bf n y lanes x17 (IntKind.i64.wrap (x_v10+1)) o_104.1 o_104.2 x21
    else
    Bf n y lanes x17 (IntKind.i64.wrap (x_v10+1)) x_v11 x_v12 x_v13))))
    else
    some (x_v11,x_v12,x_v13))
def CH (n:Nat) (y:Ag) (lanes:List Int):Option (An×Ar×Int) :=
  ((C1 n y).bind fun x17 =>
  ((Bf n y lanes x17 0 (-1) (An.mk 0 0 0 0 0 0 0 0) (Ar.mk false false false false false false false false)).bind fun o_42 =>
  some (o_42.2.1,o_42.2.2,o_42.1)))
def B8 (n:Nat) (b:Int) (q0:Ar) (q1:Ag):Option Int :=
  ((Lw 8 b).bind fun x6 =>
  ((B3 q0.toL b).bind fun x7 =>
  (bif x7 then
  some 2001
  else
  ((B3 q1.buses b).bind fun x11 =>
  some x11.turn))))
def BG:Nat→(List Int)→Int→Option (Ex Int Unit)
  | 0,_,_=>none
  | n+1,vals,x_v10 =>
    (bif decide (x_v10<((vals.length:Nat):Int)) then
    ((B3 vals x_v10).bind fun x10 =>
    (bif (x10 != 0) then
    some (Ex.ret x10)
    else
    BG n vals (IntKind.i64.wrap (x_v10+1))))
    else
    some (Ex.go ()))
def Gi (n:Nat) (vals:List Int):Option Int :=
  ((BG n vals 0).bind fun o_8=>Ex.bind o_8 (fun r=>some r) fun s_9 =>
  some 0)
def Dh (n:Nat) (a:Int) (b:Int) (q0:An) (q1:Int→Option Int):Option Int :=
  ((Lw 8 a).bind fun x8 =>
  ((B3 q0.toL a).bind fun x9 =>
  ((Lw 8 b).bind fun x11 =>
  ((B3 q0.toL b).bind fun x12 =>
  ((q1 b).bind fun x16 =>
  ((q1 a).bind fun x19 =>
  ((Gi n ([IntKind.i64.wrap (x9-x12),IntKind.i64.wrap (x16-x19),IntKind.i64.wrap (a-b)]:List Int)).bind fun x25 =>
  some x25)))))))
def Cw:Nat→Ag→(An×Ar×Int)→(List Int)→(List Int)→Int→Option ((List Int)×(List Int))
  | 0,_,_,_,_,_=>none
  | n+1,y,x25,x_v10,x_v11,x_v12 =>
    (bif decide (x_v12<((y.buses.length:Nat):Int)) then
    ((Ij x_v10 ([x_v12]:List Int)).bind fun x38 =>
    ((Lw 8 x_v12).bind fun x40 =>
    ((B3 x25.2.1.toL x_v12).bind fun x41 =>
    (bif x41 then
    ((Ij x_v11 ([x_v12]:List Int)).bind fun x45 =>
    Cw n y x25 x38 x45 (IntKind.i64.wrap (x_v12+1)))
    else
    Cw n y x25 x38 x_v11 (IntKind.i64.wrap (x_v12+1))))))
    else
    some (x_v10,x_v11))
def CN (n:Nat) (y:Ag) (lanes:List Int):Option ((List Int)×(List Int)×Int×Int) :=
  ((Cp n y).bind fun x14 =>
  (bif (x14 != 0) then
  some (([]:List Int),([]:List Int),0,x14)
  else
  ((CD n y lanes).bind fun x20 =>
  (bif (!x20) then
  some (([]:List Int),([]:List Int),0,2)
  else
  ((CH n y lanes).bind fun x25 =>
  ((Cw n y x25 ([]:List Int) ([]:List Int) 0).bind fun o_99 =>
  ((AO n o_99.1 (fun(y0:Int)(y1:Int)=>Dh n y0 y1 x25.1 (fun(y0:Int)=>B8 n y0 x25.2.1 y))).bind fun x50 =>
  some (x50,o_99.2,x25.2.2,0))))))))
def Cf:Nat→Av→Int→Ar→Ar→Option (Ar×Ar)
  | 0,_,_,_,_=>none
  | n+1,x31,x_v30,x_v31,x_v32 =>
    (bif decide (x_v30<((x31.buses.length:Nat):Int)) then
    ((B3 x31.buses x_v30).bind fun x39 =>
    ((Lw 8 x39).bind fun x48 =>
    ((Ar.setI x_v31 x39 true).bind fun us0 =>
    ((Lw 8 x39).bind fun x50 =>
    ((Ar.setI x_v32 x39 (decide (x_v30≥x31.down))).bind fun us1 =>
    Cf n x31 (IntKind.i64.wrap (x_v30+1)) us0 us1)))))
    else
    some (x_v31,x_v32))
def Cg:Nat→Int→Ag→(List Av)→Int→Int→(List (E0×Int))→Option (Int×(List (E0×Int)))
  | 0,_,_,_,_,_,_=>none
  | n+1,many,y,x27,x_v20,x_v21,x_v22 =>
    (bif decide (x_v20<((x27.length:Nat):Int)) then
    ((B3 x27 x_v20).bind fun x31 =>
    ((Cf n x31 0 (Ar.mk false false false false false false false false) (Ar.mk false false false false false false false false)).bind fun o_134 =>
    ((some (Ea x_v22 (E0.mk o_134.1 o_134.2) (0:Int))).bind fun x55 =>
    (bif (!x55.2) then
    ((BP n y x31).bind fun x64 =>
    ((some (Ea (G7 x_v22 (E0.mk o_134.1 o_134.2) x64.many) (E0.mk o_134.1 o_134.2) (0:Int))).bind fun x69 =>
    Cg n many y x27 (IntKind.i64.wrap (x_v20+1)) (IntKind.i64.wrap (x_v21+x69.1)) (G7 x_v22 (E0.mk o_134.1 o_134.2) x64.many)))
    else
    ((some (Ea x_v22 (E0.mk o_134.1 o_134.2) (0:Int))).bind fun x69 =>
    Cg n many y x27 (IntKind.i64.wrap (x_v20+1)) (IntKind.i64.wrap (x_v21+x69.1)) x_v22)))))
    else
    some (x_v21,x_v22))
def Ch:Nat→(List Int)→Bool→Int→(List Ar)→Ag→Int→Int→(List (E0×Int))→Option (Int×(List (E0×Int)))
  | 0,_,_,_,_,_,_,_,_=>none
  | n+1,l,found,many,breaks,y,x_v10,x_v11,x_v12 =>
    (bif decide (x_v10<((breaks.length:Nat):Int)) then
    ((B3 breaks x_v10).bind fun x22 =>
    ((Cn n y l x22).bind fun x27 =>
    ((Cg n many y x27 0 0 x_v12).bind fun o_84 =>
    ((Cv n ([x_v11,o_84.1]:List Int)).bind fun x75 =>
    (bif found then
    (bif decide (x75≥many) then
    some (x75,o_84.2)
    else
    Ch n l found many breaks y (IntKind.i64.wrap (x_v10+1)) x75 o_84.2)
    else
    Ch n l found many breaks y (IntKind.i64.wrap (x_v10+1)) x75 o_84.2)))))
    else
    some (x_v11,x_v12))
def Ft (n:Nat) (l:List Int) (found:Bool) (many:Int) (breaks:List Ar) (y:Ag) (known:List (E0×Int)):Option (Int×(List (E0×Int))) :=
  ((Ch n l found many breaks y 0 0 known).bind fun o_21 =>
  some (o_21.1,o_21.2))
mutual
def Ci:Nat→(List Int)→(List Int)→Ag→(List Ar)→(List Int)→Int→Bool→Int→(List Int)→(List (E0×Int))→Option ((List Int)×Bool×Int×(List Int)×(List (E0×Int)))
  | 0,_,_,_,_,_,_,_,_,_,_=>none
  | n+1,l,room,y,breaks,x_v10,x_v11,x_v12,x_v13,x_v14,x_v15 =>
    (bif decide (x_v11<((room.length:Nat):Int)) then
    ((B3 x_v10 x_v11).bind fun x37 =>
    (bif decide (x37>0) then
    ((B3 x_v10 x_v11).bind fun x42 =>
    ((B3 x_v10 x_v11).bind fun x45 =>
    ((upd x_v10 x_v11 (IntKind.i64.wrap (x42-1))).bind fun u_235 =>
    ((Ij l ([x_v11]:List Int)).bind fun x50 =>
    ((lane_Best_2 n x50 x_v12 x_v13 x_v14 u_235 y breaks x_v15).bind fun x51 =>
    ((B3 x51.2.2.2.1 x_v11).bind fun x54 =>
    ((B3 x51.2.2.2.1 x_v11).bind fun x57 =>
    ((upd x51.2.2.2.1 x_v11 (IntKind.i64.wrap (x54+1))).bind fun u_331 =>
    Ci n l room y breaks u_331 (IntKind.i64.wrap (x_v11+1)) x51.1 x51.2.1 x51.2.2.1 x51.2.2.2.2))))))))
    else
    Ci n l room y breaks x_v10 (IntKind.i64.wrap (x_v11+1)) x_v12 x_v13 x_v14 x_v15))
    else
    some (x_v10,x_v12,x_v13,x_v14,x_v15))
def lane_Best_2:Nat→(List Int)→Bool→Int→(List Int)→(List Int)→Ag→(List Ar)→(List (E0×Int))→Option (Bool×Int×(List Int)×(List Int)×(List (E0×Int)))
  | 0,_,_,_,_,_,_,_,_=>none
  | n+1,l,found,many,best,room,y,breaks,known =>
    (bif (((l.length:Nat):Int) == ((y.buses.length:Nat):Int)) then
    ((Ft n l found many breaks y known).bind fun x19 =>
    (((bif (!found) then
    some true
    else
    some (decide (x19.1<many))):Option Bool).bind fun o_63 =>
    (((bif o_63 then
    ((Bu n l).bind fun x28 =>
    some (true,x19.1,x28))
    else
    some (found,many,best)):Option (Bool×Int×(List Int))).bind fun o_79 =>
    some (o_79.1,o_79.2.1,o_79.2.2,room,x19.2))))
    else
    ((Ci n l room y breaks room 0 found many best known).bind fun o_166 =>
    some (o_166.2.1,o_166.2.2.1,o_166.2.2.2.1,o_166.1,o_166.2.2.2.2)))
end
def Es (n:Nat) (y:Ag):Option ((List Int)×Int×Int) :=
  ((Cp n y).bind fun x14 =>
  (bif (x14 != 0) then
  some (([]:List Int),0,x14)
  else
  ((C1 n y).bind fun x19 =>
  ((Bu n y.room).bind fun x22 =>
  ((lane_Best_2 n ([]:List Int) false 0 ([]:List Int) x22 y x19 ([]:List (E0×Int))).bind fun x27 =>
  (bif (!x27.1) then
  some (([]:List Int),0,9)
  else
  some (x27.2.2.1,x27.2.1,0)))))))
def GZ (n:Nat)  : Option Ag :=
  some (Ag.mk ([2,2]:List Int) ([BO.mk 100 120 40,BO.mk 110 130 20,BO.mk 125 140 30,BO.mk 150 160 10]:List BO) 0)
def DA:Nat→(List Int)→(List Int)→Int→Option (Ex Bool Unit)
  | 0,_,_,_=>none
  | n+1,a,b,x_v10 =>
    (bif decide (x_v10<((a.length:Nat):Int)) then
    ((B3 a x_v10).bind fun x19 =>
    ((B3 b x_v10).bind fun x23 =>
    (bif (x19 != x23) then
    some (Ex.ret false)
    else
    DA n a b (IntKind.i64.wrap (x_v10+1)))))
    else
    some (Ex.go ()))
def Gj (n:Nat) (a:List Int) (b:List Int):Option Bool :=
  (bif (((a.length:Nat):Int) != ((b.length:Nat):Int)) then
  some false
  else
  ((DA n a b 0).bind fun o_11=>Ex.bind o_11 (fun r=>some r) fun s_12 =>
  some true))
def Dt (n:Nat)  : Option Bool :=
  ((GZ n ).bind fun x11 =>
  ((Fs n x11 ([0,0,1,1]:List Int) ([0,1,2,3]:List Int) ([]:List Int)).bind fun x14 =>
  ((GZ n ).bind fun x18 =>
  ((CN n x18 ([0,1,1,0]:List Int)).bind fun x20 =>
  ((GZ n ).bind fun x26 =>
  ((Es n x26).bind fun x27 =>
  (bif (x14.2 == 0) then
  ((Gj n x14.1 ([0,2]:List Int)).bind fun x36 =>
  (bif x36 then
  (bif (x20.2.2.2 == 0) then
  (bif (x20.2.2.1 == 2) then
  (bif (x27.2.2 == 0) then
  (bif (x27.2.1 == 2) then
  ((Gj n x27.1 ([0,0,1,1]:List Int)).bind fun x57 =>
  some x57)
  else
  some false)
  else
  some false)
  else
  some false)
  else
  some false)
  else
  some false))
  else
  some false)))))))
def Ha (n:Nat) (l:List Int):Option (List Int) :=
  ((Ij ([]:List Int) l).bind fun x4 =>
  some x4)
def DB:Nat→Ag→(List BO)→Int→Option (List BO)
  | 0,_,_,_=>none
  | n+1,y,x_v10,x_v11 =>
    (bif decide (x_v11<((y.buses.length:Nat):Int)) then
    ((B3 y.buses x_v11).bind fun x22 =>
    ((Ij x_v10 ([x22]:List BO)).bind fun x34 =>
    DB n y x34 (IntKind.i64.wrap (x_v11+1))))
    else
    some x_v10)
def Hb (n:Nat) (y:Ag):Option Ag :=
  ((Ha n y.room).bind fun x8 =>
  ((DB n y ([]:List BO) 0).bind fun o_50 =>
  some (Ag.mk x8 o_50 y.broken)))
def Gk (n:Nat) (n_:Int) (low:Int) (high:Int):Option Bool :=
  (bif decide (n_≥low) then
  some (decide (n_≤high))
  else
  some false)
def Di:Nat→Ag→Int→Option (Ex Int Unit)
  | 0,_,_=>none
  | n+1,y,x_v10 =>
    (bif decide (x_v10<((y.room.length:Nat):Int)) then
    ((B3 y.room x_v10).bind fun x37 =>
    ((Gk n x37 0 8).bind fun x39 =>
    (bif (!x39) then
    some (Ex.ret 1)
    else
    Di n y (IntKind.i64.wrap (x_v10+1)))))
    else
    some (Ex.go ()))
def Dj:Nat→Ag→Int→BO→Int→Option (Ex Int Unit)
  | 0,_,_,_,_=>none
  | n+1,y,x_v20,x51,x_v30 =>
    (bif decide (x_v30<x_v20) then
    ((B3 y.buses x_v30).bind fun x78 =>
    (bif (x78.turn == x51.turn) then
    some (Ex.ret 1)
    else
    Dj n y x_v20 x51 (IntKind.i64.wrap (x_v30+1))))
    else
    some (Ex.go ()))
def Dk:Nat→Ag→Int→Option (Ex Int Unit)
  | 0,_,_=>none
  | n+1,y,x_v20 =>
    (bif decide (x_v20<((y.buses.length:Nat):Int)) then
    ((B3 y.buses x_v20).bind fun x51 =>
    ((((Gk n x51.lo 0 x51.hi).bind fun x57 =>
    (bif (!x57) then
    some true
    else
    (bif decide (x51.hi>2000) then
    some true
    else
    ((Gk n x51.turn 0 2000).bind fun x67 =>
    some (!x67))))):Option Bool).bind fun o_162 =>
    (bif o_162 then
    some (Ex.ret 1)
    else
    ((Dj n y x_v20 x51 0).bind fun o_211=>Ex.bind o_211 (fun r=>some (Ex.ret r)) fun s_212 =>
    Dk n y (IntKind.i64.wrap (x_v20+1))))))
    else
    some (Ex.go ()))
def EW (n:Nat) (y:Ag):Option Int :=
  (((bif decide (((y.room.length:Nat):Int)>3) then
  some true
  else
  some (decide (((y.buses.length:Nat):Int)>8))):Option Bool).bind fun o_14 =>
  (bif o_14 then
  some 3
  else
  (((bif decide (((y.room.length:Nat):Int)<1) then
  some true
  else
  ((Gk n y.broken 0 2).bind fun x24 =>
  some (!x24))):Option Bool).bind fun o_33 =>
  (bif o_33 then
  some 1
  else
  ((Di n y 0).bind fun o_65=>Ex.bind o_65 (fun r=>some r) fun s_66 =>
  ((Dk n y 0).bind fun o_120=>Ex.bind o_120 (fun r=>some r) fun s_121 =>
  some 0))))))
def FV (n:Nat) (y:Ag):Option Int :=
  ((EW n y).bind fun x4 =>
  some x4)
def Ej:Nat→(List Int)→Int→Int→Option (Ex Bool Unit)
  | 0,_,_,_=>none
  | n+1,l,n_,x_v10 =>
    (bif decide (x_v10<((l.length:Nat):Int)) then
    ((B3 l x_v10).bind fun x14 =>
    (bif (x14 == n_) then
    some (Ex.ret true)
    else
    Ej n l n_ (IntKind.i64.wrap (x_v10+1))))
    else
    some (Ex.go ()))
def FN (n:Nat) (l:List Int) (n_:Int):Option Bool :=
  ((Ej n l n_ 0).bind fun o_6=>Ex.bind o_6 (fun r=>some r) fun s_7 =>
  some false)
def Cq:Nat→Ag→(List Int)→Int→Int→Option (Ex Bool Unit)
  | 0,_,_,_,_=>none
  | n+1,y,order,x_v10,x_v20 =>
    (bif decide (x_v20<x_v10) then
    ((B3 order x_v20).bind fun x48 =>
    ((B3 y.buses x48).bind fun x50 =>
    ((B3 order x_v10).bind fun x57 =>
    ((B3 y.buses x57).bind fun x59 =>
    (bif decide (x50.lo>x59.hi) then
    some (Ex.ret false)
    else
    Cq n y order x_v10 (IntKind.i64.wrap (x_v20+1)))))))
    else
    some (Ex.go ()))
def Cr:Nat→Ag→(List Int)→Int→Option (Ex Bool Unit)
  | 0,_,_,_=>none
  | n+1,y,order,x_v10 =>
    (bif decide (x_v10<((order.length:Nat):Int)) then
    ((((B3 order x_v10).bind fun x21 =>
    ((Gk n x21 0 (IntKind.i64.wrap (((y.buses.length:Nat):Int)-1))).bind fun x27 =>
    (bif (!x27) then
    some true
    else
    ((Ra order x_v10).bind fun x32 =>
    ((B3 order x_v10).bind fun x35 =>
    ((FN n x32 x35).bind fun x37 =>
    some x37)))))):Option Bool).bind fun o_39 =>
    (bif o_39 then
    some (Ex.ret false)
    else
    ((Cq n y order x_v10 0).bind fun o_119=>Ex.bind o_119 (fun r=>some (Ex.ret r)) fun s_120 =>
    Cr n y order (IntKind.i64.wrap (x_v10+1)))))
    else
    some (Ex.go ()))
def DL (n:Nat) (y:Ag) (order:List Int):Option Bool :=
  (bif (((order.length:Nat):Int) != ((y.buses.length:Nat):Int)) then
  some false
  else
  ((Cr n y order 0).bind fun o_22=>Ex.bind o_22 (fun r=>some r) fun s_23 =>
  some true))
def C4:Nat→Ag→(List Int)→(List Int)→Int→Option (Ex Bool (List Int))
  | 0,_,_,_,_=>none
  | n+1,y,lanes,x_v10,x_v11 =>
    (bif decide (x_v11<((lanes.length:Nat):Int)) then
    ((B3 lanes x_v11).bind fun x25 =>
    ((Gk n x25 0 (IntKind.i64.wrap (((y.room.length:Nat):Int)-1))).bind fun x31 =>
    (bif (!x31) then
    some (Ex.ret false)
    else
    ((B3 lanes x_v11).bind fun x36 =>
    ((B3 x_v10 x36).bind fun x38 =>
    ((B3 x_v10 x36).bind fun x41 =>
    ((upd x_v10 x36 (IntKind.i64.wrap (x38+1))).bind fun u_134 =>
    ((B3 lanes x_v11).bind fun x45 =>
    ((B3 u_134 x45).bind fun x47 =>
    ((B3 lanes x_v11).bind fun x53 =>
    ((B3 y.room x53).bind fun x55 =>
    (bif decide (x47>x55) then
    some (Ex.ret false)
    else
    C4 n y lanes u_134 (IntKind.i64.wrap (x_v11+1))))))))))))))
    else
    some (Ex.go x_v10))
def Et (n:Nat) (y:Ag) (lanes:List Int):Option Bool :=
  (bif (((lanes.length:Nat):Int) != ((y.buses.length:Nat):Int)) then
  some false
  else
  ((mk ((y.room.length:Nat):Int) (0:Int)).bind fun x16 =>
  ((C4 n y lanes x16 0).bind fun o_44=>Ex.bind o_44 (fun r=>some r) fun s_45 =>
  some true)))
def BQ:Nat→Ag→(List Int)→Int→Option (Ex Bool Unit)
  | 0,_,_,_=>none
  | n+1,y,broken,x_v10 =>
    (bif decide (x_v10<((broken.length:Nat):Int)) then
    ((B3 broken x_v10).bind fun x14 =>
    ((Gk n x14 0 (IntKind.i64.wrap (((y.buses.length:Nat):Int)-1))).bind fun x20 =>
    (bif (!x20) then
    some (Ex.ret false)
    else
    (bif decide (x_v10>0) then
    ((B3 broken x_v10).bind fun x28 =>
    ((B3 broken (IntKind.i64.wrap (x_v10-1))).bind fun x33 =>
    (bif decide (x28≤x33) then
    some (Ex.ret false)
    else
    BQ n y broken (IntKind.i64.wrap (x_v10+1)))))
    else
    BQ n y broken (IntKind.i64.wrap (x_v10+1))))))
    else
    some (Ex.go ()))
def E4 (n:Nat) (y:Ag) (broken:List Int):Option Bool :=
  ((BQ n y broken 0).bind fun o_17=>Ex.bind o_17 (fun r=>some r) fun s_18 =>
  some (decide (((broken.length:Nat):Int)≤y.broken)))
def CI:Nat→Ag→(List Int)→Int→Option (List Int)
  | 0,_,_,_=>none
  | n+1,y,x_v20,x_v21 =>
    (((bif decide (x_v21>0) then
    ((B3 x_v20 x_v21).bind fun x32 =>
    ((B3 y.buses x32).bind fun x34 =>
    ((B3 x_v20 (IntKind.i64.wrap (x_v21-1))).bind fun x42 =>
    ((B3 y.buses x42).bind fun x44 =>
    some (decide (x34.turn<x44.turn))))))
    else
    some false):Option Bool).bind fun o_105 =>
    (bif o_105 then
    ((B3 x_v20 (IntKind.i64.wrap (x_v21-1))).bind fun x59 =>
    ((B3 x_v20 x_v21).bind fun x63 =>
    ((B3 x_v20 x_v21).bind fun x65 =>
    ((upd x_v20 x_v21 x59).bind fun u_225 =>
    ((B3 u_225 (IntKind.i64.wrap (x_v21-1))).bind fun x66 =>
    ((upd u_225 (IntKind.i64.wrap (x_v21-1)) x63).bind fun u_249 =>
    CI n y u_249 (IntKind.i64.wrap (x_v21-1))))))))
    else
    some x_v20))
def CJ:Nat→Ag→(List Int)→(List Int)→Int→Option (List Int)
  | 0,_,_,_,_=>none
  | n+1,y,broken,x_v10,x_v11 =>
    (bif decide (x_v11<((y.buses.length:Nat):Int)) then
    ((FN n broken x_v11).bind fun x17 =>
    (bif x17 then
    CJ n y broken x_v10 (IntKind.i64.wrap (x_v11+1))
    else
    ((Ij x_v10 ([x_v11]:List Int)).bind fun x21 =>
    ((CI n y x21 (IntKind.i64.wrap (((x21.length:Nat):Int)-1))).bind fun o_92 =>
    CJ n y broken o_92 (IntKind.i64.wrap (x_v11+1))))))
    else
    some x_v10)
def Hc (n:Nat) (y:Ag) (broken:List Int):Option (List Int) :=
  ((CJ n y broken ([]:List Int) 0).bind fun o_29 =>
  some o_29)
def Cj:Nat→(List Int)→(List Int)→Int→Int→(List (List Int))→(List Int)→Int→Option ((List (List Int))×(List Int))
  | 0,_,_,_,_,_,_,_=>none
  | n+1,lanes,order,x_v12,x30,x_v20,x_v21,x_v22 =>
    (((bif decide (x_v22<((order.length:Nat):Int)) then
    ((B3 order x_v22).bind fun x39 =>
    some (x39 != x30))
    else
    some false):Option Bool).bind fun o_136 =>
    (bif o_136 then
    ((B3 order x_v22).bind fun x48 =>
    ((((B3 lanes x48).bind fun x52 =>
    ((B3 lanes x30).bind fun x56 =>
    (bif (x52 == x56) then
    ((FN n x_v21 x48).bind fun x62 =>
    some (x_v21,(!x62)))
    else
    some (x_v21,false)))):Option ((List Int)×Bool)).bind fun o_183 =>
    (bif o_183.2 then
    ((B3 x_v20 x_v12).bind fun x69 =>
    ((Ij x69 ([x48]:List Int)).bind fun x73 =>
    ((B3 x_v20 x_v12).bind fun x74 =>
    ((upd x_v20 x_v12 x73).bind fun u_300 =>
    ((Ij o_183.1 ([x48]:List Int)).bind fun x78 =>
    Cj n lanes order x_v12 x30 u_300 x78 (IntKind.i64.wrap (x_v22+1)))))))
    else
    Cj n lanes order x_v12 x30 x_v20 o_183.1 (IntKind.i64.wrap (x_v22+1)))))
    else
    some (x_v20,x_v21)))
def C5:Nat→(List Int)→(List Int)→(List Int)→(List (List Int))→(List Int)→Int→Option ((List (List Int))×(List Int))
  | 0,_,_,_,_,_,_=>none
  | n+1,lanes,order,x18,x_v10,x_v11,x_v12 =>
    (bif decide (x_v12<((x18.length:Nat):Int)) then
    ((B3 x18 x_v12).bind fun x30 =>
    ((Cj n lanes order x_v12 x30 x_v10 x_v11 0).bind fun o_123 =>
    ((Ij o_123.2 ([x30]:List Int)).bind fun x82 =>
    C5 n lanes order x18 o_123.1 x82 (IntKind.i64.wrap (x_v12+1)))))
    else
    some (x_v10,x_v11))
def Fu (n:Nat) (y:Ag) (lanes:List Int) (order:List Int) (broken:List Int):Option (List (List Int)) :=
  ((Hc n y broken).bind fun x18 =>
  ((mk ((x18.length:Nat):Int) (([]:List Int):List Int)).bind fun x21 =>
  ((C5 n lanes order x18 x21 ([]:List Int) 0).bind fun o_70 =>
  some o_70.1)))
def CO:Nat→(List (List Int))→(List Int)→Int→Option (List Int)
  | 0,_,_,_=>none
  | n+1,x18,x_v10,x_v11 =>
    (bif decide (x_v11<((x18.length:Nat):Int)) then
    ((B3 x18 x_v11).bind fun x28 =>
    ((Ij x_v10 x28).bind fun x30 =>
    CO n x18 x30 (IntKind.i64.wrap (x_v11+1))))
    else
    some x_v10)
def Cx:Nat→Ag→(List Int)→(List Int)→Int→Option ((List Int)×(List Int))
  | 0,_,_,_,_=>none
  | n+1,y,x_v20,x_v21,x_v22 =>
    (bif decide (x_v22<((y.buses.length:Nat):Int)) then
    ((FN n x_v20 x_v22).bind fun x40 =>
    (bif x40 then
    ((Ij x_v21 ([x_v22]:List Int)).bind fun x44 =>
    Cx n y x_v20 x44 (IntKind.i64.wrap (x_v22+1)))
    else
    Cx n y x_v20 x_v21 (IntKind.i64.wrap (x_v22+1))))
    else
    some (x_v20,x_v21))
def EX (n:Nat) (y:Ag) (lanes:List Int) (order:List Int) (broken:List Int):Option (List Int) :=
  ((Fu n y lanes order broken).bind fun x18 =>
  ((CO n x18 ([]:List Int) 0).bind fun o_44 =>
  ((Cx n y o_44 ([]:List Int) 0).bind fun o_125 =>
  some o_125.2)))
def Jw (n:Nat) (y:Ag):Option Bool :=
  ((IA n y).bind fun x4 =>
  (bif x4 then
  ((EW n y).bind fun x7 =>
  (bif (x7 != 0) then
  some true
  else
  some (decide (((y.buses.length:Nat):Int)≤5))))
  else
  some false))
mutual
def Cy:Nat→Ag→(List Int)→(List (List Int))→Int→Option (List (List Int))
  | 0,_,_,_,_=>none
  | n+1,y,begins,x_v10,x_v11 =>
    (bif decide (x_v11<((y.buses.length:Nat):Int)) then
    ((FN n begins x_v11).bind fun x29 =>
    (bif (!x29) then
    ((Ij ([]:List Int) begins).bind fun x35 =>
    ((Ij x35 ([x_v11]:List Int)).bind fun x38 =>
    ((ref_Orders n y x38).bind fun x39 =>
    ((Ij x_v10 x39).bind fun x40 =>
    Cy n y begins x40 (IntKind.i64.wrap (x_v11+1))))))
    else
    Cy n y begins x_v10 (IntKind.i64.wrap (x_v11+1))))
    else
    some x_v10)
def ref_Orders:Nat→Ag→(List Int)→Option (List (List Int))
  | 0,_,_=>none
  | n+1,y,begins =>
    (bif (((begins.length:Nat):Int) == ((y.buses.length:Nat):Int)) then
    ((DL n y begins).bind fun x15 =>
    (bif x15 then
    ((Ij ([]:List Int) begins).bind fun x18 =>
    some ([x18]:List (List Int)))
    else
    some ([]:List (List Int))))
    else
    ((Cy n y begins ([]:List (List Int)) 0).bind fun o_87 =>
    some o_87))
end
mutual
def Cz:Nat→Ag→(List Int)→(List (List Int))→Int→Option (List (List Int))
  | 0,_,_,_,_=>none
  | n+1,y,some_,x_v10,x_v11 =>
    (((bif decide (x_v11<((y.buses.length:Nat):Int)) then
    some (decide (((some_.length:Nat):Int)<y.broken))
    else
    some false):Option Bool).bind fun o_74 =>
    (bif o_74 then
    ((Ij ([]:List Int) some_).bind fun x34 =>
    ((Ij x34 ([x_v11]:List Int)).bind fun x37 =>
    ((ref_Breaks n y (IntKind.i64.wrap (x_v11+1)) x37).bind fun x38 =>
    ((Ij x_v10 x38).bind fun x39 =>
    Cz n y some_ x39 (IntKind.i64.wrap (x_v11+1))))))
    else
    some x_v10))
def ref_Breaks:Nat→Ag→Int→(List Int)→Option (List (List Int))
  | 0,_,_,_=>none
  | n+1,y,from_,some_ =>
    ((Ij ([]:List Int) some_).bind fun x11 =>
    ((Cz n y some_ ([x11]:List (List Int)) from_).bind fun o_61 =>
    some o_61))
end
def Dm:Nat→Ag→(List Int)→(List (List Int))→(List (List Int))→Int→Int→Int→Option Int
  | 0,_,_,_,_,_,_,_=>none
  | n+1,y,lanes,orders,breaks,x_v10,x_v20,x_v21 =>
    (bif decide (x_v20<((breaks.length:Nat):Int)) then
    ((B3 orders x_v10).bind fun x29 =>
    ((B3 breaks x_v20).bind fun x33 =>
    ((EX n y lanes x29 x33).bind fun x35 =>
    Dm n y lanes orders breaks x_v10 (IntKind.i64.wrap (x_v20+1)) (if ((x35.length:Nat):Int)>x_v21 then((x35.length:Nat):Int) else x_v21))))
    else
    some x_v21)
def Dn:Nat→Ag→(List Int)→(List (List Int))→(List (List Int))→Int→Int→Option Int
  | 0,_,_,_,_,_,_=>none
  | n+1,y,lanes,orders,breaks,x_v10,x_v11 =>
    (bif decide (x_v10<((orders.length:Nat):Int)) then
    ((Dm n y lanes orders breaks x_v10 0 x_v11).bind fun o_38 =>
    Dn n y lanes orders breaks (IntKind.i64.wrap (x_v10+1)) o_38)
    else
    some x_v11)
def FW (n:Nat) (y:Ag) (lanes:List Int) (orders:List (List Int)) (breaks:List (List Int)):Option Int :=
  ((Dn n y lanes orders breaks 0 0).bind fun o_19 =>
  some o_19)
mutual
def Ck:Nat→Ag→(List (List Int))→(List (List Int))→(List Int)→Int→Int→(List Int)→Option (Int×(List Int))
  | 0,_,_,_,_,_,_,_=>none
  | n+1,y,orders,breaks,begins,x_v10,x_v11,x_v12 =>
    (bif decide (x_v10<((y.room.length:Nat):Int)) then
    ((Ij ([]:List Int) begins).bind fun x44 =>
    ((Ij x44 ([x_v10]:List Int)).bind fun x47 =>
    ((ref_Best n y orders breaks x47).bind fun x48 =>
    (bif decide (x48.2≥0) then
    (bif decide (x_v11<0) then
    Ck n y orders breaks begins (IntKind.i64.wrap (x_v10+1)) x48.2 x48.1
    else
    (bif decide (x48.2<x_v11) then
    Ck n y orders breaks begins (IntKind.i64.wrap (x_v10+1)) x48.2 x48.1
    else
    Ck n y orders breaks begins (IntKind.i64.wrap (x_v10+1)) x_v11 x_v12))
    else
    Ck n y orders breaks begins (IntKind.i64.wrap (x_v10+1)) x_v11 x_v12))))
    else
    some (x_v11,x_v12))
def ref_Best:Nat→Ag→(List (List Int))→(List (List Int))→(List Int)→Option ((List Int)×Int)
  | 0,_,_,_,_=>none
  | n+1,y,orders,breaks,begins =>
    (bif (((begins.length:Nat):Int) == ((y.buses.length:Nat):Int)) then
    ((Et n y begins).bind fun x23 =>
    (bif (!x23) then
    some (([]:List Int),(-1))
    else
    ((FW n y begins orders breaks).bind fun x30 =>
    some (begins,x30))))
    else
    ((Ck n y orders breaks begins 0 (-1) ([]:(List Int))).bind fun o_57 =>
    some (o_57.2,o_57.1)))
end
def E5 (n:Nat) (y:Ag) (lanes:List Int):Option Bool :=
  ((((Jw n y).bind fun x11 =>
  (bif (!x11) then
  some true
  else
  some (decide (((lanes.length:Nat):Int)>15)))):Option Bool).bind fun o_14 =>
  (bif o_14 then
  ((Dt n ).bind fun x18 =>
  some x18)
  else
  ((Hb n y).bind fun x21 =>
  ((Ha n lanes).bind fun x23 =>
  ((CN n x21 x23).bind fun x24 =>
  ((FV n y).bind fun x30 =>
  (((bif (x30 == 0) then
  ((Et n y lanes).bind fun x36 =>
  some (!x36))
  else
  some false):Option Bool).bind fun o_108 =>
  (((bif o_108 then
  some 2
  else
  some x30):Option Int).bind fun o_134 =>
  (bif (o_134 != 0) then
  (((bif (x24.2.2.2 == o_134) then
  (bif ((IntKind.i64.wrap (((x24.1.length:Nat):Int)+((x24.2.1.length:Nat):Int))) == 0) then
  (bif (x24.2.2.1 == 0) then
  ((Dt n ).bind fun x57 =>
  some x57)
  else
  some false)
  else
  some false)
  else
  some false):Option Bool).bind fun o_147 =>
  some o_147)
  else
  (bif (x24.2.2.2 == 0) then
  ((DL n y x24.1).bind fun x64 =>
  (bif x64 then
  ((E4 n y x24.2.1).bind fun x69 =>
  (bif x69 then
  ((EX n y lanes x24.1 x24.2.1).bind fun x77 =>
  (bif (x24.2.2.1 == ((x77.length:Nat):Int)) then
  ((ref_Orders n y ([]:List Int)).bind fun x86 =>
  ((ref_Breaks n y 0 ([]:List Int)).bind fun x88 =>
  ((FW n y lanes x86 x88).bind fun x89 =>
  (bif (x24.2.2.1 == x89) then
  ((Dt n ).bind fun x93 =>
  some x93)
  else
  some false))))
  else
  some false))
  else
  some false))
  else
  some false))
  else
  some false))))))))))
def Fk (n:Nat) (y:Ag):Option Bool :=
  ((((Jw n y).bind fun x10 =>
  (bif (!x10) then
  some true
  else
  ((EW n y).bind fun x14 =>
  (bif (x14 == 0) then
  (bif (((y.buses.length:Nat):Int) == 5) then
  (bif decide (y.broken>1) then
  some true
  else
  some (decide (((y.room.length:Nat):Int)>2)))
  else
  some false)
  else
  some false)))):Option Bool).bind fun o_14 =>
  (bif o_14 then
  ((Dt n ).bind fun x34 =>
  some x34)
  else
  ((Hb n y).bind fun x37 =>
  ((Es n x37).bind fun x38 =>
  ((FV n y).bind fun x43 =>
  (((bif (x43 == 0) then
  ((ref_Orders n y ([]:List Int)).bind fun x49 =>
  ((ref_Breaks n y 0 ([]:List Int)).bind fun x51 =>
  ((ref_Best n y x49 x51 ([]:List Int)).bind fun x52 =>
  (bif decide (x52.2<0) then
  some (x52.2,x52.1,9)
  else
  some (x52.2,x52.1,x43)))))
  else
  some (0,([]:(List Int)),x43)):Option (Int×(List Int)×Int)).bind fun o_129 =>
  (bif (o_129.2.2 != 0) then
  (((bif (x38.2.2 == o_129.2.2) then
  (bif (((x38.1.length:Nat):Int) == 0) then
  (bif (x38.2.1 == 0) then
  ((Dt n ).bind fun x72 =>
  some x72)
  else
  some false)
  else
  some false)
  else
  some false):Option Bool).bind fun o_185 =>
  some o_185)
  else
  (bif (x38.2.2 == 0) then
  ((Gj n x38.1 o_129.2.1).bind fun x79 =>
  (bif x79 then
  (bif (x38.2.1 == o_129.1) then
  ((Dt n ).bind fun x87 =>
  some x87)
  else
  some false)
  else
  some false))
  else
  some false))))))))
abbrev XZ:=@Option.some.inj
abbrev XY:=@Exists.intro
abbrev XX:=@Option.bind_some
abbrev XW:=@cond_true
abbrev XV:=@cond_false
abbrev XU:=@Ac.le_trans
abbrev XT:=@wp_seq
end Go.Proofs.YthcbemnflgjadaaGreat
