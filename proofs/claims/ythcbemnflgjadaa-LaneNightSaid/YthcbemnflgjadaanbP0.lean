/- What the functions compute, in plain Lean. -/
import Derived.Test.YthcbemnflgjadaanbS8
import Derived.Test.YthcbemnflgjadaaProg
import Derived.Lib.BitFns
set_option linter.all false
namespace Go.Proofs.Ythcbemnflgjadaa
open Go Go.RowKit
open Rep (rep)
open KRep (kv)
open VRep (rv)
structure BK where
  lo:Int
  hi:Int
  turn:Int
deriving DecidableEq,Inhabited
instance : Rep BK:=Rep.via fun x=>(x.lo,x.hi,x.turn)
instance : VRep BK:=VRep.agg BK
structure Ag where
  room:List Int
  buses:List BK
  broken:Int
deriving DecidableEq,Inhabited
instance : Rep Ag:=Rep.via fun x=>(x.room,x.buses,x.broken)
instance : VRep Ag:=VRep.agg Ag
def Tn (h:Ac) (v:Value) (f:Int→Option Bool):Prop:=∀ (h':Ac)(w':World),Ac.le h h'→D7 h' w'→∀ (x0:Int)(r:Bool),f x0=some r→I1 Try.prog v #[.int .i64 x0] w' (DA (fun h v=>v=.bool r) h' w')
theorem Tn.mono {h h':Ac} {v:Value} {f:Int→Option Bool} (H:Tn h v f) (hle:Ac.le h h'):Tn h' v f:=fun h2 w2 l=>H h2 w2 (Ac.le_trans hle l)
instance : Rep (Int→Option Bool):=⟨1,fun h f cs=>∃ fn first cap,cs=[.func fn first cap]∧Tn h (.func fn first cap) f,fun hle ⟨a,b,c,e,hr⟩=>⟨a,b,c,e,hr.mono hle⟩,fun⟨a,b,c,e,_⟩=>by subst e; rfl,fun⟨a,b,c,e,_⟩ v hv=>by subst e; simp at hv; subst hv; rfl⟩
def To (h:Ac) (v:Value) (f:BK→Option Bool):Prop:=∀ (h':Ac)(w':World),Ac.le h h'→D7 h' w'→∀ (x0:BK)(cs0:List Value)(_:rep h' x0 cs0)(r:Bool),f x0=some r→I1 Try.prog v #[.agg cs0.toArray] w' (DA (fun h v=>v=.bool r) h' w')
theorem To.mono {h h':Ac} {v:Value} {f:BK→Option Bool} (H:To h v f) (hle:Ac.le h h'):To h' v f:=fun h2 w2 l=>H h2 w2 (Ac.le_trans hle l)
instance : Rep (BK→Option Bool):=⟨1,fun h f cs=>∃ fn first cap,cs=[.func fn first cap]∧To h (.func fn first cap) f,fun hle ⟨a,b,c,e,hr⟩=>⟨a,b,c,e,hr.mono hle⟩,fun⟨a,b,c,e,_⟩=>by subst e; rfl,fun⟨a,b,c,e,_⟩ v hv=>by subst e; simp at hv; subst hv; rfl⟩
structure An where
  a0:Int
  a1:Int
  a2:Int
  a3:Int
  a4:Int
  a5:Int
  a6:Int
  a7:Int
deriving DecidableEq,Inhabited
instance : Rep An:=Rep.via fun x=>(x.a0,x.a1,x.a2,x.a3,x.a4,x.a5,x.a6,x.a7)
instance : VRep An:=VRep.agg An
def An.toL (x:An):List Int:=[x.a0,x.a1,x.a2,x.a3,x.a4,x.a5,x.a6,x.a7]
def An.ofL:List Int→Option An
  | [a0,a1,a2,a3,a4,a5,a6,a7]=>some ⟨a0,a1,a2,a3,a4,a5,a6,a7⟩
  | _=>none
theorem An.ofL_some {l:List Int} {y:An} (h:An.ofL l=some y):y.toL=l:=by
  unfold An.ofL at h
  split at h
  · cases h; rfl
  · cases h
def An.setI (x:An) (i:Int) (v:Int):Option An:=(upd x.toL i v).bind An.ofL
theorem An.setI_some {x y:An} {i:Int} {v:Int} (h:x.setI i v=some y):0≤i∧i<8∧y.toL=x.toL.set i.toNat v:=by
  obtain⟨l,hl,h2⟩:=Ap h
  obtain⟨h0,h1,rfl⟩:=Cr hl
  exact⟨h0,h1,An.ofL_some h2⟩
structure Ar where
  a0:Bool
  a1:Bool
  a2:Bool
  a3:Bool
  a4:Bool
  a5:Bool
  a6:Bool
  a7:Bool
deriving DecidableEq,Inhabited
instance : Rep Ar:=Rep.via fun x=>(x.a0,x.a1,x.a2,x.a3,x.a4,x.a5,x.a6,x.a7)
instance : VRep Ar:=VRep.agg Ar
def Ar.toL (x:Ar):List Bool:=[x.a0,x.a1,x.a2,x.a3,x.a4,x.a5,x.a6,x.a7]
def Ar.ofL:List Bool→Option Ar
  | [a0,a1,a2,a3,a4,a5,a6,a7]=>some ⟨a0,a1,a2,a3,a4,a5,a6,a7⟩
  | _=>none
theorem Ar.ofL_some {l:List Bool} {y:Ar} (h:Ar.ofL l=some y):y.toL=l:=by
  unfold Ar.ofL at h
  split at h
  · cases h; rfl
  · cases h
def Ar.setI (x:Ar) (i:Int) (v:Bool):Option Ar:=(upd x.toL i v).bind Ar.ofL
theorem Ar.setI_some {x y:Ar} {i:Int} {v:Bool} (h:x.setI i v=some y):0≤i∧i<8∧y.toL=x.toL.set i.toNat v:=by
  obtain⟨l,hl,h2⟩:=Ap h
  obtain⟨h0,h1,rfl⟩:=Cr hl
  exact⟨h0,h1,Ar.ofL_some h2⟩
structure Ch where
  yard:Ag
  lane:List Int
  tm:An
  broken:Ar
deriving DecidableEq,Inhabited
instance : Rep Ch:=Rep.via fun x=>(x.yard,x.lane,x.tm,x.broken)
instance : VRep Ch:=VRep.agg Ch
def S2 (h:Ac) (v:Value) (f:Int→Int→Option Int):Prop:=∀ (h':Ac)(w':World),Ac.le h h'→D7 h' w'→∀ (x0:Int)(x1:Int)(r:Int),f x0 x1=some r→I1 Try.prog v #[.int .i64 x0,.int .i64 x1] w' (DA (fun h v=>v=.int .i64 r) h' w')
theorem S2.mono {h h':Ac} {v:Value} {f:Int→Int→Option Int} (H:S2 h v f) (hle:Ac.le h h'):S2 h' v f:=fun h2 w2 l=>H h2 w2 (Ac.le_trans hle l)
instance : Rep (Int→Int→Option Int):=⟨1,fun h f cs=>∃ fn first cap,cs=[.func fn first cap]∧S2 h (.func fn first cap) f,fun hle ⟨a,b,c,e,hr⟩=>⟨a,b,c,e,hr.mono hle⟩,fun⟨a,b,c,e,_⟩=>by subst e; rfl,fun⟨a,b,c,e,_⟩ v hv=>by subst e; simp at hv; subst hv; rfl⟩
def Ui (h:Ac) (v:Value) (f:Int→Int→Option Bool):Prop:=∀ (h':Ac)(w':World),Ac.le h h'→D7 h' w'→∀ (x0:Int)(x1:Int)(r:Bool),f x0 x1=some r→I1 Try.prog v #[.int .i64 x0,.int .i64 x1] w' (DA (fun h v=>v=.bool r) h' w')
theorem Ui.mono {h h':Ac} {v:Value} {f:Int→Int→Option Bool} (H:Ui h v f) (hle:Ac.le h h'):Ui h' v f:=fun h2 w2 l=>H h2 w2 (Ac.le_trans hle l)
instance : Rep (Int→Int→Option Bool):=⟨1,fun h f cs=>∃ fn first cap,cs=[.func fn first cap]∧Ui h (.func fn first cap) f,fun hle ⟨a,b,c,e,hr⟩=>⟨a,b,c,e,hr.mono hle⟩,fun⟨a,b,c,e,_⟩=>by subst e; rfl,fun⟨a,b,c,e,_⟩ v hv=>by subst e; simp at hv; subst hv; rfl⟩
structure Av where
  buses:List Int
  down:Int
deriving DecidableEq,Inhabited
instance : Rep Av:=Rep.via fun x=>(x.buses,x.down)
instance : VRep Av:=VRep.agg Av
def Ud (h:Ac) (v:Value) (f:BK→Option Int):Prop:=∀ (h':Ac)(w':World),Ac.le h h'→D7 h' w'→∀ (x0:BK)(cs0:List Value)(_:rep h' x0 cs0)(r:Int),f x0=some r→I1 Try.prog v #[.agg cs0.toArray] w' (DA (fun h v=>v=.int .i64 r) h' w')
theorem Ud.mono {h h':Ac} {v:Value} {f:BK→Option Int} (H:Ud h v f) (hle:Ac.le h h'):Ud h' v f:=fun h2 w2 l=>H h2 w2 (Ac.le_trans hle l)
instance : Rep (BK→Option Int):=⟨1,fun h f cs=>∃ fn first cap,cs=[.func fn first cap]∧Ud h (.func fn first cap) f,fun hle ⟨a,b,c,e,hr⟩=>⟨a,b,c,e,hr.mono hle⟩,fun⟨a,b,c,e,_⟩=>by subst e; rfl,fun⟨a,b,c,e,_⟩ v hv=>by subst e; simp at hv; subst hv; rfl⟩
structure BN where
  tm:BK→Option Int
instance : Rep BN:=Rep.via fun x=>(x.tm)
instance : VRep BN:=VRep.agg BN
structure Bv where
  behind:Int
  last:Int
deriving DecidableEq,Inhabited
instance : Rep Bv:=Rep.via fun x=>(x.behind,x.last)
instance : VRep Bv:=VRep.agg Bv
structure AN where
  many:Int
  tm:An
deriving DecidableEq,Inhabited
instance : Rep AN:=Rep.via fun x=>(x.many,x.tm)
instance : VRep AN:=VRep.agg AN
instance : KRep Bv:=⟨fun x=>.agg #[.int .i64 x.behind,.int .i64 x.last],fun {a b} h=>by
  rcases a with⟨a0,a1⟩
  rcases b with⟨b0,b1⟩
  simp_all⟩
def Uj (h:Ac) (v:Value) (f:Int→Option Int):Prop:=∀ (h':Ac)(w':World),Ac.le h h'→D7 h' w'→∀ (x0:Int)(r:Int),f x0=some r→I1 Try.prog v #[.int .i64 x0] w' (DA (fun h v=>v=.int .i64 r) h' w')
theorem Uj.mono {h h':Ac} {v:Value} {f:Int→Option Int} (H:Uj h v f) (hle:Ac.le h h'):Uj h' v f:=fun h2 w2 l=>H h2 w2 (Ac.le_trans hle l)
instance : Rep (Int→Option Int):=⟨1,fun h f cs=>∃ fn first cap,cs=[.func fn first cap]∧Uj h (.func fn first cap) f,fun hle ⟨a,b,c,e,hr⟩=>⟨a,b,c,e,hr.mono hle⟩,fun⟨a,b,c,e,_⟩=>by subst e; rfl,fun⟨a,b,c,e,_⟩ v hv=>by subst e; simp at hv; subst hv; rfl⟩
structure E0 where
  buses:Ar
  down:Ar
deriving DecidableEq,Inhabited
instance : Rep E0:=Rep.via fun x=>(x.buses,x.down)
instance : VRep E0:=VRep.agg E0
instance : KRep E0:=⟨fun x=>.agg #[.bool x.buses.a0,.bool x.buses.a1,.bool x.buses.a2,.bool x.buses.a3,.bool x.buses.a4,.bool x.buses.a5,.bool x.buses.a6,.bool x.buses.a7,.bool x.down.a0,.bool x.down.a1,.bool x.down.a2,.bool x.down.a3,.bool x.down.a4,.bool x.down.a5,.bool x.down.a6,.bool x.down.a7],fun {a b} h=>by
  rcases a with⟨⟨a0,a1,a2,a3,a4,a5,a6,a7⟩,⟨a8,a9,a10,a11,a12,a13,a14,a15⟩⟩
  rcases b with⟨⟨b0,b1,b2,b3,b4,b5,b6,b7⟩,⟨b8,b9,b10,b11,b12,b13,b14,b15⟩⟩
  simp_all⟩
structure Ed where
  a0:List Int
  a1:List Int
deriving DecidableEq,Inhabited
instance : Rep Ed:=Rep.via fun x=>(x.a0,x.a1)
instance : VRep Ed:=VRep.agg Ed
def Ed.toL (x:Ed):List (List Int):=[x.a0,x.a1]
def Ed.ofL:List (List Int)→Option Ed
  | [a0,a1]=>some ⟨a0,a1⟩
  | _=>none
theorem Ed.ofL_some {l:List (List Int)} {y:Ed} (h:Ed.ofL l=some y):y.toL=l:=by
  unfold Ed.ofL at h
  split at h
  · cases h; rfl
  · cases h
def Ed.setI (x:Ed) (i:Int) (v:List Int):Option Ed:=(upd x.toL i v).bind Ed.ofL
theorem Ed.setI_some {x y:Ed} {i:Int} {v:List Int} (h:x.setI i v=some y):0≤i∧i<2∧y.toL=x.toL.set i.toNat v:=by
  obtain⟨l,hl,h2⟩:=Ap h
  obtain⟨h0,h1,rfl⟩:=Cr hl
  exact⟨h0,h1,Ed.ofL_some h2⟩
def Io (n:Nat) (y:Ag):Option Bool :=
  (bif decide (((y.room.length:Nat):Int)≤6) then
  some (decide (((y.buses.length:Nat):Int)≤12))
  else
  some false)
def Cz (n:Nat) (n_:Int) (low:Int) (high:Int):Option Bool :=
  (bif decide (low≤n_) then
  some (decide (n_≤high))
  else
  some false)
def C8 (n:Nat) (x:Int) (q0:Int→Option Bool):Option Bool :=
  ((q0 x).bind fun x6 =>
  some (!x6))
def AO:Nat→(List Int)→(Int→Option Bool)→Int→Option (Ex Int Unit)
  | 0,_,_,_=>none
  | n+1,s,f,x_v10 =>
    (bif decide (x_v10<((s.length:Nat):Int)) then
    ((B6 s x_v10).bind fun x14 =>
    ((f x14).bind fun x16 =>
    (bif x16 then
    some (Ex.ret x_v10)
    else
    AO n s f (IntKind.i64.wrap (x_v10+1)))))
    else
    some (Ex.go ()))
def Ci (n:Nat) (s:List Int) (f:Int→Option Bool):Option Int :=
  ((AO n s f 0).bind fun o_6=>Ex.bind o_6 (fun r=>some r) fun s_7 =>
  some (-1))
def BH (n:Nat) (s:List Int) (f:Int→Option Bool):Option Bool :=
  ((Ci n s f).bind fun x7 =>
  some (decide (x7≥0)))
def DW (n:Nat) (l:List Int) (right:Int→Option Bool):Option Bool :=
  ((BH n l (fun(y0:Int)=>C8 n y0 right)).bind fun x7 =>
  some (!x7))
def Ck (n:Nat) (b:BK):Option Bool :=
  ((Cz n b.lo 0 b.hi).bind fun x7 =>
  (bif x7 then
  (bif decide (b.hi≤2000) then
  ((Cz n b.turn 0 2000).bind fun x16 =>
  some x16)
  else
  some false)
  else
  some false))
def B5 (n:Nat) (x:BK) (q0:BK→Option Bool):Option Bool :=
  ((q0 x).bind fun x6 =>
  some (!x6))
def A4:Nat→(List BK)→(BK→Option Bool)→Int→Option (Ex Int Unit)
  | 0,_,_,_=>none
  | n+1,s,f,x_v10 =>
    (bif decide (x_v10<((s.length:Nat):Int)) then
    ((B6 s x_v10).bind fun x14 =>
    ((f x14).bind fun x16 =>
    (bif x16 then
    some (Ex.ret x_v10)
    else
    A4 n s f (IntKind.i64.wrap (x_v10+1)))))
    else
    some (Ex.go ()))
def Bk (n:Nat) (s:List BK) (f:BK→Option Bool):Option Int :=
  ((A4 n s f 0).bind fun o_6=>Ex.bind o_6 (fun r=>some r) fun s_7 =>
  some (-1))
def AX (n:Nat) (s:List BK) (f:BK→Option Bool):Option Bool :=
  ((Bk n s f).bind fun x7 =>
  some (decide (x7≥0)))
def Cs (n:Nat) (l:List BK) (right:BK→Option Bool):Option Bool :=
  ((AX n l (fun(y0:BK)=>B5 n y0 right)).bind fun x7 =>
  some (!x7))
def BO (n:Nat) (n_:Int):Option Bool :=
  ((Cz n n_ 0 8).bind fun x4 =>
  some x4)
def BE:Nat→Ag→Int→(List (Int×Bool))→Option (Ex Int (List (Int×Bool)))
  | 0,_,_,_=>none
  | n+1,y,x_v10,x_v11 =>
    (bif decide (x_v10<((y.buses.length:Nat):Int)) then
    ((B6 y.buses x_v10).bind fun x48 =>
    ((some (Ej x_v11 x48.turn (false:Bool))).bind fun x53 =>
    (bif x53.1 then
    some (Ex.ret 1)
    else
    BE n y (IntKind.i64.wrap (x_v10+1)) (Gj x_v11 x48.turn true))))
    else
    some (Ex.go x_v11))
def BU (n:Nat) (y:Ag):Option Int :=
  (((bif decide (((y.room.length:Nat):Int)>3) then
  some true
  else
  some (decide (((y.buses.length:Nat):Int)>8))):Option Bool).bind fun o_16 =>
  (bif o_16 then
  some 3
  else
  (((bif (((y.room.length:Nat):Int) == 0) then
  some true
  else
  ((Cz n y.broken 0 2).bind fun x26 =>
  (bif (!x26) then
  some true
  else
  ((DW n y.room (fun(y0:Int)=>BO n y0)).bind fun x33 =>
  (bif (!x33) then
  some true
  else
  ((Cs n y.buses (fun(y0:BK)=>Ck n y0)).bind fun x39 =>
  some (!x39))))))):Option Bool).bind fun o_35 =>
  (bif o_35 then
  some 1
  else
  ((BE n y 0 ([]:List (Int×Bool))).bind fun o_115=>Ex.bind o_115 (fun r=>some r) fun s_116 =>
  some 0)))))
def By (n:Nat) (s:List Int):Option (List Int) :=
  ((LH ([]:List Int) s).bind fun x7 =>
  some x7)
def BF:Nat→(List Int)→(List Int)→Int→Option (Ex Bool (List Int))
  | 0,_,_,_=>none
  | n+1,l,x_v10,x_v11 =>
    (bif decide (x_v11<((l.length:Nat):Int)) then
    ((B6 l x_v11).bind fun x21 =>
    ((((Cz n x21 0 (IntKind.i64.wrap (((x_v10.length:Nat):Int)-1))).bind fun x27 =>
    (bif (!x27) then
    some true
    else
    ((B6 x_v10 x21).bind fun x32 =>
    some (x32 == 0)))):Option Bool).bind fun o_78 =>
    (bif o_78 then
    some (Ex.ret false)
    else
    ((B6 x_v10 x21).bind fun x38 =>
    ((B6 x_v10 x21).bind fun x41 =>
    ((upd x_v10 x21 (IntKind.i64.wrap (x38-1))).bind fun u_152 =>
    BF n l u_152 (IntKind.i64.wrap (x_v11+1))))))))
    else
    some (Ex.go x_v10))
def CG (n:Nat) (y:Ag) (l:List Int):Option Bool :=
  (bif (((l.length:Nat):Int) != ((y.buses.length:Nat):Int)) then
  some false
  else
  ((By n y.room).bind fun x16 =>
  ((BF n l x16 0).bind fun o_47=>Ex.bind o_47 (fun r=>some r) fun s_48 =>
  some true)))
def Br:Nat→(List Int)→Int→Int→Option Int
  | 0,_,_,_=>none
  | n+1,x,x_v10,x_v11 =>
    (bif decide (x_v10<((x.length:Nat):Int)) then
    ((B6 x x_v10).bind fun x21 =>
    Br n x (IntKind.i64.wrap (x_v10+1)) (if x21>x_v11 then x21 else x_v11))
    else
    some x_v11)
def C9 (n:Nat) (x:List Int):Option Int :=
  (bif decide (((x.length:Nat):Int)<1) then
  none
  else
  ((B6 x 0).bind fun x10 =>
  ((Br n x 1 x10).bind fun o_25 =>
  some o_25)))
def C0 (n:Nat) (l:List Int):Option Int :=
  ((C9 n l).bind fun x4 =>
  some x4)
def D1 (n:Nat) (y:Ag) (n_:Int):Option Bool :=
  ((Cz n n_ 0 (IntKind.i64.wrap (((y.buses.length:Nat):Int)-1))).bind fun x10 =>
  some x10)
def Bs:Nat→Ag→(List Int)→Int→Int→An→Ar→Option (Ex (An×Bool) (An×Ar))
  | 0,_,_,_,_,_,_=>none
  | n+1,y,order,x_v10,x_v11,x_v12,x_v13 =>
    (bif decide (x_v10<((order.length:Nat):Int)) then
    ((B6 order x_v10).bind fun x22 =>
    ((((D1 n y x22).bind fun x26 =>
    (bif (!x26) then
    some true
    else
    ((Jh 8 x22).bind fun x30 =>
    ((B6 x_v13.toL x22).bind fun x31 =>
    (bif x31 then
    some true
    else
    ((B6 y.buses x22).bind fun x37 =>
    some (decide (x37.hi<x_v11)))))))):Option Bool).bind fun o_73 =>
    (bif o_73 then
    some (Ex.ret (x_v12,false))
    else
    ((Jh 8 x22).bind fun x45 =>
    ((Ar.setI x_v13 x22 true).bind fun u_143 =>
    ((B6 y.buses x22).bind fun x52 =>
    ((Jh 8 x22).bind fun x57 =>
    ((C0 n ([x_v11,x52.lo]:List Int)).bind fun x56 =>
    ((An.setI x_v12 x22 x_v10).bind fun us0 =>
    Bs n y order (IntKind.i64.wrap (x_v10+1)) x56 us0 u_143)))))))))
    else
    some (Ex.go (x_v12,x_v13)))
def Cf (n:Nat) (y:Ag) (order:List Int):Option (An×Bool) :=
  (bif (((order.length:Nat):Int) != ((y.buses.length:Nat):Int)) then
  some ((An.mk 0 0 0 0 0 0 0 0),false)
  else
  ((Bs n y order 0 0 (An.mk 0 0 0 0 0 0 0 0) (Ar.mk false false false false false false false false)).bind fun o_40=>Ex.bind o_40 (fun r=>some r) fun s_41 =>
  some (s_41.1,true)))
def BP:Nat→Ag→(List Int)→Int→Int→Ar→Option (Ex (Ar×Bool) Ar)
  | 0,_,_,_,_,_=>none
  | n+1,y,broken,x_v10,x_v11,x_v12 =>
    (bif decide (x_v10<((broken.length:Nat):Int)) then
    ((B6 broken x_v10).bind fun x13 =>
    ((((D1 n y x13).bind fun x17 =>
    (bif (!x17) then
    some true
    else
    some (decide (x13≤x_v11)))):Option Bool).bind fun o_55 =>
    (bif o_55 then
    some (Ex.ret (x_v12,false))
    else
    ((Jh 8 x13).bind fun x27 =>
    ((Ar.setI x_v12 x13 true).bind fun u_95 =>
    BP n y broken (IntKind.i64.wrap (x_v10+1)) x13 u_95)))))
    else
    some (Ex.go x_v12))
def DH (n:Nat) (y:Ag) (broken:List Int):Option (Ar×Bool) :=
  ((BP n y broken 0 (-1) (Ar.mk false false false false false false false false)).bind fun o_24=>Ex.bind o_24 (fun r=>some r) fun s_25 =>
  some (s_25,decide (((broken.length:Nat):Int)≤y.broken)))
def Dy (n:Nat) (y:Ag) (lanes:List Int) (order:List Int) (broken:List Int):Option (Ch×Int) :=
  ((BU n y).bind fun x16 =>
  (bif (x16 != 0) then
  some ((Ch.mk (Ag.mk ([]:List Int) ([]:List BK) 0) ([]:List Int) (An.mk 0 0 0 0 0 0 0 0) (Ar.mk false false false false false false false false)),x16)
  else
  ((Cf n y order).bind fun x24 =>
  ((DH n y broken).bind fun x30 =>
  (((bif (!x24.2) then
  some true
  else
  (bif (!x30.2) then
  some true
  else
  ((CG n y lanes).bind fun x42 =>
  some (!x42)))):Option Bool).bind fun o_85 =>
  (bif o_85 then
  some ((Ch.mk (Ag.mk ([]:List Int) ([]:List BK) 0) ([]:List Int) (An.mk 0 0 0 0 0 0 0 0) (Ar.mk false false false false false false false false)),2)
  else
  some ((Ch.mk y lanes x24.1 x30.1),0)))))))
def AV:Nat→(List (List Int))→Int→Int→Option Int
  | 0,_,_,_=>none
  | n+1,slices,x_v10,x_v11 =>
    (bif decide (x_v10<((slices.length:Nat):Int)) then
    ((B6 slices x_v10).bind fun x13 =>
    (bif decide ((IntKind.i64.wrap (x_v11+((x13.length:Nat):Int)))<0) then
    none
    else
    AV n slices (IntKind.i64.wrap (x_v10+1)) (IntKind.i64.wrap (x_v11+((x13.length:Nat):Int)))))
    else
    some x_v11)
def AW:Nat→(List (List Int))→(List Int)→Int→Option (List Int)
  | 0,_,_,_=>none
  | n+1,slices,x_v20,x_v21 =>
    (bif decide (x_v21<((slices.length:Nat):Int)) then
    ((B6 slices x_v21).bind fun x29 =>
    ((LH x_v20 x29).bind fun x33 =>
    AW n slices x33 (IntKind.i64.wrap (x_v21+1))))
    else
    some x_v20)
def BC (n:Nat) (slices:List (List Int)):Option (List Int) :=
  ((AV n slices 0 0).bind fun o_8 =>
  ((R8 o_8).bind fun x24 =>
  ((AW n slices ([]:List Int) 0).bind fun o_75 =>
  some o_75)))
def A1:Nat→Int→(Int→Int→Option Int)→(List Int)→Int→Option (List Int)
  | 0,_,_,_,_=>none
  | n+1,a,cmp,x_v20,x_v21 =>
    (((bif decide (x_v21>a) then
    ((B6 x_v20 x_v21).bind fun x25 =>
    ((B6 x_v20 (IntKind.i64.wrap (x_v21-1))).bind fun x30 =>
    ((cmp x25 x30).bind fun x32 =>
    some (decide (x32<0)))))
    else
    some false):Option Bool).bind fun o_48 =>
    (bif o_48 then
    ((B6 x_v20 (IntKind.i64.wrap (x_v21-1))).bind fun x45 =>
    ((B6 x_v20 x_v21).bind fun x49 =>
    ((B6 x_v20 x_v21).bind fun x51 =>
    ((upd x_v20 x_v21 x45).bind fun u_155 =>
    ((B6 u_155 (IntKind.i64.wrap (x_v21-1))).bind fun x52 =>
    ((upd u_155 (IntKind.i64.wrap (x_v21-1)) x49).bind fun u_178 =>
    A1 n a cmp u_178 (IntKind.i64.wrap (x_v21-1))))))))
    else
    some x_v20))
def A2:Nat→Int→Int→(Int→Int→Option Int)→(List Int)→Int→Option (List Int)
  | 0,_,_,_,_,_=>none
  | n+1,a,b,cmp,x_v10,x_v11 =>
    (bif decide (x_v11<b) then
    ((A1 n a cmp x_v10 x_v11).bind fun o_35 =>
    A2 n a b cmp o_35 (IntKind.i64.wrap (x_v11+1)))
    else
    some x_v10)
def AZ (n:Nat) (data:List Int) (a:Int) (b:Int) (cmp:Int→Int→Option Int):Option (List Int) :=
  ((A2 n a b cmp data (IntKind.i64.wrap (a+1))).bind fun o_10 =>
  some o_10)
def EX (n:Nat) (x:IK .u64):Option Int:=if 0≤x.n∧x.n≤18446744073709551615 then some (Lib.bitLen x.n.toNat:Nat) else none
def Bm:Nat→(List Int)→Int→Int→Int→(Int→Int→Option Int)→Option (Ex (List Int) Unit)
  | 0,_,_,_,_,_=>none
  | n+1,data,a,b,limit,cmp =>
    (bif decide ((IntKind.i64.wrap (b-a))≤12) then
    ((AZ n data a b cmp).bind fun x30 =>
    some (Ex.ret x30))
    else
    (bif (limit == 0) then
    none
    else
    (bif (!true) then
    none
    else
    none)))
def Bi:Nat→(List Int)→Int→Int→Int→(Int→Int→Option Int)→Option (List Int)
  | 0,_,_,_,_,_=>none
  | n+1,data,a,b,limit,cmp =>
    ((Bm n data a b limit cmp ).bind fun o_6=>Ex.bind o_6 (fun r=>some r) fun s_7 =>
    some data)
def AF (n:Nat) (x:List Int) (cmp:Int→Int→Option Int):Option (List Int) :=
  ((EX n (IK.mk (IntKind.u64.wrap ((x.length:Nat):Int)))).bind fun x11 =>
  ((Bi n x 0 ((x.length:Nat):Int) x11 cmp).bind fun x13 =>
  some x13))
def B9 (n:Nat) (a:Int) (b:Int) (q0:Ag):Option Int :=
  ((B6 q0.buses a).bind fun x9 =>
  ((B6 q0.buses b).bind fun x15 =>
  some (IntKind.i64.wrap (x9.turn-x15.turn))))
def AR {σ:Type}:Nat→(σ→Int→Option (σ×Bool))→(List Int)→Int→σ→Option (Ex σ σ)
  | 0,_,_,_,_=>none
  | n+1,yield_,q0,x_v10,x_v11 =>
    (bif decide (x_v10<((q0.length:Nat):Int)) then
    ((B6 q0 x_v10).bind fun x9 =>
    ((yield_ x_v11 x9).bind fun x13 =>
    (bif (!x13.2) then
    some (Ex.ret x13.1)
    else
    AR n yield_ q0 (IntKind.i64.wrap (x_v10+1)) x13.1)))
    else
    some (Ex.go x_v11))
def Bw {σ:Type} (n:Nat) (yield_:σ→Int→Option (σ×Bool)) (s:σ) (q0:List Int):Option σ :=
  ((AR n yield_ q0 0 s).bind fun o_13=>Ex.bind o_13 (fun r=>some r) fun s_14 =>
  some s_14)
def D2 (n:Nat) (s:List Int):Option ((List Int)) :=
  some (s)
def Bz:Nat→Ag→Ar→(List Int)→Int→Option (List Int)
  | 0,_,_,_,_=>none
  | n+1,y,broken,x_v10,x_v11 =>
    (bif decide (x_v11<((y.buses.length:Nat):Int)) then
    ((Jh 8 x_v11).bind fun x14 =>
    ((B6 broken.toL x_v11).bind fun x15 =>
    (bif (!x15) then
    ((LH x_v10 ([x_v11]:List Int)).bind fun x20 =>
    Bz n y broken x20 (IntKind.i64.wrap (x_v11+1)))
    else
    Bz n y broken x_v10 (IntKind.i64.wrap (x_v11+1)))))
    else
    some x_v10)
def CH (n:Nat) (y:Ag) (broken:Ar):Option ((List Int)) :=
  ((Bz n y broken ([]:List Int) 0).bind fun o_34 =>
  ((AF n o_34 (fun(y0:Int)(y1:Int)=>B9 n y0 y1 y)).bind fun x24 =>
  ((D2 n x24).bind fun x26 =>
  some (x26))))
def Ct (n:Nat) (n_:Ch) (b:Int) (c:Int):Option Bool :=
  ((B6 n_.lane b).bind fun x10 =>
  ((B6 n_.lane c).bind fun x15 =>
  (bif (x10 == x15) then
  ((Jh 8 b).bind fun x21 =>
  ((B6 n_.tm.toL b).bind fun x22 =>
  ((Jh 8 c).bind fun x25 =>
  ((B6 n_.tm.toL c).bind fun x26 =>
  some (decide (x22<x26))))))
  else
  some false)))
def AP (n:Nat) (c:Int) (d:Int) (q0:Ch):Option Int :=
  ((Jh 8 c).bind fun x8 =>
  ((B6 q0.tm.toL c).bind fun x9 =>
  ((Jh 8 d).bind fun x12 =>
  ((B6 q0.tm.toL d).bind fun x13 =>
  some (IntKind.i64.wrap (x9-x13))))))
def AH:Nat→Ch→Int→(List Int)→Int→Ar→Option ((List Int)×Ar)
  | 0,_,_,_,_,_=>none
  | n+1,n_,x15,x_v10,x_v11,x_v12 =>
    (bif decide (x_v11<((n_.yard.buses.length:Nat):Int)) then
    ((((Jh 8 x_v11).bind fun x24 =>
    ((B6 x_v12.toL x_v11).bind fun x25 =>
    (bif (!x25) then
    (((fun(y0:Int)(y1:Int)=>Ct n n_ y0 y1) x_v11 x15).bind fun x31 =>
    some x31)
    else
    some false))):Option Bool).bind fun o_122 =>
    (bif o_122 then
    ((LH x_v10 ([x_v11]:List Int)).bind fun x36 =>
    ((Jh 8 x_v11).bind fun x38 =>
    ((Ar.setI x_v12 x_v11 true).bind fun u_186 =>
    AH n n_ x15 x36 (IntKind.i64.wrap (x_v11+1)) u_186)))
    else
    AH n n_ x15 x_v10 (IntKind.i64.wrap (x_v11+1)) x_v12))
    else
    some (x_v10,x_v12))
def Cg (n:Nat) (n_:Ch):Option (List (List Int)) :=
  ((CH n n_.yard n_.broken).bind fun x14 =>
  ((Bw n (fun(s:(List (List Int))×Ar)(x15:Int)=>((((AH n n_ x15 ([]:List Int) 0 s.2).bind fun o_104 =>
  ((AF n o_104.1 (fun(y0:Int)(y1:Int)=>AP n y0 y1 n_)).bind fun x42 =>
  ((Jh 8 x15).bind fun x44 =>
  ((Ar.setI o_104.2 x15 true).bind fun u_233 =>
  ((LH s.1 ([x42]:List (List Int))).bind fun x48 =>
  some (x48,u_233)))))):Option ((List (List Int))×Ar)).bind fun s1=>some (s1,true))) (([]:List (List Int)),(Ar.mk false false false false false false false false)) x14).bind fun o_65 =>
  some o_65.1))
def C1 (n:Nat) (y:Ag) (lanes:List Int) (order:List Int) (broken:List Int):Option ((List Int)×Int) :=
  ((Dy n y lanes order broken).bind fun x18 =>
  (bif (x18.2 != 0) then
  some (([]:List Int),x18.2)
  else
  ((Cg n x18.1).bind fun x25 =>
  ((BC n x25).bind fun x26 =>
  ((Nh x26).bind fun u_80 =>
  some (u_80,0))))))
def Bf:Nat→Ag→(List Int)→Ar→(List Av)→Int→Option (List Av)
  | 0,_,_,_,_,_=>none
  | n+1,y,lanes,broken,x_v10,x_v11 =>
    (bif decide (x_v11<((y.buses.length:Nat):Int)) then
    ((Jh 8 x_v11).bind fun x50 =>
    ((B6 broken.toL x_v11).bind fun x51 =>
    (bif x51 then
    ((B6 lanes x_v11).bind fun x55 =>
    ((B6 x_v10 x55).bind fun x57 =>
    ((LH x57.buses ([x_v11]:List Int)).bind fun x65 =>
    ((upd x_v10 x55 ({ x57 with buses:=x65 }:Av)).bind fun u_307 =>
    Bf n y lanes broken u_307 (IntKind.i64.wrap (x_v11+1))))))
    else
    Bf n y lanes broken x_v10 (IntKind.i64.wrap (x_v11+1)))))
    else
    some x_v10)
def Cu (n:Nat) (y:Ag) (lanes:List Int) (broken:Ar):Option (List Av) :=
  ((mk ((y.room.length:Nat):Int) ((Av.mk ([]:List Int) 0):Av)).bind fun x15 =>
  ((CH n y broken).bind fun x18 =>
  ((Bw n (fun(s:List Av)(x19:Int)=>((((B6 lanes x19).bind fun x23 =>
  ((B6 s x23).bind fun x25 =>
  ((LH x25.buses ([x19]:List Int)).bind fun x33 =>
  ((upd s x23 ({ x25 with buses:=x33 }:Av)).bind fun u_144 =>
  ((upd u_144 x23 ({ ({ x25 with buses:=x33 }:Av) with down:=IntKind.i64.wrap (x25.down+1) }:Av)).bind fun u_169 =>
  some u_169))))):Option (List Av)).bind fun s1=>some (s1,true))) x15 x18).bind fun o_65 =>
  ((Bf n y lanes broken o_65 0).bind fun o_223 =>
  some o_223))))
mutual
def Ba:Nat→Ar→Int→Ag→(List Ar)→Int→Option (List Ar)
  | 0,_,_,_,_,_=>none
  | n+1,s_,more,y,x_v10,x_v11 =>
    (((bif decide (x_v11<((y.buses.length:Nat):Int)) then
    some (decide (more>0))
    else
    some false):Option Bool).bind fun o_61 =>
    (bif o_61 then
    ((Jh 8 x_v11).bind fun x29 =>
    ((Ar.setI s_ x_v11 true).bind fun u_95 =>
    ((lane_Yard_breaks_1 n u_95 (IntKind.i64.wrap (x_v11+1)) (IntKind.i64.wrap (more-1)) x_v10 y).bind fun x36 =>
    Ba n s_ more y x36 (IntKind.i64.wrap (x_v11+1)))))
    else
    some x_v10))
def lane_Yard_breaks_1:Nat→Ar→Int→Int→(List Ar)→Ag→Option (List Ar)
  | 0,_,_,_,_,_=>none
  | n+1,s_,from_,more,out,y =>
    ((LH out ([s_]:List Ar)).bind fun x14 =>
    ((Ba n s_ more y x14 from_).bind fun o_48 =>
    some o_48))
end
def C7 (n:Nat) (y:Ag):Option (List Ar) :=
  ((lane_Yard_breaks_1 n (Ar.mk false false false false false false false false) 0 y.broken ([]:List Ar) y).bind fun x9 =>
  some x9)
def Bn (n:Nat) (b:BK):Option Int :=
  some b.lo
def Bd (n:Nat) (b:BK):Option Int :=
  some b.hi
def IU (n:Nat)  : Option (List BN) :=
  some ([(BN.mk (fun(y0:BK)=>Bn n y0)),(BN.mk (fun(y0:BK)=>Bd n y0))]:List BN)
mutual
def AD:Nat→Bv→Av→Ag→Int→(List BN)→Int→An→Int→(List (Bv×AN))→Option (An×Int×(List (Bv×AN)))
  | 0,_,_,_,_,_,_,_,_,_=>none
  | n+1,s_,c,y,x35,x37,x_v10,x_v11,x_v12,x_v13 =>
    (bif decide (x_v10<((x37.length:Nat):Int)) then
    ((B6 x37 x_v10).bind fun x42 =>
    ((B6 y.buses x35).bind fun x49 =>
    ((x42.tm x49).bind fun x51 =>
    (((bif decide (s_.behind<c.down) then
    ((C0 n ([s_.last,x51]:List Int)).bind fun x67 =>
    some x67)
    else
    some s_.last):Option Int).bind fun o_184 =>
    ((lane_Yard_worst_1 n (Bv.mk (IntKind.i64.wrap (s_.behind+1)) o_184) c x_v13 y).bind fun x71 =>
    (((bif decide (x51≤s_.last) then
    some (IntKind.i64.wrap (x71.1.many+1))
    else
    some x71.1.many):Option Int).bind fun o_249 =>
    (((bif (x_v10 == 0) then
    some true
    else
    some (decide (o_249>x_v12))):Option Bool).bind fun o_263 =>
    (bif o_263 then
    ((Jh 8 x35).bind fun x93 =>
    ((An.setI x71.1.tm x35 x51).bind fun u_292 =>
    AD n s_ c y x35 x37 (IntKind.i64.wrap (x_v10+1)) u_292 o_249 x71.2))
    else
    AD n s_ c y x35 x37 (IntKind.i64.wrap (x_v10+1)) x_v11 x_v12 x71.2))))))))
    else
    some (x_v11,x_v12,x_v13))
def lane_Yard_worst_1:Nat→Bv→Av→(List (Bv×AN))→Ag→Option (AN×(List (Bv×AN)))
  | 0,_,_,_,_=>none
  | n+1,s_,c,known,y =>
    (bif (s_.behind == ((c.buses.length:Nat):Int)) then
    some ((AN.mk 0 (An.mk 0 0 0 0 0 0 0 0)),known)
    else
    ((some (Ej known s_ ((AN.mk 0 (An.mk 0 0 0 0 0 0 0 0)):AN))).bind fun x26 =>
    (bif x26.2 then
    some (x26.1,known)
    else
    ((B6 c.buses s_.behind).bind fun x35 =>
    ((IU n ).bind fun x37 =>
    ((AD n s_ c y x35 x37 0 (An.mk 0 0 0 0 0 0 0 0) 0 known).bind fun o_98 =>
    some ((AN.mk o_98.2.1 o_98.1),(Gj o_98.2.2 s_ (AN.mk o_98.2.1 o_98.1)))))))))
end
def BV (n:Nat) (y:Ag) (c:Av):Option AN :=
  ((lane_Yard_worst_1 n (Bv.mk 0 (-1)) c ([]:List (Bv×AN)) y).bind fun x11 =>
  some x11.1)
def B0:Nat→Av→AN→Int→An→Option An
  | 0,_,_,_,_=>none
  | n+1,x30,x34,x_v30,x_v31 =>
    (bif decide (x_v30<((x30.buses.length:Nat):Int)) then
    ((B6 x30.buses x_v30).bind fun x44 =>
    ((Jh 8 x44).bind fun x49 =>
    ((B6 x34.tm.toL x44).bind fun x50 =>
    ((Jh 8 x44).bind fun x51 =>
    ((An.setI x_v31 x44 x50).bind fun u_213 =>
    B0 n x30 x34 (IntKind.i64.wrap (x_v30+1)) u_213)))))
    else
    some x_v31)
def B1:Nat→Ag→(List Av)→Int→Int→An→Option (Int×An)
  | 0,_,_,_,_,_=>none
  | n+1,y,x26,x_v20,x_v21,x_v22 =>
    (bif decide (x_v20<((x26.length:Nat):Int)) then
    ((B6 x26 x_v20).bind fun x30 =>
    ((BV n y x30).bind fun x34 =>
    ((B0 n x30 x34 0 x_v22).bind fun o_170 =>
    B1 n y x26 (IntKind.i64.wrap (x_v20+1)) (IntKind.i64.wrap (x_v21+x34.many)) o_170)))
    else
    some (x_v21,x_v22))
def Bg:Nat→Ag→(List Int)→(List Ar)→Int→Int→An→Ar→Option (Int×An×Ar)
  | 0,_,_,_,_,_,_,_=>none
  | n+1,y,lanes,x17,x_v10,x_v11,x_v12,x_v13 =>
    (bif decide (x_v10<((x17.length:Nat):Int)) then
    ((B6 x17 x_v10).bind fun x21 =>
    ((Cu n y lanes x21).bind fun x26 =>
    ((B1 n y x26 0 0 (An.mk 0 0 0 0 0 0 0 0)).bind fun o_104 =>
    (bif decide (o_104.1>x_v11) then
    Bg n y lanes x17 (IntKind.i64.wrap (x_v10+1)) o_104.1 o_104.2 x21
    else
    Bg n y lanes x17 (IntKind.i64.wrap (x_v10+1)) x_v11 x_v12 x_v13))))
    else
    some (x_v11,x_v12,x_v13))
def CL (n:Nat) (y:Ag) (lanes:List Int):Option (An×Ar×Int) :=
  ((C7 n y).bind fun x17 =>
  ((Bg n y lanes x17 0 (-1) (An.mk 0 0 0 0 0 0 0 0) (Ar.mk false false false false false false false false)).bind fun o_42 =>
  some (o_42.2.1,o_42.2.2,o_42.1)))
def BD (n:Nat) (b:Int) (q0:Ar) (q1:Ag):Option Int :=
  ((Jh 8 b).bind fun x6 =>
  ((B6 q0.toL b).bind fun x7 =>
  (bif x7 then
  some 2001
  else
  ((B6 q1.buses b).bind fun x11 =>
  some x11.turn))))
def BL:Nat→(List Int)→Int→Option (Ex Int Unit)
  | 0,_,_=>none
  | n+1,vals,x_v10 =>
    (bif decide (x_v10<((vals.length:Nat):Int)) then
    ((B6 vals x_v10).bind fun x10 =>
    (bif (x10 != 0) then
    some (Ex.ret x10)
    else
    BL n vals (IntKind.i64.wrap (x_v10+1))))
    else
    some (Ex.go ()))
def FP (n:Nat) (vals:List Int):Option Int :=
  ((BL n vals 0).bind fun o_8=>Ex.bind o_8 (fun r=>some r) fun s_9 =>
  some 0)
def Dh (n:Nat) (a:Int) (b:Int) (q0:An) (q1:Int→Option Int):Option Int :=
  ((Jh 8 a).bind fun x8 =>
  ((B6 q0.toL a).bind fun x9 =>
  ((Jh 8 b).bind fun x11 =>
  ((B6 q0.toL b).bind fun x12 =>
  ((q1 b).bind fun x16 =>
  ((q1 a).bind fun x19 =>
  ((FP n ([IntKind.i64.wrap (x9-x12),IntKind.i64.wrap (x16-x19),IntKind.i64.wrap (a-b)]:List Int)).bind fun x25 =>
  some x25)))))))
def C2:Nat→Ag→(An×Ar×Int)→(List Int)→(List Int)→Int→Option ((List Int)×(List Int))
  | 0,_,_,_,_,_=>none
  | n+1,y,x25,x_v10,x_v11,x_v12 =>
    (bif decide (x_v12<((y.buses.length:Nat):Int)) then
    ((LH x_v10 ([x_v12]:List Int)).bind fun x38 =>
    ((Jh 8 x_v12).bind fun x40 =>
    ((B6 x25.2.1.toL x_v12).bind fun x41 =>
    (bif x41 then
    ((LH x_v11 ([x_v12]:List Int)).bind fun x45 =>
    C2 n y x25 x38 x45 (IntKind.i64.wrap (x_v12+1)))
    else
    C2 n y x25 x38 x_v11 (IntKind.i64.wrap (x_v12+1))))))
    else
    some (x_v10,x_v11))
def Di (n:Nat) (y:Ag) (lanes:List Int):Option ((List Int)×(List Int)×Int×Int) :=
  ((BU n y).bind fun x14 =>
  (bif (x14 != 0) then
  some (([]:List Int),([]:List Int),0,x14)
  else
  ((CG n y lanes).bind fun x20 =>
  (bif (!x20) then
  some (([]:List Int),([]:List Int),0,2)
  else
  ((CL n y lanes).bind fun x25 =>
  ((C2 n y x25 ([]:List Int) ([]:List Int) 0).bind fun o_99 =>
  ((AF n o_99.1 (fun(y0:Int)(y1:Int)=>Dh n y0 y1 x25.1 (fun(y0:Int)=>BD n y0 x25.2.1 y))).bind fun x50 =>
  some (x50,o_99.2,x25.2.2,0))))))))
def Cl:Nat→Av→Int→Ar→Ar→Option (Ar×Ar)
  | 0,_,_,_,_=>none
  | n+1,x31,x_v30,x_v31,x_v32 =>
    (bif decide (x_v30<((x31.buses.length:Nat):Int)) then
    ((B6 x31.buses x_v30).bind fun x39 =>
    ((Jh 8 x39).bind fun x48 =>
    ((Ar.setI x_v31 x39 true).bind fun us0 =>
    ((Jh 8 x39).bind fun x50 =>
    ((Ar.setI x_v32 x39 (decide (x_v30≥x31.down))).bind fun us1 =>
    Cl n x31 (IntKind.i64.wrap (x_v30+1)) us0 us1)))))
    else
    some (x_v31,x_v32))
def Cm:Nat→Int→Ag→(List Av)→Int→Int→(List (E0×Int))→Option (Int×(List (E0×Int)))
  | 0,_,_,_,_,_,_=>none
  | n+1,many,y,x27,x_v20,x_v21,x_v22 =>
    (bif decide (x_v20<((x27.length:Nat):Int)) then
    ((B6 x27 x_v20).bind fun x31 =>
    ((Cl n x31 0 (Ar.mk false false false false false false false false) (Ar.mk false false false false false false false false)).bind fun o_134 =>
    ((some (Ej x_v22 (E0.mk o_134.1 o_134.2) (0:Int))).bind fun x55 =>
    (bif (!x55.2) then
    ((BV n y x31).bind fun x64 =>
    ((some (Ej (Gj x_v22 (E0.mk o_134.1 o_134.2) x64.many) (E0.mk o_134.1 o_134.2) (0:Int))).bind fun x69 =>
    Cm n many y x27 (IntKind.i64.wrap (x_v20+1)) (IntKind.i64.wrap (x_v21+x69.1)) (Gj x_v22 (E0.mk o_134.1 o_134.2) x64.many)))
    else
    ((some (Ej x_v22 (E0.mk o_134.1 o_134.2) (0:Int))).bind fun x69 =>
    Cm n many y x27 (IntKind.i64.wrap (x_v20+1)) (IntKind.i64.wrap (x_v21+x69.1)) x_v22)))))
    else
    some (x_v21,x_v22))
def Cn:Nat→(List Int)→Bool→Int→(List Ar)→Ag→Int→Int→(List (E0×Int))→Option (Int×(List (E0×Int)))
  | 0,_,_,_,_,_,_,_,_=>none
  | n+1,l,found,many,breaks,y,x_v10,x_v11,x_v12 =>
    (bif decide (x_v10<((breaks.length:Nat):Int)) then
    ((B6 breaks x_v10).bind fun x22 =>
    ((Cu n y l x22).bind fun x27 =>
    ((Cm n many y x27 0 0 x_v12).bind fun o_84 =>
    ((C0 n ([x_v11,o_84.1]:List Int)).bind fun x75 =>
    (bif found then
    (bif decide (x75≥many) then
    some (x75,o_84.2)
    else
    Cn n l found many breaks y (IntKind.i64.wrap (x_v10+1)) x75 o_84.2)
    else
    Cn n l found many breaks y (IntKind.i64.wrap (x_v10+1)) x75 o_84.2)))))
    else
    some (x_v11,x_v12))
def Fc (n:Nat) (l:List Int) (found:Bool) (many:Int) (breaks:List Ar) (y:Ag) (known:List (E0×Int)):Option (Int×(List (E0×Int))) :=
  ((Cn n l found many breaks y 0 0 known).bind fun o_21 =>
  some (o_21.1,o_21.2))
mutual
def Co:Nat→(List Int)→(List Int)→Ag→(List Ar)→(List Int)→Int→Bool→Int→(List Int)→(List (E0×Int))→Option ((List Int)×Bool×Int×(List Int)×(List (E0×Int)))
  | 0,_,_,_,_,_,_,_,_,_,_=>none
  | n+1,l,room,y,breaks,x_v10,x_v11,x_v12,x_v13,x_v14,x_v15 =>
    (bif decide (x_v11<((room.length:Nat):Int)) then
    ((B6 x_v10 x_v11).bind fun x37 =>
    (bif decide (x37>0) then
    ((B6 x_v10 x_v11).bind fun x42 =>
    ((B6 x_v10 x_v11).bind fun x45 =>
    ((upd x_v10 x_v11 (IntKind.i64.wrap (x42-1))).bind fun u_235 =>
    ((LH l ([x_v11]:List Int)).bind fun x50 =>
    ((lane_Best_2 n x50 x_v12 x_v13 x_v14 u_235 y breaks x_v15).bind fun x51 =>
    ((B6 x51.2.2.2.1 x_v11).bind fun x54 =>
    ((B6 x51.2.2.2.1 x_v11).bind fun x57 =>
    ((upd x51.2.2.2.1 x_v11 (IntKind.i64.wrap (x54+1))).bind fun u_331 =>
    Co n l room y breaks u_331 (IntKind.i64.wrap (x_v11+1)) x51.1 x51.2.1 x51.2.2.1 x51.2.2.2.2))))))))
    else
    Co n l room y breaks x_v10 (IntKind.i64.wrap (x_v11+1)) x_v12 x_v13 x_v14 x_v15))
    else
    some (x_v10,x_v12,x_v13,x_v14,x_v15))
def lane_Best_2:Nat→(List Int)→Bool→Int→(List Int)→(List Int)→Ag→(List Ar)→(List (E0×Int))→Option (Bool×Int×(List Int)×(List Int)×(List (E0×Int)))
  | 0,_,_,_,_,_,_,_,_=>none
  | n+1,l,found,many,best,room,y,breaks,known =>
    (bif (((l.length:Nat):Int) == ((y.buses.length:Nat):Int)) then
    ((Fc n l found many breaks y known).bind fun x19 =>
    (((bif (!found) then
    some true
    else
    some (decide (x19.1<many))):Option Bool).bind fun o_63 =>
    (((bif o_63 then
    ((By n l).bind fun x28 =>
    some (true,x19.1,x28))
    else
    some (found,many,best)):Option (Bool×Int×(List Int))).bind fun o_79 =>
    some (o_79.1,o_79.2.1,o_79.2.2,room,x19.2))))
    else
    ((Co n l room y breaks room 0 found many best known).bind fun o_166 =>
    some (o_166.2.1,o_166.2.2.1,o_166.2.2.2.1,o_166.1,o_166.2.2.2.2)))
end
def EQ (n:Nat) (y:Ag):Option ((List Int)×Int×Int) :=
  ((BU n y).bind fun x14 =>
  (bif (x14 != 0) then
  some (([]:List Int),0,x14)
  else
  ((C7 n y).bind fun x19 =>
  ((By n y.room).bind fun x22 =>
  ((lane_Best_2 n ([]:List Int) false 0 ([]:List Int) x22 y x19 ([]:List (E0×Int))).bind fun x27 =>
  (bif (!x27.1) then
  some (([]:List Int),0,9)
  else
  some (x27.2.2.1,x27.2.1,0)))))))
def GJ (n:Nat)  : Option Ag :=
  some (Ag.mk ([2,2]:List Int) ([BK.mk 100 120 40,BK.mk 110 130 20,BK.mk 125 140 30,BK.mk 150 160 10]:List BK) 0)
def Fd:Nat→(List Int)→(List Int)→Int→Option (Ex Bool Unit)
  | 0,_,_,_=>none
  | n+1,a,b,x_v10 =>
    (bif decide (x_v10<((a.length:Nat):Int)) then
    ((B6 a x_v10).bind fun x19 =>
    ((B6 b x_v10).bind fun x23 =>
    (bif (x19 != x23) then
    some (Ex.ret false)
    else
    Fd n a b (IntKind.i64.wrap (x_v10+1)))))
    else
    some (Ex.go ()))
def Kk (n:Nat) (a:List Int) (b:List Int):Option Bool :=
  (bif (((a.length:Nat):Int) != ((b.length:Nat):Int)) then
  some false
  else
  ((Fd n a b 0).bind fun o_11=>Ex.bind o_11 (fun r=>some r) fun s_12 =>
  some true))
def CX (n:Nat)  : Option Bool :=
  ((GJ n ).bind fun x11 =>
  ((C1 n x11 ([0,0,1,1]:List Int) ([0,1,2,3]:List Int) ([]:List Int)).bind fun x14 =>
  ((GJ n ).bind fun x18 =>
  ((Di n x18 ([0,1,1,0]:List Int)).bind fun x20 =>
  ((GJ n ).bind fun x26 =>
  ((EQ n x26).bind fun x27 =>
  (bif (x14.2 == 0) then
  ((Kk n x14.1 ([0,2]:List Int)).bind fun x36 =>
  (bif x36 then
  (bif (x20.2.2.2 == 0) then
  (bif (x20.2.2.1 == 2) then
  (bif (x27.2.2 == 0) then
  (bif (x27.2.1 == 2) then
  ((Kk n x27.1 ([0,0,1,1]:List Int)).bind fun x57 =>
  some x57)
  else
  some false)
  else
  some false)
  else
  some false)
  else
  some false)
  else
  some false))
  else
  some false)))))))
def Cp (n:Nat) (l:List Int):Option (List Int) :=
  ((LH ([]:List Int) l).bind fun x4 =>
  some x4)
def DI:Nat→Ag→(List BK)→Int→Option (List BK)
  | 0,_,_,_=>none
  | n+1,y,x_v10,x_v11 =>
    (bif decide (x_v11<((y.buses.length:Nat):Int)) then
    ((B6 y.buses x_v11).bind fun x22 =>
    ((LH x_v10 ([x22]:List BK)).bind fun x34 =>
    DI n y x34 (IntKind.i64.wrap (x_v11+1))))
    else
    some x_v10)
def CM (n:Nat) (y:Ag):Option Ag :=
  ((Cp n y.room).bind fun x8 =>
  ((DI n y ([]:List BK) 0).bind fun o_50 =>
  some (Ag.mk x8 o_50 y.broken)))
def G0 (n:Nat) (n_:Int) (low:Int) (high:Int):Option Bool :=
  (bif decide (n_≥low) then
  some (decide (n_≤high))
  else
  some false)
def Dj:Nat→Ag→Int→Option (Ex Int Unit)
  | 0,_,_=>none
  | n+1,y,x_v10 =>
    (bif decide (x_v10<((y.room.length:Nat):Int)) then
    ((B6 y.room x_v10).bind fun x37 =>
    ((G0 n x37 0 8).bind fun x39 =>
    (bif (!x39) then
    some (Ex.ret 1)
    else
    Dj n y (IntKind.i64.wrap (x_v10+1)))))
    else
    some (Ex.go ()))
def Dk:Nat→Ag→Int→BK→Int→Option (Ex Int Unit)
  | 0,_,_,_,_=>none
  | n+1,y,x_v20,x51,x_v30 =>
    (bif decide (x_v30<x_v20) then
    ((B6 y.buses x_v30).bind fun x78 =>
    (bif (x78.turn == x51.turn) then
    some (Ex.ret 1)
    else
    Dk n y x_v20 x51 (IntKind.i64.wrap (x_v30+1))))
    else
    some (Ex.go ()))
def Dm:Nat→Ag→Int→Option (Ex Int Unit)
  | 0,_,_=>none
  | n+1,y,x_v20 =>
    (bif decide (x_v20<((y.buses.length:Nat):Int)) then
    ((B6 y.buses x_v20).bind fun x51 =>
    ((((G0 n x51.lo 0 x51.hi).bind fun x57 =>
    (bif (!x57) then
    some true
    else
    (bif decide (x51.hi>2000) then
    some true
    else
    ((G0 n x51.turn 0 2000).bind fun x67 =>
    some (!x67))))):Option Bool).bind fun o_162 =>
    (bif o_162 then
    some (Ex.ret 1)
    else
    ((Dk n y x_v20 x51 0).bind fun o_211=>Ex.bind o_211 (fun r=>some (Ex.ret r)) fun s_212 =>
    Dm n y (IntKind.i64.wrap (x_v20+1))))))
    else
    some (Ex.go ()))
def GK (n:Nat) (y:Ag):Option Int :=
  (((bif decide (((y.room.length:Nat):Int)>3) then
  some true
  else
  some (decide (((y.buses.length:Nat):Int)>8))):Option Bool).bind fun o_14 =>
  (bif o_14 then
  some 3
  else
  (((bif decide (((y.room.length:Nat):Int)<1) then
  some true
  else
  ((G0 n y.broken 0 2).bind fun x24 =>
  some (!x24))):Option Bool).bind fun o_33 =>
  (bif o_33 then
  some 1
  else
  ((Dj n y 0).bind fun o_65=>Ex.bind o_65 (fun r=>some r) fun s_66 =>
  ((Dm n y 0).bind fun o_120=>Ex.bind o_120 (fun r=>some r) fun s_121 =>
  some 0))))))
def FF (n:Nat) (y:Ag):Option Bool :=
  ((Io n y).bind fun x4 =>
  (bif x4 then
  ((GK n y).bind fun x7 =>
  some (x7 == 0))
  else
  some false))
def BW (n:Nat) (y:Ag) (order:List Int):Option Bool :=
  ((BU n y).bind fun x8 =>
  (bif (x8 != 0) then
  some false
  else
  ((Cf n y order).bind fun x13 =>
  some x13.2)))
def CA:Nat→Ag→(List Int)→(List Int)→Int→Option (Ex Bool (List Int))
  | 0,_,_,_,_=>none
  | n+1,y,lanes,x_v10,x_v11 =>
    (bif decide (x_v11<((lanes.length:Nat):Int)) then
    ((B6 lanes x_v11).bind fun x25 =>
    ((G0 n x25 0 (IntKind.i64.wrap (((y.room.length:Nat):Int)-1))).bind fun x31 =>
    (bif (!x31) then
    some (Ex.ret false)
    else
    ((B6 lanes x_v11).bind fun x36 =>
    ((B6 x_v10 x36).bind fun x38 =>
    ((B6 x_v10 x36).bind fun x41 =>
    ((upd x_v10 x36 (IntKind.i64.wrap (x38+1))).bind fun u_134 =>
    ((B6 lanes x_v11).bind fun x45 =>
    ((B6 u_134 x45).bind fun x47 =>
    ((B6 lanes x_v11).bind fun x53 =>
    ((B6 y.room x53).bind fun x55 =>
    (bif decide (x47>x55) then
    some (Ex.ret false)
    else
    CA n y lanes u_134 (IntKind.i64.wrap (x_v11+1))))))))))))))
    else
    some (Ex.go x_v10))
def Fe (n:Nat) (y:Ag) (lanes:List Int):Option Bool :=
  (bif (((lanes.length:Nat):Int) != ((y.buses.length:Nat):Int)) then
  some false
  else
  ((mk ((y.room.length:Nat):Int) (0:Int)).bind fun x16 =>
  ((CA n y lanes x16 0).bind fun o_44=>Ex.bind o_44 (fun r=>some r) fun s_45 =>
  some true)))
def BX:Nat→Ag→(List Int)→Int→Option (Ex Bool Unit)
  | 0,_,_,_=>none
  | n+1,y,broken,x_v10 =>
    (bif decide (x_v10<((broken.length:Nat):Int)) then
    ((B6 broken x_v10).bind fun x14 =>
    ((G0 n x14 0 (IntKind.i64.wrap (((y.buses.length:Nat):Int)-1))).bind fun x20 =>
    (bif (!x20) then
    some (Ex.ret false)
    else
    (bif decide (x_v10>0) then
    ((B6 broken x_v10).bind fun x28 =>
    ((B6 broken (IntKind.i64.wrap (x_v10-1))).bind fun x33 =>
    (bif decide (x28≤x33) then
    some (Ex.ret false)
    else
    BX n y broken (IntKind.i64.wrap (x_v10+1)))))
    else
    BX n y broken (IntKind.i64.wrap (x_v10+1))))))
    else
    some (Ex.go ()))
def DX (n:Nat) (y:Ag) (broken:List Int):Option Bool :=
  ((BX n y broken 0).bind fun o_17=>Ex.bind o_17 (fun r=>some r) fun s_18 =>
  some (decide (((broken.length:Nat):Int)≤y.broken)))
def Ff (n:Nat) (words:List (IK .u16)) (at_:Int):Option Int :=
  (bif (((words.length:Nat):Int) == 0) then
  some 0
  else
  ((nz ((words.length:Nat):Int)).bind fun x12 =>
  ((B6 words (Int.tmod at_ ((words.length:Nat):Int))).bind fun x13 =>
  some (IntKind.i64.wrap x13.n))))
def De:Nat→(List Int)→(List Int)→Int→Option ((List Int)×(List Int))
  | 0,_,_,_=>none
  | n+1,x_v20,x_v21,x_v22 =>
    (((bif decide (x_v22>0) then
    ((B6 x_v21 x_v22).bind fun x71 =>
    ((B6 x_v21 (IntKind.i64.wrap (x_v22-1))).bind fun x76 =>
    some (decide (x71<x76))))
    else
    some false):Option Bool).bind fun o_201 =>
    (bif o_201 then
    ((B6 x_v20 (IntKind.i64.wrap (x_v22-1))).bind fun x90 =>
    ((B6 x_v20 x_v22).bind fun x94 =>
    ((B6 x_v20 x_v22).bind fun x96 =>
    ((upd x_v20 x_v22 x90).bind fun u_293 =>
    ((B6 u_293 (IntKind.i64.wrap (x_v22-1))).bind fun x97 =>
    ((upd u_293 (IntKind.i64.wrap (x_v22-1)) x94).bind fun u_317 =>
    ((B6 x_v21 (IntKind.i64.wrap (x_v22-1))).bind fun x106 =>
    ((B6 x_v21 x_v22).bind fun x110 =>
    ((B6 x_v21 x_v22).bind fun x112 =>
    ((upd x_v21 x_v22 x106).bind fun u_374 =>
    ((B6 u_374 (IntKind.i64.wrap (x_v22-1))).bind fun x113 =>
    ((upd u_374 (IntKind.i64.wrap (x_v22-1)) x110).bind fun u_398 =>
    De n  u_317 u_398 (IntKind.i64.wrap (x_v22-1))))))))))))))
    else
    some (x_v20,x_v21)))
def DJ:Nat→Ag→(List (IK .u16))→(List Int)→(List Int)→Int→Option ((List Int)×(List Int))
  | 0,_,_,_,_,_=>none
  | n+1,y,words,x_v10,x_v11,x_v12 =>
    (bif decide (x_v12<((y.buses.length:Nat):Int)) then
    ((B6 y.buses x_v12).bind fun x22 =>
    ((Ff n words x_v12).bind fun x26 =>
    ((nz (IntKind.i64.wrap ((IntKind.i64.wrap (x22.hi-x22.lo))+1))).bind fun x37 =>
    (((bif ((Int.tmod x26 3) == 0) then
    some x22.lo
    else
    (bif ((Int.tmod x26 3) == 1) then
    some x22.hi
    else
    some (IntKind.i64.wrap (x22.lo+(Int.tmod (IntKind.i64.wrap (Int.tdiv x26 3)) (IntKind.i64.wrap ((IntKind.i64.wrap (x22.hi-x22.lo))+1))))))):Option Int).bind fun o_102 =>
    ((LH x_v10 ([x_v12]:List Int)).bind fun x52 =>
    ((Ff n words (IntKind.i64.wrap ((IntKind.i64.wrap (2*x_v12))+1))).bind fun x60 =>
    ((LH x_v11 ([IntKind.i64.wrap ((IntKind.i64.wrap (2*o_102))+(Int.tmod x60 2))]:List Int)).bind fun x64 =>
    ((De n  x52 x64 x_v12).bind fun o_188 =>
    DJ n y words o_188.1 o_188.2 (IntKind.i64.wrap (x_v12+1))))))))))
    else
    some (x_v10,x_v11))
def Ip (n:Nat) (y:Ag) (words:List (IK .u16)):Option (List Int) :=
  ((DJ n y words ([]:List Int) ([]:List Int) 0).bind fun o_39 =>
  some o_39.1)
def Df:Nat→Ag→(List (IK .u16))→(List Int)→Int→Option (List Int)
  | 0,_,_,_,_=>none
  | n+1,y,words,x_v10,x_v11 =>
    (bif decide (x_v11<((y.buses.length:Nat):Int)) then
    (((bif decide (((x_v10.length:Nat):Int)<y.broken) then
    ((Ff n words (IntKind.i64.wrap ((IntKind.i64.wrap (3*x_v11))+2))).bind fun x24 =>
    some ((Int.tmod x24 4) == 0))
    else
    some false):Option Bool).bind fun o_45 =>
    (bif o_45 then
    ((LH x_v10 ([x_v11]:List Int)).bind fun x31 =>
    Df n y words x31 (IntKind.i64.wrap (x_v11+1)))
    else
    Df n y words x_v10 (IntKind.i64.wrap (x_v11+1))))
    else
    some x_v10)
def Iq (n:Nat) (y:Ag) (words:List (IK .u16)):Option (List Int) :=
  ((Df n y words ([]:List Int) 0).bind fun o_29 =>
  some o_29)
def CO:Nat→Ag→(List Int)→(List Int)→Int→Int→Option Int
  | 0,_,_,_,_,_=>none
  | n+1,y,x14,x_v10,x_v20,x_v21 =>
    (((bif decide (x_v20<((y.room.length:Nat):Int)) then
    ((B6 x_v10 x_v21).bind fun x39 =>
    ((B6 y.room x_v21).bind fun x44 =>
    some (decide (x39≥x44))))
    else
    some false):Option Bool).bind fun o_98 =>
    (bif o_98 then
    ((nz ((y.room.length:Nat):Int)).bind fun x55 =>
    CO n y x14 x_v10 (IntKind.i64.wrap (x_v20+1)) (Int.tmod (IntKind.i64.wrap (x_v21+1)) ((y.room.length:Nat):Int)))
    else
    some x_v21))
def CP:Nat→Ag→(List (IK .u16))→(List Int)→(List Int)→(List Int)→Int→Option (Ex ((List Int)×Bool) ((List Int)×(List Int)))
  | 0,_,_,_,_,_,_=>none
  | n+1,y,words,x14,x_v10,x_v11,x_v12 =>
    (bif decide (x_v12<((y.buses.length:Nat):Int)) then
    ((Ff n words (IntKind.i64.wrap ((IntKind.i64.wrap (5*x_v12))+1))).bind fun x26 =>
    ((nz ((y.room.length:Nat):Int)).bind fun x30 =>
    ((CO n y x14 x_v10 0 (Int.tmod x26 ((y.room.length:Nat):Int))).bind fun o_85 =>
    ((B6 x_v10 o_85).bind fun x58 =>
    ((B6 y.room o_85).bind fun x63 =>
    (bif decide (x58≥x63) then
    some (Ex.ret (([]:List Int),false))
    else
    ((B6 x_v10 o_85).bind fun x68 =>
    ((B6 x_v10 o_85).bind fun x71 =>
    ((upd x_v10 o_85 (IntKind.i64.wrap (x68+1))).bind fun u_220 =>
    ((LH x_v11 ([o_85]:List Int)).bind fun x75 =>
    CP n y words x14 u_220 x75 (IntKind.i64.wrap (x_v12+1))))))))))))
    else
    some (Ex.go (x_v10,x_v11)))
def FQ (n:Nat) (y:Ag) (words:List (IK .u16)):Option ((List Int)×Bool) :=
  ((mk ((y.room.length:Nat):Int) (0:Int)).bind fun x14 =>
  ((CP n y words x14 x14 ([]:List Int) 0).bind fun o_51=>Ex.bind o_51 (fun r=>some r) fun s_52 =>
  some (s_52.2,true)))
def FA (n:Nat) (y:Ag) (lanes:List Int):Option Bool :=
  ((((FF n y).bind fun x13 =>
  (bif (!x13) then
  some true
  else
  some (decide (((lanes.length:Nat):Int)>15)))):Option Bool).bind fun o_14 =>
  (bif o_14 then
  ((CX n ).bind fun x20 =>
  some x20)
  else
  ((CM n y).bind fun x23 =>
  ((EQ n x23).bind fun x24 =>
  ((CM n y).bind fun x30 =>
  ((Cp n lanes).bind fun x32 =>
  ((Di n x30 x32).bind fun x33 =>
  (bif (x24.2.2 != 0) then
  (((bif (x24.2.2 == 9) then
  (bif (x33.2.2.2 == 2) then
  ((CX n ).bind fun x47 =>
  some x47)
  else
  some false)
  else
  some false):Option Bool).bind fun o_128 =>
  some o_128)
  else
  ((((Fe n y x24.1).bind fun x51 =>
  (bif (!x51) then
  some true
  else
  (bif decide (x24.2.1<0) then
  some true
  else
  (bif (x33.2.2.2 != 0) then
  some (x33.2.2.2 != 2)
  else
  some false)))):Option Bool).bind fun o_159 =>
  (bif o_159 then
  some false
  else
  (bif (x33.2.2.2 != 0) then
  ((CX n ).bind fun x73 =>
  some x73)
  else
  (bif decide (x33.2.2.1≥x24.2.1) then
  ((CX n ).bind fun x73 =>
  some x73)
  else
  some false))))))))))))
def Bo:Nat→Ag→(List Int)→(List Int)→((List Int)×Int×Int)→((List Int)×Bool)→Int→Option (Ex Bool Unit)
  | 0,_,_,_,_,_,_=>none
  | n+1,y,x28,x31,x35,x42,x_v10 =>
    (bif decide (x_v10<2) then
    ((Jh 2 x_v10).bind fun x79 =>
    ((B6 (Ed.mk x35.1 x42.1).toL x_v10).bind fun x80 =>
    ((CM n y).bind fun x77 =>
    ((Cp n x80).bind fun x81 =>
    ((Di n x77 x81).bind fun x82 =>
    ((Jh 2 x_v10).bind fun x91 =>
    ((B6 (Ed.mk x35.1 x42.1).toL x_v10).bind fun x92 =>
    ((CM n y).bind fun x89 =>
    ((Cp n x92).bind fun x93 =>
    ((Cp n x28).bind fun x95 =>
    ((Cp n x31).bind fun x97 =>
    ((C1 n x89 x93 x95 x97).bind fun x98 =>
    (((bif (x82.2.2.2 != 0) then
    some true
    else
    (bif (x98.2 != 0) then
    some true
    else
    (bif decide (((x98.1.length:Nat):Int)>x82.2.2.1) then
    some true
    else
    (bif (x_v10 == 0) then
    (bif (x82.2.2.1 != x35.2.1) then
    some true
    else
    (bif decide (x82.2.2.1<x35.2.1) then
    some true
    else
    ((CM n y).bind fun x129 =>
    ((Cp n x82.1).bind fun x131 =>
    ((BW n x129 x131).bind fun x132 =>
    (bif (!x132) then
    some true
    else
    ((DX n y x82.2.1).bind fun x138 =>
    some (!x138))))))))
    else
    (bif decide (x82.2.2.1<x35.2.1) then
    some true
    else
    ((CM n y).bind fun x129 =>
    ((Cp n x82.1).bind fun x131 =>
    ((BW n x129 x131).bind fun x132 =>
    (bif (!x132) then
    some true
    else
    ((DX n y x82.2.1).bind fun x138 =>
    some (!x138))))))))))):Option Bool).bind fun o_387 =>
    (bif o_387 then
    some (Ex.ret false)
    else
    ((Jh 2 x_v10).bind fun x145 =>
    ((B6 (Ed.mk x35.1 x42.1).toL x_v10).bind fun x146 =>
    ((CM n y).bind fun x143 =>
    ((Cp n x146).bind fun x147 =>
    ((Cp n x82.1).bind fun x149 =>
    ((Cp n x82.2.1).bind fun x151 =>
    ((C1 n x143 x147 x149 x151).bind fun x152 =>
    (bif (x152.2 != 0) then
    some (Ex.ret false)
    else
    (bif (((x152.1.length:Nat):Int) != x82.2.2.1) then
    some (Ex.ret false)
    else
    Bo n y x28 x31 x35 x42 (IntKind.i64.wrap (x_v10+1)))))))))))))))))))))))))
    else
    some (Ex.go ()))
def EY (n:Nat) (y:Ag) (words:List (IK .u16)):Option Bool :=
  ((FF n y).bind fun x23 =>
  (bif (!x23) then
  ((CX n ).bind fun x25 =>
  some x25)
  else
  ((Ip n y words).bind fun x28 =>
  ((Iq n y words).bind fun x31 =>
  ((CM n y).bind fun x34 =>
  ((EQ n x34).bind fun x35 =>
  ((FQ n y words).bind fun x42 =>
  (((bif (!((x35.2.2 == 0) == x42.2)) then
  some true
  else
  (bif (x35.2.2 != 0) then
  (bif (x35.2.2 != 9) then
  some true
  else
  ((CM n y).bind fun x59 =>
  ((Cp n x28).bind fun x61 =>
  ((BW n x59 x61).bind fun x62 =>
  some (!x62)))))
  else
  ((CM n y).bind fun x59 =>
  ((Cp n x28).bind fun x61 =>
  ((BW n x59 x61).bind fun x62 =>
  some (!x62)))))):Option Bool).bind fun o_107 =>
  (bif o_107 then
  some false
  else
  (bif (!x42.2) then
  ((CX n ).bind fun x67 =>
  some x67)
  else
  ((Bo n y x28 x31 x35 x42 0).bind fun o_241=>Ex.bind o_241 (fun r=>some r) fun s_242 =>
  ((CX n ).bind fun x163 =>
  some x163))))))))))))
abbrev XZ:=@Option.some.inj
abbrev XY:=@Exists.intro
abbrev XX:=@Option.bind_some
abbrev XW:=@cond_true
abbrev XV:=@cond_false
abbrev XU:=@Ac.le_trans
abbrev XT:=@wp_seq
end Go.Proofs.Ythcbemnflgjadaa
