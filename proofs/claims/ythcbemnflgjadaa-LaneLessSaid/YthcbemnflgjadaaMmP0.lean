/- What the functions compute, in plain Lean. -/
import Derived.Test.YthcbemnflgjadaaMmS8
import Derived.Test.YthcbemnflgjadaaProg
import Derived.Lib.BitFns
set_option linter.all false
namespace Go.Proofs.Ythcbemnflgjadaa
open Go Go.RowKit
open Rep (rep)
open KRep (kv)
open VRep (rv)
structure B5 where
  lo:Int
  hi:Int
  turn:Int
deriving DecidableEq,Inhabited
instance : Rep B5:=Rep.via fun x=>(x.lo,x.hi,x.turn)
instance : VRep B5:=VRep.agg B5
structure Aj where
  room:List Int
  buses:List B5
  broken:Int
deriving DecidableEq,Inhabited
instance : Rep Aj:=Rep.via fun x=>(x.room,x.buses,x.broken)
instance : VRep Aj:=VRep.agg Aj
def RE (h:Ac) (v:Value) (f:Int→Option Bool):Prop:=∀ (h':Ac)(w':World),Ac.le h h'→CG h' w'→∀ (x0:Int)(r:Bool),f x0=some r→HS Try.prog v #[.int .i64 x0] w' (CS (fun h v=>v=.bool r) h' w')
theorem RE.mono {h h':Ac} {v:Value} {f:Int→Option Bool} (H:RE h v f) (hle:Ac.le h h'):RE h' v f:=fun h2 w2 l=>H h2 w2 (Ac.le_trans hle l)
instance : Rep (Int→Option Bool):=⟨1,fun h f cs=>∃ fn first cap,cs=[.func fn first cap]∧RE h (.func fn first cap) f,fun hle ⟨a,b,c,e,hr⟩=>⟨a,b,c,e,hr.mono hle⟩,fun⟨a,b,c,e,_⟩=>by subst e; rfl,fun⟨a,b,c,e,_⟩ v hv=>by subst e; simp at hv; subst hv; rfl⟩
def RF (h:Ac) (v:Value) (f:B5→Option Bool):Prop:=∀ (h':Ac)(w':World),Ac.le h h'→CG h' w'→∀ (x0:B5)(cs0:List Value)(_:rep h' x0 cs0)(r:Bool),f x0=some r→HS Try.prog v #[.agg cs0.toArray] w' (CS (fun h v=>v=.bool r) h' w')
theorem RF.mono {h h':Ac} {v:Value} {f:B5→Option Bool} (H:RF h v f) (hle:Ac.le h h'):RF h' v f:=fun h2 w2 l=>H h2 w2 (Ac.le_trans hle l)
instance : Rep (B5→Option Bool):=⟨1,fun h f cs=>∃ fn first cap,cs=[.func fn first cap]∧RF h (.func fn first cap) f,fun hle ⟨a,b,c,e,hr⟩=>⟨a,b,c,e,hr.mono hle⟩,fun⟨a,b,c,e,_⟩=>by subst e; rfl,fun⟨a,b,c,e,_⟩ v hv=>by subst e; simp at hv; subst hv; rfl⟩
structure Ao where
  a0:Int
  a1:Int
  a2:Int
  a3:Int
  a4:Int
  a5:Int
  a6:Int
  a7:Int
deriving DecidableEq,Inhabited
instance : Rep Ao:=Rep.via fun x=>(x.a0,x.a1,x.a2,x.a3,x.a4,x.a5,x.a6,x.a7)
instance : VRep Ao:=VRep.agg Ao
def Ao.toL (x:Ao):List Int:=[x.a0,x.a1,x.a2,x.a3,x.a4,x.a5,x.a6,x.a7]
def Ao.ofL:List Int→Option Ao
  | [a0,a1,a2,a3,a4,a5,a6,a7]=>some ⟨a0,a1,a2,a3,a4,a5,a6,a7⟩
  | _=>none
theorem Ao.ofL_some {l:List Int} {y:Ao} (h:Ao.ofL l=some y):y.toL=l:=by
  unfold Ao.ofL at h
  split at h
  · cases h; rfl
  · cases h
def Ao.setI (x:Ao) (i:Int) (v:Int):Option Ao:=(upd x.toL i v).bind Ao.ofL
theorem Ao.setI_some {x y:Ao} {i:Int} {v:Int} (h:x.setI i v=some y):0≤i∧i<8∧y.toL=x.toL.set i.toNat v:=by
  obtain⟨l,hl,h2⟩:=Am h
  obtain⟨h0,h1,rfl⟩:=B9 hl
  exact⟨h0,h1,Ao.ofL_some h2⟩
structure As where
  a0:Bool
  a1:Bool
  a2:Bool
  a3:Bool
  a4:Bool
  a5:Bool
  a6:Bool
  a7:Bool
deriving DecidableEq,Inhabited
instance : Rep As:=Rep.via fun x=>(x.a0,x.a1,x.a2,x.a3,x.a4,x.a5,x.a6,x.a7)
instance : VRep As:=VRep.agg As
def As.toL (x:As):List Bool:=[x.a0,x.a1,x.a2,x.a3,x.a4,x.a5,x.a6,x.a7]
def As.ofL:List Bool→Option As
  | [a0,a1,a2,a3,a4,a5,a6,a7]=>some ⟨a0,a1,a2,a3,a4,a5,a6,a7⟩
  | _=>none
theorem As.ofL_some {l:List Bool} {y:As} (h:As.ofL l=some y):y.toL=l:=by
  unfold As.ofL at h
  split at h
  · cases h; rfl
  · cases h
def As.setI (x:As) (i:Int) (v:Bool):Option As:=(upd x.toL i v).bind As.ofL
theorem As.setI_some {x y:As} {i:Int} {v:Bool} (h:x.setI i v=some y):0≤i∧i<8∧y.toL=x.toL.set i.toNat v:=by
  obtain⟨l,hl,h2⟩:=Am h
  obtain⟨h0,h1,rfl⟩:=B9 hl
  exact⟨h0,h1,As.ofL_some h2⟩
structure BE where
  yard:Aj
  lane:List Int
  tm:Ao
  broken:As
deriving DecidableEq,Inhabited
instance : Rep BE:=Rep.via fun x=>(x.yard,x.lane,x.tm,x.broken)
instance : VRep BE:=VRep.agg BE
def Ra (h:Ac) (v:Value) (f:Int→Int→Option Int):Prop:=∀ (h':Ac)(w':World),Ac.le h h'→CG h' w'→∀ (x0:Int)(x1:Int)(r:Int),f x0 x1=some r→HS Try.prog v #[.int .i64 x0,.int .i64 x1] w' (CS (fun h v=>v=.int .i64 r) h' w')
theorem Ra.mono {h h':Ac} {v:Value} {f:Int→Int→Option Int} (H:Ra h v f) (hle:Ac.le h h'):Ra h' v f:=fun h2 w2 l=>H h2 w2 (Ac.le_trans hle l)
instance : Rep (Int→Int→Option Int):=⟨1,fun h f cs=>∃ fn first cap,cs=[.func fn first cap]∧Ra h (.func fn first cap) f,fun hle ⟨a,b,c,e,hr⟩=>⟨a,b,c,e,hr.mono hle⟩,fun⟨a,b,c,e,_⟩=>by subst e; rfl,fun⟨a,b,c,e,_⟩ v hv=>by subst e; simp at hv; subst hv; rfl⟩
def S3 (h:Ac) (v:Value) (f:Int→Int→Option Bool):Prop:=∀ (h':Ac)(w':World),Ac.le h h'→CG h' w'→∀ (x0:Int)(x1:Int)(r:Bool),f x0 x1=some r→HS Try.prog v #[.int .i64 x0,.int .i64 x1] w' (CS (fun h v=>v=.bool r) h' w')
theorem S3.mono {h h':Ac} {v:Value} {f:Int→Int→Option Bool} (H:S3 h v f) (hle:Ac.le h h'):S3 h' v f:=fun h2 w2 l=>H h2 w2 (Ac.le_trans hle l)
instance : Rep (Int→Int→Option Bool):=⟨1,fun h f cs=>∃ fn first cap,cs=[.func fn first cap]∧S3 h (.func fn first cap) f,fun hle ⟨a,b,c,e,hr⟩=>⟨a,b,c,e,hr.mono hle⟩,fun⟨a,b,c,e,_⟩=>by subst e; rfl,fun⟨a,b,c,e,_⟩ v hv=>by subst e; simp at hv; subst hv; rfl⟩
structure AB where
  buses:List Int
  down:Int
deriving DecidableEq,Inhabited
instance : Rep AB:=Rep.via fun x=>(x.buses,x.down)
instance : VRep AB:=VRep.agg AB
def S0 (h:Ac) (v:Value) (f:B5→Option Int):Prop:=∀ (h':Ac)(w':World),Ac.le h h'→CG h' w'→∀ (x0:B5)(cs0:List Value)(_:rep h' x0 cs0)(r:Int),f x0=some r→HS Try.prog v #[.agg cs0.toArray] w' (CS (fun h v=>v=.int .i64 r) h' w')
theorem S0.mono {h h':Ac} {v:Value} {f:B5→Option Int} (H:S0 h v f) (hle:Ac.le h h'):S0 h' v f:=fun h2 w2 l=>H h2 w2 (Ac.le_trans hle l)
instance : Rep (B5→Option Int):=⟨1,fun h f cs=>∃ fn first cap,cs=[.func fn first cap]∧S0 h (.func fn first cap) f,fun hle ⟨a,b,c,e,hr⟩=>⟨a,b,c,e,hr.mono hle⟩,fun⟨a,b,c,e,_⟩=>by subst e; rfl,fun⟨a,b,c,e,_⟩ v hv=>by subst e; simp at hv; subst hv; rfl⟩
structure DM where
  tm:B5→Option Int
instance : Rep DM:=Rep.via fun x=>(x.tm)
instance : VRep DM:=VRep.agg DM
structure Br where
  behind:Int
  last:Int
deriving DecidableEq,Inhabited
instance : Rep Br:=Rep.via fun x=>(x.behind,x.last)
instance : VRep Br:=VRep.agg Br
structure AY where
  many:Int
  tm:Ao
deriving DecidableEq,Inhabited
instance : Rep AY:=Rep.via fun x=>(x.many,x.tm)
instance : VRep AY:=VRep.agg AY
instance : KRep Br:=⟨fun x=>.agg #[.int .i64 x.behind,.int .i64 x.last],fun {a b} h=>by
  rcases a with⟨a0,a1⟩
  rcases b with⟨b0,b1⟩
  simp_all⟩
def S4 (h:Ac) (v:Value) (f:Int→Option Int):Prop:=∀ (h':Ac)(w':World),Ac.le h h'→CG h' w'→∀ (x0:Int)(r:Int),f x0=some r→HS Try.prog v #[.int .i64 x0] w' (CS (fun h v=>v=.int .i64 r) h' w')
theorem S4.mono {h h':Ac} {v:Value} {f:Int→Option Int} (H:S4 h v f) (hle:Ac.le h h'):S4 h' v f:=fun h2 w2 l=>H h2 w2 (Ac.le_trans hle l)
instance : Rep (Int→Option Int):=⟨1,fun h f cs=>∃ fn first cap,cs=[.func fn first cap]∧S4 h (.func fn first cap) f,fun hle ⟨a,b,c,e,hr⟩=>⟨a,b,c,e,hr.mono hle⟩,fun⟨a,b,c,e,_⟩=>by subst e; rfl,fun⟨a,b,c,e,_⟩ v hv=>by subst e; simp at hv; subst hv; rfl⟩
structure Ga where
  buses:As
  down:As
deriving DecidableEq,Inhabited
instance : Rep Ga:=Rep.via fun x=>(x.buses,x.down)
instance : VRep Ga:=VRep.agg Ga
instance : KRep Ga:=⟨fun x=>.agg #[.bool x.buses.a0,.bool x.buses.a1,.bool x.buses.a2,.bool x.buses.a3,.bool x.buses.a4,.bool x.buses.a5,.bool x.buses.a6,.bool x.buses.a7,.bool x.down.a0,.bool x.down.a1,.bool x.down.a2,.bool x.down.a3,.bool x.down.a4,.bool x.down.a5,.bool x.down.a6,.bool x.down.a7],fun {a b} h=>by
  rcases a with⟨⟨a0,a1,a2,a3,a4,a5,a6,a7⟩,⟨a8,a9,a10,a11,a12,a13,a14,a15⟩⟩
  rcases b with⟨⟨b0,b1,b2,b3,b4,b5,b6,b7⟩,⟨b8,b9,b10,b11,b12,b13,b14,b15⟩⟩
  simp_all⟩
def G3 (n:Nat) (y:Aj):Option Bool :=
  (bif decide (((y.room.length:Nat):Int)≤6) then
  some (decide (((y.buses.length:Nat):Int)≤12))
  else
  some false)
def Cd (n:Nat) (n_:Int) (low:Int) (high:Int):Option Bool :=
  (bif decide (low≤n_) then
  some (decide (n_≤high))
  else
  some false)
def Ci (n:Nat) (x:Int) (q0:Int→Option Bool):Option Bool :=
  ((q0 x).bind fun x6 =>
  some (!x6))
def AH:Nat→(List Int)→(Int→Option Bool)→Int→Option (Ex Int Unit)
  | 0,_,_,_=>none
  | n+1,s,f,x_v10 =>
    (bif decide (x_v10<((s.length:Nat):Int)) then
    ((Ba s x_v10).bind fun x14 =>
    ((f x14).bind fun x16 =>
    (bif x16 then
    some (Ex.ret x_v10)
    else
    AH n s f (IntKind.i64.wrap (x_v10+1)))))
    else
    some (Ex.go ()))
def BJ (n:Nat) (s:List Int) (f:Int→Option Bool):Option Int :=
  ((AH n s f 0).bind fun o_6=>Ex.bind o_6 (fun r=>some r) fun s_7 =>
  some (-1))
def B3 (n:Nat) (s:List Int) (f:Int→Option Bool):Option Bool :=
  ((BJ n s f).bind fun x7 =>
  some (decide (x7≥0)))
def DB (n:Nat) (l:List Int) (right:Int→Option Bool):Option Bool :=
  ((B3 n l (fun(y0:Int)=>Ci n y0 right)).bind fun x7 =>
  some (!x7))
def BL (n:Nat) (b:B5):Option Bool :=
  ((Cd n b.lo 0 b.hi).bind fun x7 =>
  (bif x7 then
  (bif decide (b.hi≤2000) then
  ((Cd n b.turn 0 2000).bind fun x16 =>
  some x16)
  else
  some false)
  else
  some false))
def Bn (n:Nat) (x:B5) (q0:B5→Option Bool):Option Bool :=
  ((q0 x).bind fun x6 =>
  some (!x6))
def A4:Nat→(List B5)→(B5→Option Bool)→Int→Option (Ex Int Unit)
  | 0,_,_,_=>none
  | n+1,s,f,x_v10 =>
    (bif decide (x_v10<((s.length:Nat):Int)) then
    ((Ba s x_v10).bind fun x14 =>
    ((f x14).bind fun x16 =>
    (bif x16 then
    some (Ex.ret x_v10)
    else
    A4 n s f (IntKind.i64.wrap (x_v10+1)))))
    else
    some (Ex.go ()))
def AV (n:Nat) (s:List B5) (f:B5→Option Bool):Option Int :=
  ((A4 n s f 0).bind fun o_6=>Ex.bind o_6 (fun r=>some r) fun s_7 =>
  some (-1))
def AP (n:Nat) (s:List B5) (f:B5→Option Bool):Option Bool :=
  ((AV n s f).bind fun x7 =>
  some (decide (x7≥0)))
def BQ (n:Nat) (l:List B5) (right:B5→Option Bool):Option Bool :=
  ((AP n l (fun(y0:B5)=>Bn n y0 right)).bind fun x7 =>
  some (!x7))
def B7 (n:Nat) (n_:Int):Option Bool :=
  ((Cd n n_ 0 8).bind fun x4 =>
  some x4)
def Bt:Nat→Aj→Int→(List (Int×Bool))→Option (Ex Int (List (Int×Bool)))
  | 0,_,_,_=>none
  | n+1,y,x_v10,x_v11 =>
    (bif decide (x_v10<((y.buses.length:Nat):Int)) then
    ((Ba y.buses x_v10).bind fun x48 =>
    ((some (Gh x_v11 x48.turn (false:Bool))).bind fun x53 =>
    (bif x53.1 then
    some (Ex.ret 1)
    else
    Bt n y (IntKind.i64.wrap (x_v10+1)) (H0 x_v11 x48.turn true))))
    else
    some (Ex.go x_v11))
def BU (n:Nat) (y:Aj):Option Int :=
  (((bif decide (((y.room.length:Nat):Int)>3) then
  some true
  else
  some (decide (((y.buses.length:Nat):Int)>8))):Option Bool).bind fun o_16 =>
  (bif o_16 then
  some 3
  else
  (((bif (((y.room.length:Nat):Int) == 0) then
  some true
  else
  ((Cd n y.broken 0 2).bind fun x26 =>
  (bif (!x26) then
  some true
  else
  ((DB n y.room (fun(y0:Int)=>B7 n y0)).bind fun x33 =>
  (bif (!x33) then
  some true
  else
  ((BQ n y.buses (fun(y0:B5)=>BL n y0)).bind fun x39 =>
  some (!x39))))))):Option Bool).bind fun o_35 =>
  (bif o_35 then
  some 1
  else
  ((Bt n y 0 ([]:List (Int×Bool))).bind fun o_115=>Ex.bind o_115 (fun r=>some r) fun s_116 =>
  some 0)))))
def Bh (n:Nat) (s:List Int):Option (List Int) :=
  ((Ji ([]:List Int) s).bind fun x7 =>
  some x7)
def Bu:Nat→(List Int)→(List Int)→Int→Option (Ex Bool (List Int))
  | 0,_,_,_=>none
  | n+1,l,x_v10,x_v11 =>
    (bif decide (x_v11<((l.length:Nat):Int)) then
    ((Ba l x_v11).bind fun x21 =>
    ((((Cd n x21 0 (IntKind.i64.wrap (((x_v10.length:Nat):Int)-1))).bind fun x27 =>
    (bif (!x27) then
    some true
    else
    ((Ba x_v10 x21).bind fun x32 =>
    some (x32 == 0)))):Option Bool).bind fun o_78 =>
    (bif o_78 then
    some (Ex.ret false)
    else
    ((Ba x_v10 x21).bind fun x38 =>
    ((Ba x_v10 x21).bind fun x41 =>
    ((upd x_v10 x21 (IntKind.i64.wrap (x38-1))).bind fun u_152 =>
    Bu n l u_152 (IntKind.i64.wrap (x_v11+1))))))))
    else
    some (Ex.go x_v10))
def Cu (n:Nat) (y:Aj) (l:List Int):Option Bool :=
  (bif (((l.length:Nat):Int) != ((y.buses.length:Nat):Int)) then
  some false
  else
  ((Bh n y.room).bind fun x16 =>
  ((Bu n l x16 0).bind fun o_47=>Ex.bind o_47 (fun r=>some r) fun s_48 =>
  some true)))
def Bc:Nat→(List Int)→Int→Int→Option Int
  | 0,_,_,_=>none
  | n+1,x,x_v10,x_v11 =>
    (bif decide (x_v10<((x.length:Nat):Int)) then
    ((Ba x x_v10).bind fun x21 =>
    Bc n x (IntKind.i64.wrap (x_v10+1)) (if x21>x_v11 then x21 else x_v11))
    else
    some x_v11)
def Cj (n:Nat) (x:List Int):Option Int :=
  (bif decide (((x.length:Nat):Int)<1) then
  none
  else
  ((Ba x 0).bind fun x10 =>
  ((Bc n x 1 x10).bind fun o_25 =>
  some o_25)))
def CI (n:Nat) (l:List Int):Option Int :=
  ((Cj n l).bind fun x4 =>
  some x4)
def CZ (n:Nat) (y:Aj) (n_:Int):Option Bool :=
  ((Cd n n_ 0 (IntKind.i64.wrap (((y.buses.length:Nat):Int)-1))).bind fun x10 =>
  some x10)
def Bd:Nat→Aj→(List Int)→Int→Int→Ao→As→Option (Ex (Ao×Bool) (Ao×As))
  | 0,_,_,_,_,_,_=>none
  | n+1,y,order,x_v10,x_v11,x_v12,x_v13 =>
    (bif decide (x_v10<((order.length:Nat):Int)) then
    ((Ba order x_v10).bind fun x22 =>
    ((((CZ n y x22).bind fun x26 =>
    (bif (!x26) then
    some true
    else
    ((JO 8 x22).bind fun x30 =>
    ((Ba x_v13.toL x22).bind fun x31 =>
    (bif x31 then
    some true
    else
    ((Ba y.buses x22).bind fun x37 =>
    some (decide (x37.hi<x_v11)))))))):Option Bool).bind fun o_73 =>
    (bif o_73 then
    some (Ex.ret (x_v12,false))
    else
    ((JO 8 x22).bind fun x45 =>
    ((As.setI x_v13 x22 true).bind fun u_143 =>
    ((Ba y.buses x22).bind fun x52 =>
    ((JO 8 x22).bind fun x57 =>
    ((CI n ([x_v11,x52.lo]:List Int)).bind fun x56 =>
    ((Ao.setI x_v12 x22 x_v10).bind fun us0 =>
    Bd n y order (IntKind.i64.wrap (x_v10+1)) x56 us0 u_143)))))))))
    else
    some (Ex.go (x_v12,x_v13)))
def Ck (n:Nat) (y:Aj) (order:List Int):Option (Ao×Bool) :=
  (bif (((order.length:Nat):Int) != ((y.buses.length:Nat):Int)) then
  some ((Ao.mk 0 0 0 0 0 0 0 0),false)
  else
  ((Bd n y order 0 0 (Ao.mk 0 0 0 0 0 0 0 0) (As.mk false false false false false false false false)).bind fun o_40=>Ex.bind o_40 (fun r=>some r) fun s_41 =>
  some (s_41.1,true)))
def B8:Nat→Aj→(List Int)→Int→Int→As→Option (Ex (As×Bool) As)
  | 0,_,_,_,_,_=>none
  | n+1,y,broken,x_v10,x_v11,x_v12 =>
    (bif decide (x_v10<((broken.length:Nat):Int)) then
    ((Ba broken x_v10).bind fun x13 =>
    ((((CZ n y x13).bind fun x17 =>
    (bif (!x17) then
    some true
    else
    some (decide (x13≤x_v11)))):Option Bool).bind fun o_55 =>
    (bif o_55 then
    some (Ex.ret (x_v12,false))
    else
    ((JO 8 x13).bind fun x27 =>
    ((As.setI x_v12 x13 true).bind fun u_95 =>
    B8 n y broken (IntKind.i64.wrap (x_v10+1)) x13 u_95)))))
    else
    some (Ex.go x_v12))
def Dx (n:Nat) (y:Aj) (broken:List Int):Option (As×Bool) :=
  ((B8 n y broken 0 (-1) (As.mk false false false false false false false false)).bind fun o_24=>Ex.bind o_24 (fun r=>some r) fun s_25 =>
  some (s_25,decide (((broken.length:Nat):Int)≤y.broken)))
def Cv (n:Nat) (y:Aj) (lanes:List Int) (order:List Int) (broken:List Int):Option (BE×Int) :=
  ((BU n y).bind fun x16 =>
  (bif (x16 != 0) then
  some ((BE.mk (Aj.mk ([]:List Int) ([]:List B5) 0) ([]:List Int) (Ao.mk 0 0 0 0 0 0 0 0) (As.mk false false false false false false false false)),x16)
  else
  ((Ck n y order).bind fun x24 =>
  ((Dx n y broken).bind fun x30 =>
  (((bif (!x24.2) then
  some true
  else
  (bif (!x30.2) then
  some true
  else
  ((Cu n y lanes).bind fun x42 =>
  some (!x42)))):Option Bool).bind fun o_85 =>
  (bif o_85 then
  some ((BE.mk (Aj.mk ([]:List Int) ([]:List B5) 0) ([]:List Int) (Ao.mk 0 0 0 0 0 0 0 0) (As.mk false false false false false false false false)),2)
  else
  some ((BE.mk y lanes x24.1 x30.1),0)))))))
def AN:Nat→(List (List Int))→Int→Int→Option Int
  | 0,_,_,_=>none
  | n+1,slices,x_v10,x_v11 =>
    (bif decide (x_v10<((slices.length:Nat):Int)) then
    ((Ba slices x_v10).bind fun x13 =>
    (bif decide ((IntKind.i64.wrap (x_v11+((x13.length:Nat):Int)))<0) then
    none
    else
    AN n slices (IntKind.i64.wrap (x_v10+1)) (IntKind.i64.wrap (x_v11+((x13.length:Nat):Int)))))
    else
    some x_v11)
def AO:Nat→(List (List Int))→(List Int)→Int→Option (List Int)
  | 0,_,_,_=>none
  | n+1,slices,x_v20,x_v21 =>
    (bif decide (x_v21<((slices.length:Nat):Int)) then
    ((Ba slices x_v21).bind fun x29 =>
    ((Ji x_v20 x29).bind fun x33 =>
    AO n slices x33 (IntKind.i64.wrap (x_v21+1))))
    else
    some x_v20)
def Bq (n:Nat) (slices:List (List Int)):Option (List Int) :=
  ((AN n slices 0 0).bind fun o_8 =>
  ((Ql o_8).bind fun x24 =>
  ((AO n slices ([]:List Int) 0).bind fun o_75 =>
  some o_75)))
def A1:Nat→Int→(Int→Int→Option Int)→(List Int)→Int→Option (List Int)
  | 0,_,_,_,_=>none
  | n+1,a,cmp,x_v20,x_v21 =>
    (((bif decide (x_v21>a) then
    ((Ba x_v20 x_v21).bind fun x25 =>
    ((Ba x_v20 (IntKind.i64.wrap (x_v21-1))).bind fun x30 =>
    ((cmp x25 x30).bind fun x32 =>
    some (decide (x32<0)))))
    else
    some false):Option Bool).bind fun o_48 =>
    (bif o_48 then
    ((Ba x_v20 (IntKind.i64.wrap (x_v21-1))).bind fun x45 =>
    ((Ba x_v20 x_v21).bind fun x49 =>
    ((Ba x_v20 x_v21).bind fun x51 =>
    ((upd x_v20 x_v21 x45).bind fun u_155 =>
    ((Ba u_155 (IntKind.i64.wrap (x_v21-1))).bind fun x52 =>
    ((upd u_155 (IntKind.i64.wrap (x_v21-1)) x49).bind fun u_178 =>
    A1 n a cmp u_178 (IntKind.i64.wrap (x_v21-1))))))))
    else
    some x_v20))
def A2:Nat→Int→Int→(Int→Int→Option Int)→(List Int)→Int→Option (List Int)
  | 0,_,_,_,_,_=>none
  | n+1,a,b,cmp,x_v10,x_v11 =>
    (bif decide (x_v11<b) then
    ((A1 n a cmp x_v10 x_v11).bind fun o_35 =>
    A2 n a b cmp o_35 (IntKind.i64.wrap (x_v11+1)))
    else
    some x_v10)
def AQ (n:Nat) (data:List Int) (a:Int) (b:Int) (cmp:Int→Int→Option Int):Option (List Int) :=
  ((A2 n a b cmp data (IntKind.i64.wrap (a+1))).bind fun o_10 =>
  some o_10)
def ER (n:Nat) (x:IK .u64):Option Int:=if 0≤x.n∧x.n≤18446744073709551615 then some (Lib.bitLen x.n.toNat:Nat) else none
def AZ:Nat→(List Int)→Int→Int→Int→(Int→Int→Option Int)→Option (Ex (List Int) Unit)
  | 0,_,_,_,_,_=>none
  | n+1,data,a,b,limit,cmp =>
    (bif decide ((IntKind.i64.wrap (b-a))≤12) then
    ((AQ n data a b cmp).bind fun x30 =>
    some (Ex.ret x30))
    else
    (bif (limit == 0) then
    none
    else
    (bif (!true) then
    none
    else
    none)))
def AT:Nat→(List Int)→Int→Int→Int→(Int→Int→Option Int)→Option (List Int)
  | 0,_,_,_,_,_=>none
  | n+1,data,a,b,limit,cmp =>
    ((AZ n data a b limit cmp ).bind fun o_6=>Ex.bind o_6 (fun r=>some r) fun s_7 =>
    some data)
def AD (n:Nat) (x:List Int) (cmp:Int→Int→Option Int):Option (List Int) :=
  ((ER n (IK.mk (IntKind.u64.wrap ((x.length:Nat):Int)))).bind fun x11 =>
  ((AT n x 0 ((x.length:Nat):Int) x11 cmp).bind fun x13 =>
  some x13))
def Bp (n:Nat) (a:Int) (b:Int) (q0:Aj):Option Int :=
  ((Ba q0.buses a).bind fun x9 =>
  ((Ba q0.buses b).bind fun x15 =>
  some (IntKind.i64.wrap (x9.turn-x15.turn))))
def AJ {σ:Type}:Nat→(σ→Int→Option (σ×Bool))→(List Int)→Int→σ→Option (Ex σ σ)
  | 0,_,_,_,_=>none
  | n+1,yield_,q0,x_v10,x_v11 =>
    (bif decide (x_v10<((q0.length:Nat):Int)) then
    ((Ba q0 x_v10).bind fun x9 =>
    ((yield_ x_v11 x9).bind fun x13 =>
    (bif (!x13.2) then
    some (Ex.ret x13.1)
    else
    AJ n yield_ q0 (IntKind.i64.wrap (x_v10+1)) x13.1)))
    else
    some (Ex.go x_v11))
def Be {σ:Type} (n:Nat) (yield_:σ→Int→Option (σ×Bool)) (s:σ) (q0:List Int):Option σ :=
  ((AJ n yield_ q0 0 s).bind fun o_13=>Ex.bind o_13 (fun r=>some r) fun s_14 =>
  some s_14)
def Db (n:Nat) (s:List Int):Option ((List Int)) :=
  some (s)
def Bi:Nat→Aj→As→(List Int)→Int→Option (List Int)
  | 0,_,_,_,_=>none
  | n+1,y,broken,x_v10,x_v11 =>
    (bif decide (x_v11<((y.buses.length:Nat):Int)) then
    ((JO 8 x_v11).bind fun x14 =>
    ((Ba broken.toL x_v11).bind fun x15 =>
    (bif (!x15) then
    ((Ji x_v10 ([x_v11]:List Int)).bind fun x20 =>
    Bi n y broken x20 (IntKind.i64.wrap (x_v11+1)))
    else
    Bi n y broken x_v10 (IntKind.i64.wrap (x_v11+1)))))
    else
    some x_v10)
def Cw (n:Nat) (y:Aj) (broken:As):Option ((List Int)) :=
  ((Bi n y broken ([]:List Int) 0).bind fun o_34 =>
  ((AD n o_34 (fun(y0:Int)(y1:Int)=>Bp n y0 y1 y)).bind fun x24 =>
  ((Db n x24).bind fun x26 =>
  some (x26))))
def BR (n:Nat) (n_:BE) (b:Int) (c:Int):Option Bool :=
  ((Ba n_.lane b).bind fun x10 =>
  ((Ba n_.lane c).bind fun x15 =>
  (bif (x10 == x15) then
  ((JO 8 b).bind fun x21 =>
  ((Ba n_.tm.toL b).bind fun x22 =>
  ((JO 8 c).bind fun x25 =>
  ((Ba n_.tm.toL c).bind fun x26 =>
  some (decide (x22<x26))))))
  else
  some false)))
def AI (n:Nat) (c:Int) (d:Int) (q0:BE):Option Int :=
  ((JO 8 c).bind fun x8 =>
  ((Ba q0.tm.toL c).bind fun x9 =>
  ((JO 8 d).bind fun x12 =>
  ((Ba q0.tm.toL d).bind fun x13 =>
  some (IntKind.i64.wrap (x9-x13))))))
def AF:Nat→BE→Int→(List Int)→Int→As→Option ((List Int)×As)
  | 0,_,_,_,_,_=>none
  | n+1,n_,x15,x_v10,x_v11,x_v12 =>
    (bif decide (x_v11<((n_.yard.buses.length:Nat):Int)) then
    ((((JO 8 x_v11).bind fun x24 =>
    ((Ba x_v12.toL x_v11).bind fun x25 =>
    (bif (!x25) then
    (((fun(y0:Int)(y1:Int)=>BR n n_ y0 y1) x_v11 x15).bind fun x31 =>
    some x31)
    else
    some false))):Option Bool).bind fun o_122 =>
    (bif o_122 then
    ((Ji x_v10 ([x_v11]:List Int)).bind fun x36 =>
    ((JO 8 x_v11).bind fun x38 =>
    ((As.setI x_v12 x_v11 true).bind fun u_186 =>
    AF n n_ x15 x36 (IntKind.i64.wrap (x_v11+1)) u_186)))
    else
    AF n n_ x15 x_v10 (IntKind.i64.wrap (x_v11+1)) x_v12))
    else
    some (x_v10,x_v12))
def Bv (n:Nat) (n_:BE):Option (List (List Int)) :=
  ((Cw n n_.yard n_.broken).bind fun x14 =>
  ((Be n (fun(s:(List (List Int))×As)(x15:Int)=>((((AF n n_ x15 ([]:List Int) 0 s.2).bind fun o_104 =>
  ((AD n o_104.1 (fun(y0:Int)(y1:Int)=>AI n y0 y1 n_)).bind fun x42 =>
  ((JO 8 x15).bind fun x44 =>
  ((As.setI o_104.2 x15 true).bind fun u_233 =>
  ((Ji s.1 ([x42]:List (List Int))).bind fun x48 =>
  some (x48,u_233)))))):Option ((List (List Int))×As)).bind fun s1=>some (s1,true))) (([]:List (List Int)),(As.mk false false false false false false false false)) x14).bind fun o_65 =>
  some o_65.1))
def Cy (n:Nat) (y:Aj) (lanes:List Int) (order:List Int) (broken:List Int):Option ((List Int)×Int) :=
  ((Cv n y lanes order broken).bind fun x18 =>
  (bif (x18.2 != 0) then
  some (([]:List Int),x18.2)
  else
  ((Bv n x18.1).bind fun x25 =>
  ((Bq n x25).bind fun x26 =>
  ((Mu x26).bind fun u_80 =>
  some (u_80,0))))))
def Es (n:Nat) (y:Aj) (lanes:List Int) (order:List Int) (broken:List Int):Option ((List (List Int))×Int) :=
  ((Cv n y lanes order broken).bind fun x17 =>
  (bif (x17.2 != 0) then
  some (([]:List (List Int)),x17.2)
  else
  ((Bv n x17.1).bind fun x24 =>
  some (x24,0))))
def Bw:Nat→Aj→(List Int)→As→(List AB)→Int→Option (List AB)
  | 0,_,_,_,_,_=>none
  | n+1,y,lanes,broken,x_v10,x_v11 =>
    (bif decide (x_v11<((y.buses.length:Nat):Int)) then
    ((JO 8 x_v11).bind fun x50 =>
    ((Ba broken.toL x_v11).bind fun x51 =>
    (bif x51 then
    ((Ba lanes x_v11).bind fun x55 =>
    ((Ba x_v10 x55).bind fun x57 =>
    ((Ji x57.buses ([x_v11]:List Int)).bind fun x65 =>
    ((upd x_v10 x55 ({ x57 with buses:=x65 }:AB)).bind fun u_307 =>
    Bw n y lanes broken u_307 (IntKind.i64.wrap (x_v11+1))))))
    else
    Bw n y lanes broken x_v10 (IntKind.i64.wrap (x_v11+1)))))
    else
    some x_v10)
def Di (n:Nat) (y:Aj) (lanes:List Int) (broken:As):Option (List AB) :=
  ((mk ((y.room.length:Nat):Int) ((AB.mk ([]:List Int) 0):AB)).bind fun x15 =>
  ((Cw n y broken).bind fun x18 =>
  ((Be n (fun(s:List AB)(x19:Int)=>((((Ba lanes x19).bind fun x23 =>
  ((Ba s x23).bind fun x25 =>
  ((Ji x25.buses ([x19]:List Int)).bind fun x33 =>
  ((upd s x23 ({ x25 with buses:=x33 }:AB)).bind fun u_144 =>
  ((upd u_144 x23 ({ ({ x25 with buses:=x33 }:AB) with down:=IntKind.i64.wrap (x25.down+1) }:AB)).bind fun u_169 =>
  some u_169))))):Option (List AB)).bind fun s1=>some (s1,true))) x15 x18).bind fun o_65 =>
  ((Bw n y lanes broken o_65 0).bind fun o_223 =>
  some o_223))))
mutual
def BF:Nat→As→Int→Aj→(List As)→Int→Option (List As)
  | 0,_,_,_,_,_=>none
  | n+1,s_,more,y,x_v10,x_v11 =>
    (((bif decide (x_v11<((y.buses.length:Nat):Int)) then
    some (decide (more>0))
    else
    some false):Option Bool).bind fun o_61 =>
    (bif o_61 then
    ((JO 8 x_v11).bind fun x29 =>
    ((As.setI s_ x_v11 true).bind fun u_95 =>
    ((lane_Yard_breaks_1 n u_95 (IntKind.i64.wrap (x_v11+1)) (IntKind.i64.wrap (more-1)) x_v10 y).bind fun x36 =>
    BF n s_ more y x36 (IntKind.i64.wrap (x_v11+1)))))
    else
    some x_v10))
def lane_Yard_breaks_1:Nat→As→Int→Int→(List As)→Aj→Option (List As)
  | 0,_,_,_,_,_=>none
  | n+1,s_,from_,more,out,y =>
    ((Ji out ([s_]:List As)).bind fun x14 =>
    ((BF n s_ more y x14 from_).bind fun o_48 =>
    some o_48))
end
def DC (n:Nat) (y:Aj):Option (List As) :=
  ((lane_Yard_breaks_1 n (As.mk false false false false false false false false) 0 y.broken ([]:List As) y).bind fun x9 =>
  some x9)
def Cl (n:Nat) (b:B5):Option Int :=
  some b.lo
def C2 (n:Nat) (b:B5):Option Int :=
  some b.hi
def Kq (n:Nat)  : Option (List DM) :=
  some ([(DM.mk (fun(y0:B5)=>Cl n y0)),(DM.mk (fun(y0:B5)=>C2 n y0))]:List DM)
mutual
def By:Nat→Br→AB→Aj→Int→(List DM)→Int→Ao→Int→(List (Br×AY))→Option (Ao×Int×(List (Br×AY)))
  | 0,_,_,_,_,_,_,_,_,_=>none
  | n+1,s_,c,y,x35,x37,x_v10,x_v11,x_v12,x_v13 =>
    (bif decide (x_v10<((x37.length:Nat):Int)) then
    ((Ba x37 x_v10).bind fun x42 =>
    ((Ba y.buses x35).bind fun x49 =>
    ((x42.tm x49).bind fun x51 =>
    (((bif decide (s_.behind<c.down) then
    ((CI n ([s_.last,x51]:List Int)).bind fun x67 =>
    some x67)
    else
    some s_.last):Option Int).bind fun o_184 =>
    ((lane_Yard_worst_1 n (Br.mk (IntKind.i64.wrap (s_.behind+1)) o_184) c x_v13 y).bind fun x71 =>
    (((bif decide (x51≤s_.last) then
    some (IntKind.i64.wrap (x71.1.many+1))
    else
    some x71.1.many):Option Int).bind fun o_249 =>
    (((bif (x_v10 == 0) then
    some true
    else
    some (decide (o_249>x_v12))):Option Bool).bind fun o_263 =>
    (bif o_263 then
    ((JO 8 x35).bind fun x93 =>
    ((Ao.setI x71.1.tm x35 x51).bind fun u_292 =>
    By n s_ c y x35 x37 (IntKind.i64.wrap (x_v10+1)) u_292 o_249 x71.2))
    else
    By n s_ c y x35 x37 (IntKind.i64.wrap (x_v10+1)) x_v11 x_v12 x71.2))))))))
    else
    some (x_v11,x_v12,x_v13))
def lane_Yard_worst_1:Nat→Br→AB→(List (Br×AY))→Aj→Option (AY×(List (Br×AY)))
  | 0,_,_,_,_=>none
  | n+1,s_,c,known,y =>
    (bif (s_.behind == ((c.buses.length:Nat):Int)) then
    some ((AY.mk 0 (Ao.mk 0 0 0 0 0 0 0 0)),known)
    else
    ((some (Gh known s_ ((AY.mk 0 (Ao.mk 0 0 0 0 0 0 0 0)):AY))).bind fun x26 =>
    (bif x26.2 then
    some (x26.1,known)
    else
    ((Ba c.buses s_.behind).bind fun x35 =>
    ((Kq n ).bind fun x37 =>
    ((By n s_ c y x35 x37 0 (Ao.mk 0 0 0 0 0 0 0 0) 0 known).bind fun o_98 =>
    some ((AY.mk o_98.2.1 o_98.1),(H0 o_98.2.2 s_ (AY.mk o_98.2.1 o_98.1)))))))))
end
def DY (n:Nat) (y:Aj) (c:AB):Option AY :=
  ((lane_Yard_worst_1 n (Br.mk 0 (-1)) c ([]:List (Br×AY)) y).bind fun x11 =>
  some x11.1)
def BM:Nat→AB→AY→Int→Ao→Option Ao
  | 0,_,_,_,_=>none
  | n+1,x30,x34,x_v30,x_v31 =>
    (bif decide (x_v30<((x30.buses.length:Nat):Int)) then
    ((Ba x30.buses x_v30).bind fun x44 =>
    ((JO 8 x44).bind fun x49 =>
    ((Ba x34.tm.toL x44).bind fun x50 =>
    ((JO 8 x44).bind fun x51 =>
    ((Ao.setI x_v31 x44 x50).bind fun u_213 =>
    BM n x30 x34 (IntKind.i64.wrap (x_v30+1)) u_213)))))
    else
    some x_v31)
def BN:Nat→Aj→(List AB)→Int→Int→Ao→Option (Int×Ao)
  | 0,_,_,_,_,_=>none
  | n+1,y,x26,x_v20,x_v21,x_v22 =>
    (bif decide (x_v20<((x26.length:Nat):Int)) then
    ((Ba x26 x_v20).bind fun x30 =>
    ((DY n y x30).bind fun x34 =>
    ((BM n x30 x34 0 x_v22).bind fun o_170 =>
    BN n y x26 (IntKind.i64.wrap (x_v20+1)) (IntKind.i64.wrap (x_v21+x34.many)) o_170)))
    else
    some (x_v21,x_v22))
def Bz:Nat→Aj→(List Int)→(List As)→Int→Int→Ao→As→Option (Int×Ao×As)
  | 0,_,_,_,_,_,_,_=>none
  | n+1,y,lanes,x17,x_v10,x_v11,x_v12,x_v13 =>
    (bif decide (x_v10<((x17.length:Nat):Int)) then
    ((Ba x17 x_v10).bind fun x21 =>
    ((Di n y lanes x21).bind fun x26 =>
    ((BN n y x26 0 0 (Ao.mk 0 0 0 0 0 0 0 0)).bind fun o_104 =>
    (bif decide (o_104.1>x_v11) then
    Bz n y lanes x17 (IntKind.i64.wrap (x_v10+1)) o_104.1 o_104.2 x21
    else
    Bz n y lanes x17 (IntKind.i64.wrap (x_v10+1)) x_v11 x_v12 x_v13))))
    else
    some (x_v11,x_v12,x_v13))
def Et (n:Nat) (y:Aj) (lanes:List Int):Option (Ao×As×Int) :=
  ((DC n y).bind fun x17 =>
  ((Bz n y lanes x17 0 (-1) (Ao.mk 0 0 0 0 0 0 0 0) (As.mk false false false false false false false false)).bind fun o_42 =>
  some (o_42.2.1,o_42.2.2,o_42.1)))
def Ca (n:Nat) (b:Int) (q0:As) (q1:Aj):Option Int :=
  ((JO 8 b).bind fun x6 =>
  ((Ba q0.toL b).bind fun x7 =>
  (bif x7 then
  some 2001
  else
  ((Ba q1.buses b).bind fun x11 =>
  some x11.turn))))
def DR:Nat→(List Int)→Int→Option (Ex Int Unit)
  | 0,_,_=>none
  | n+1,vals,x_v10 =>
    (bif decide (x_v10<((vals.length:Nat):Int)) then
    ((Ba vals x_v10).bind fun x10 =>
    (bif (x10 != 0) then
    some (Ex.ret x10)
    else
    DR n vals (IntKind.i64.wrap (x_v10+1))))
    else
    some (Ex.go ()))
def Jd (n:Nat) (vals:List Int):Option Int :=
  ((DR n vals 0).bind fun o_8=>Ex.bind o_8 (fun r=>some r) fun s_9 =>
  some 0)
def Eu (n:Nat) (a:Int) (b:Int) (q0:Ao) (q1:Int→Option Int):Option Int :=
  ((JO 8 a).bind fun x8 =>
  ((Ba q0.toL a).bind fun x9 =>
  ((JO 8 b).bind fun x11 =>
  ((Ba q0.toL b).bind fun x12 =>
  ((q1 b).bind fun x16 =>
  ((q1 a).bind fun x19 =>
  ((Jd n ([IntKind.i64.wrap (x9-x12),IntKind.i64.wrap (x16-x19),IntKind.i64.wrap (a-b)]:List Int)).bind fun x25 =>
  some x25)))))))
def Da:Nat→Aj→(Ao×As×Int)→(List Int)→(List Int)→Int→Option ((List Int)×(List Int))
  | 0,_,_,_,_,_=>none
  | n+1,y,x25,x_v10,x_v11,x_v12 =>
    (bif decide (x_v12<((y.buses.length:Nat):Int)) then
    ((Ji x_v10 ([x_v12]:List Int)).bind fun x38 =>
    ((JO 8 x_v12).bind fun x40 =>
    ((Ba x25.2.1.toL x_v12).bind fun x41 =>
    (bif x41 then
    ((Ji x_v11 ([x_v12]:List Int)).bind fun x45 =>
    Da n y x25 x38 x45 (IntKind.i64.wrap (x_v12+1)))
    else
    Da n y x25 x38 x_v11 (IntKind.i64.wrap (x_v12+1))))))
    else
    some (x_v10,x_v11))
def Je (n:Nat) (y:Aj) (lanes:List Int):Option ((List Int)×(List Int)×Int×Int) :=
  ((BU n y).bind fun x14 =>
  (bif (x14 != 0) then
  some (([]:List Int),([]:List Int),0,x14)
  else
  ((Cu n y lanes).bind fun x20 =>
  (bif (!x20) then
  some (([]:List Int),([]:List Int),0,2)
  else
  ((Et n y lanes).bind fun x25 =>
  ((Da n y x25 ([]:List Int) ([]:List Int) 0).bind fun o_99 =>
  ((AD n o_99.1 (fun(y0:Int)(y1:Int)=>Eu n y0 y1 x25.1 (fun(y0:Int)=>Ca n y0 x25.2.1 y))).bind fun x50 =>
  some (x50,o_99.2,x25.2.2,0))))))))
def Dy:Nat→AB→Int→As→As→Option (As×As)
  | 0,_,_,_,_=>none
  | n+1,x31,x_v30,x_v31,x_v32 =>
    (bif decide (x_v30<((x31.buses.length:Nat):Int)) then
    ((Ba x31.buses x_v30).bind fun x39 =>
    ((JO 8 x39).bind fun x48 =>
    ((As.setI x_v31 x39 true).bind fun us0 =>
    ((JO 8 x39).bind fun x50 =>
    ((As.setI x_v32 x39 (decide (x_v30≥x31.down))).bind fun us1 =>
    Dy n x31 (IntKind.i64.wrap (x_v30+1)) us0 us1)))))
    else
    some (x_v31,x_v32))
def C9:Nat→Int→Aj→(List AB)→Int→Int→(List (Ga×Int))→Option (Int×(List (Ga×Int)))
  | 0,_,_,_,_,_,_=>none
  | n+1,many,y,x27,x_v20,x_v21,x_v22 =>
    (bif decide (x_v20<((x27.length:Nat):Int)) then
    ((Ba x27 x_v20).bind fun x31 =>
    ((Dy n x31 0 (As.mk false false false false false false false false) (As.mk false false false false false false false false)).bind fun o_134 =>
    ((some (Gh x_v22 (Ga.mk o_134.1 o_134.2) (0:Int))).bind fun x55 =>
    (bif (!x55.2) then
    ((DY n y x31).bind fun x64 =>
    ((some (Gh (H0 x_v22 (Ga.mk o_134.1 o_134.2) x64.many) (Ga.mk o_134.1 o_134.2) (0:Int))).bind fun x69 =>
    C9 n many y x27 (IntKind.i64.wrap (x_v20+1)) (IntKind.i64.wrap (x_v21+x69.1)) (H0 x_v22 (Ga.mk o_134.1 o_134.2) x64.many)))
    else
    ((some (Gh x_v22 (Ga.mk o_134.1 o_134.2) (0:Int))).bind fun x69 =>
    C9 n many y x27 (IntKind.i64.wrap (x_v20+1)) (IntKind.i64.wrap (x_v21+x69.1)) x_v22)))))
    else
    some (x_v21,x_v22))
def CA:Nat→(List Int)→Bool→Int→(List As)→Aj→Int→Int→(List (Ga×Int))→Option (Int×(List (Ga×Int)))
  | 0,_,_,_,_,_,_,_,_=>none
  | n+1,l,found,many,breaks,y,x_v10,x_v11,x_v12 =>
    (bif decide (x_v10<((breaks.length:Nat):Int)) then
    ((Ba breaks x_v10).bind fun x22 =>
    ((Di n y l x22).bind fun x27 =>
    ((C9 n many y x27 0 0 x_v12).bind fun o_84 =>
    ((CI n ([x_v11,o_84.1]:List Int)).bind fun x75 =>
    (bif found then
    (bif decide (x75≥many) then
    some (x75,o_84.2)
    else
    CA n l found many breaks y (IntKind.i64.wrap (x_v10+1)) x75 o_84.2)
    else
    CA n l found many breaks y (IntKind.i64.wrap (x_v10+1)) x75 o_84.2)))))
    else
    some (x_v11,x_v12))
def HF (n:Nat) (l:List Int) (found:Bool) (many:Int) (breaks:List As) (y:Aj) (known:List (Ga×Int)):Option (Int×(List (Ga×Int))) :=
  ((CA n l found many breaks y 0 0 known).bind fun o_21 =>
  some (o_21.1,o_21.2))
mutual
def CB:Nat→(List Int)→(List Int)→Aj→(List As)→(List Int)→Int→Bool→Int→(List Int)→(List (Ga×Int))→Option ((List Int)×Bool×Int×(List Int)×(List (Ga×Int)))
  | 0,_,_,_,_,_,_,_,_,_,_=>none
  | n+1,l,room,y,breaks,x_v10,x_v11,x_v12,x_v13,x_v14,x_v15 =>
    (bif decide (x_v11<((room.length:Nat):Int)) then
    ((Ba x_v10 x_v11).bind fun x37 =>
    (bif decide (x37>0) then
    ((Ba x_v10 x_v11).bind fun x42 =>
    ((Ba x_v10 x_v11).bind fun x45 =>
    ((upd x_v10 x_v11 (IntKind.i64.wrap (x42-1))).bind fun u_235 =>
    ((Ji l ([x_v11]:List Int)).bind fun x50 =>
    ((lane_Best_2 n x50 x_v12 x_v13 x_v14 u_235 y breaks x_v15).bind fun x51 =>
    ((Ba x51.2.2.2.1 x_v11).bind fun x54 =>
    ((Ba x51.2.2.2.1 x_v11).bind fun x57 =>
    ((upd x51.2.2.2.1 x_v11 (IntKind.i64.wrap (x54+1))).bind fun u_331 =>
    CB n l room y breaks u_331 (IntKind.i64.wrap (x_v11+1)) x51.1 x51.2.1 x51.2.2.1 x51.2.2.2.2))))))))
    else
    CB n l room y breaks x_v10 (IntKind.i64.wrap (x_v11+1)) x_v12 x_v13 x_v14 x_v15))
    else
    some (x_v10,x_v12,x_v13,x_v14,x_v15))
def lane_Best_2:Nat→(List Int)→Bool→Int→(List Int)→(List Int)→Aj→(List As)→(List (Ga×Int))→Option (Bool×Int×(List Int)×(List Int)×(List (Ga×Int)))
  | 0,_,_,_,_,_,_,_,_=>none
  | n+1,l,found,many,best,room,y,breaks,known =>
    (bif (((l.length:Nat):Int) == ((y.buses.length:Nat):Int)) then
    ((HF n l found many breaks y known).bind fun x19 =>
    (((bif (!found) then
    some true
    else
    some (decide (x19.1<many))):Option Bool).bind fun o_63 =>
    (((bif o_63 then
    ((Bh n l).bind fun x28 =>
    some (true,x19.1,x28))
    else
    some (found,many,best)):Option (Bool×Int×(List Int))).bind fun o_79 =>
    some (o_79.1,o_79.2.1,o_79.2.2,room,x19.2))))
    else
    ((CB n l room y breaks room 0 found many best known).bind fun o_166 =>
    some (o_166.2.1,o_166.2.2.1,o_166.2.2.2.1,o_166.1,o_166.2.2.2.2)))
end
def Kr (n:Nat) (y:Aj):Option ((List Int)×Int×Int) :=
  ((BU n y).bind fun x14 =>
  (bif (x14 != 0) then
  some (([]:List Int),0,x14)
  else
  ((DC n y).bind fun x19 =>
  ((Bh n y.room).bind fun x22 =>
  ((lane_Best_2 n ([]:List Int) false 0 ([]:List Int) x22 y x19 ([]:List (Ga×Int))).bind fun x27 =>
  (bif (!x27.1) then
  some (([]:List Int),0,9)
  else
  some (x27.2.2.1,x27.2.1,0)))))))
def G4 (n:Nat)  : Option Aj :=
  some (Aj.mk ([2,2]:List Int) ([B5.mk 100 120 40,B5.mk 110 130 20,B5.mk 125 140 30,B5.mk 150 160 10]:List B5) 0)
def Dz:Nat→(List Int)→(List Int)→Int→Option (Ex Bool Unit)
  | 0,_,_,_=>none
  | n+1,a,b,x_v10 =>
    (bif decide (x_v10<((a.length:Nat):Int)) then
    ((Ba a x_v10).bind fun x19 =>
    ((Ba b x_v10).bind fun x23 =>
    (bif (x19 != x23) then
    some (Ex.ret false)
    else
    Dz n a b (IntKind.i64.wrap (x_v10+1)))))
    else
    some (Ex.go ()))
def FB (n:Nat) (a:List Int) (b:List Int):Option Bool :=
  (bif (((a.length:Nat):Int) != ((b.length:Nat):Int)) then
  some false
  else
  ((Dz n a b 0).bind fun o_11=>Ex.bind o_11 (fun r=>some r) fun s_12 =>
  some true))
def DD (n:Nat)  : Option Bool :=
  ((G4 n ).bind fun x11 =>
  ((Cy n x11 ([0,0,1,1]:List Int) ([0,1,2,3]:List Int) ([]:List Int)).bind fun x14 =>
  ((G4 n ).bind fun x18 =>
  ((Je n x18 ([0,1,1,0]:List Int)).bind fun x20 =>
  ((G4 n ).bind fun x26 =>
  ((Kr n x26).bind fun x27 =>
  (bif (x14.2 == 0) then
  ((FB n x14.1 ([0,2]:List Int)).bind fun x36 =>
  (bif x36 then
  (bif (x20.2.2.2 == 0) then
  (bif (x20.2.2.1 == 2) then
  (bif (x27.2.2 == 0) then
  (bif (x27.2.1 == 2) then
  ((FB n x27.1 ([0,0,1,1]:List Int)).bind fun x57 =>
  some x57)
  else
  some false)
  else
  some false)
  else
  some false)
  else
  some false)
  else
  some false))
  else
  some false)))))))
def CW (n:Nat) (l:List Int):Option (List Int) :=
  ((Ji ([]:List Int) l).bind fun x4 =>
  some x4)
def D0:Nat→Aj→(List B5)→Int→Option (List B5)
  | 0,_,_,_=>none
  | n+1,y,x_v10,x_v11 =>
    (bif decide (x_v11<((y.buses.length:Nat):Int)) then
    ((Ba y.buses x_v11).bind fun x22 =>
    ((Ji x_v10 ([x22]:List B5)).bind fun x34 =>
    D0 n y x34 (IntKind.i64.wrap (x_v11+1))))
    else
    some x_v10)
def FC (n:Nat) (y:Aj):Option Aj :=
  ((CW n y.room).bind fun x8 =>
  ((D0 n y ([]:List B5) 0).bind fun o_50 =>
  some (Aj.mk x8 o_50 y.broken)))
def FD (n:Nat) (n_:Int) (low:Int) (high:Int):Option Bool :=
  (bif decide (n_≥low) then
  some (decide (n_≤high))
  else
  some false)
def CO:Nat→Aj→Int→Option (Ex Int Unit)
  | 0,_,_=>none
  | n+1,y,x_v10 =>
    (bif decide (x_v10<((y.room.length:Nat):Int)) then
    ((Ba y.room x_v10).bind fun x37 =>
    ((FD n x37 0 8).bind fun x39 =>
    (bif (!x39) then
    some (Ex.ret 1)
    else
    CO n y (IntKind.i64.wrap (x_v10+1)))))
    else
    some (Ex.go ()))
def CP:Nat→Aj→Int→B5→Int→Option (Ex Int Unit)
  | 0,_,_,_,_=>none
  | n+1,y,x_v20,x51,x_v30 =>
    (bif decide (x_v30<x_v20) then
    ((Ba y.buses x_v30).bind fun x78 =>
    (bif (x78.turn == x51.turn) then
    some (Ex.ret 1)
    else
    CP n y x_v20 x51 (IntKind.i64.wrap (x_v30+1))))
    else
    some (Ex.go ()))
def CQ:Nat→Aj→Int→Option (Ex Int Unit)
  | 0,_,_=>none
  | n+1,y,x_v20 =>
    (bif decide (x_v20<((y.buses.length:Nat):Int)) then
    ((Ba y.buses x_v20).bind fun x51 =>
    ((((FD n x51.lo 0 x51.hi).bind fun x57 =>
    (bif (!x57) then
    some true
    else
    (bif decide (x51.hi>2000) then
    some true
    else
    ((FD n x51.turn 0 2000).bind fun x67 =>
    some (!x67))))):Option Bool).bind fun o_162 =>
    (bif o_162 then
    some (Ex.ret 1)
    else
    ((CP n y x_v20 x51 0).bind fun o_211=>Ex.bind o_211 (fun r=>some (Ex.ret r)) fun s_212 =>
    CQ n y (IntKind.i64.wrap (x_v20+1))))))
    else
    some (Ex.go ()))
def F7 (n:Nat) (y:Aj):Option Int :=
  (((bif decide (((y.room.length:Nat):Int)>3) then
  some true
  else
  some (decide (((y.buses.length:Nat):Int)>8))):Option Bool).bind fun o_14 =>
  (bif o_14 then
  some 3
  else
  (((bif decide (((y.room.length:Nat):Int)<1) then
  some true
  else
  ((FD n y.broken 0 2).bind fun x24 =>
  some (!x24))):Option Bool).bind fun o_33 =>
  (bif o_33 then
  some 1
  else
  ((CO n y 0).bind fun o_65=>Ex.bind o_65 (fun r=>some r) fun s_66 =>
  ((CQ n y 0).bind fun o_120=>Ex.bind o_120 (fun r=>some r) fun s_121 =>
  some 0))))))
def Iv (n:Nat) (y:Aj):Option Int :=
  ((F7 n y).bind fun x4 =>
  some x4)
def G5 (n:Nat) (y:Aj):Option Bool :=
  ((G3 n y).bind fun x4 =>
  (bif x4 then
  ((F7 n y).bind fun x7 =>
  some (x7 == 0))
  else
  some false))
def Ea:Nat→(List Int)→Int→Int→Option (Ex Bool Unit)
  | 0,_,_,_=>none
  | n+1,l,n_,x_v10 =>
    (bif decide (x_v10<((l.length:Nat):Int)) then
    ((Ba l x_v10).bind fun x14 =>
    (bif (x14 == n_) then
    some (Ex.ret true)
    else
    Ea n l n_ (IntKind.i64.wrap (x_v10+1))))
    else
    some (Ex.go ()))
def GZ (n:Nat) (l:List Int) (n_:Int):Option Bool :=
  ((Ea n l n_ 0).bind fun o_6=>Ex.bind o_6 (fun r=>some r) fun s_7 =>
  some false)
def BV:Nat→Aj→(List Int)→Int→Int→Option (Ex Bool Unit)
  | 0,_,_,_,_=>none
  | n+1,y,order,x_v10,x_v20 =>
    (bif decide (x_v20<x_v10) then
    ((Ba order x_v20).bind fun x48 =>
    ((Ba y.buses x48).bind fun x50 =>
    ((Ba order x_v10).bind fun x57 =>
    ((Ba y.buses x57).bind fun x59 =>
    (bif decide (x50.lo>x59.hi) then
    some (Ex.ret false)
    else
    BV n y order x_v10 (IntKind.i64.wrap (x_v20+1)))))))
    else
    some (Ex.go ()))
def BW:Nat→Aj→(List Int)→Int→Option (Ex Bool Unit)
  | 0,_,_,_=>none
  | n+1,y,order,x_v10 =>
    (bif decide (x_v10<((order.length:Nat):Int)) then
    ((((Ba order x_v10).bind fun x21 =>
    ((FD n x21 0 (IntKind.i64.wrap (((y.buses.length:Nat):Int)-1))).bind fun x27 =>
    (bif (!x27) then
    some true
    else
    ((Mw order x_v10).bind fun x32 =>
    ((Ba order x_v10).bind fun x35 =>
    ((GZ n x32 x35).bind fun x37 =>
    some x37)))))):Option Bool).bind fun o_39 =>
    (bif o_39 then
    some (Ex.ret false)
    else
    ((BV n y order x_v10 0).bind fun o_119=>Ex.bind o_119 (fun r=>some (Ex.ret r)) fun s_120 =>
    BW n y order (IntKind.i64.wrap (x_v10+1)))))
    else
    some (Ex.go ()))
def Ev (n:Nat) (y:Aj) (order:List Int):Option Bool :=
  (bif (((order.length:Nat):Int) != ((y.buses.length:Nat):Int)) then
  some false
  else
  ((BW n y order 0).bind fun o_22=>Ex.bind o_22 (fun r=>some r) fun s_23 =>
  some true))
def Cm:Nat→Aj→(List Int)→(List Int)→Int→Option (Ex Bool (List Int))
  | 0,_,_,_,_=>none
  | n+1,y,lanes,x_v10,x_v11 =>
    (bif decide (x_v11<((lanes.length:Nat):Int)) then
    ((Ba lanes x_v11).bind fun x25 =>
    ((FD n x25 0 (IntKind.i64.wrap (((y.room.length:Nat):Int)-1))).bind fun x31 =>
    (bif (!x31) then
    some (Ex.ret false)
    else
    ((Ba lanes x_v11).bind fun x36 =>
    ((Ba x_v10 x36).bind fun x38 =>
    ((Ba x_v10 x36).bind fun x41 =>
    ((upd x_v10 x36 (IntKind.i64.wrap (x38+1))).bind fun u_134 =>
    ((Ba lanes x_v11).bind fun x45 =>
    ((Ba u_134 x45).bind fun x47 =>
    ((Ba lanes x_v11).bind fun x53 =>
    ((Ba y.room x53).bind fun x55 =>
    (bif decide (x47>x55) then
    some (Ex.ret false)
    else
    Cm n y lanes u_134 (IntKind.i64.wrap (x_v11+1))))))))))))))
    else
    some (Ex.go x_v10))
def EW (n:Nat) (y:Aj) (lanes:List Int):Option Bool :=
  (bif (((lanes.length:Nat):Int) != ((y.buses.length:Nat):Int)) then
  some false
  else
  ((mk ((y.room.length:Nat):Int) (0:Int)).bind fun x16 =>
  ((Cm n y lanes x16 0).bind fun o_44=>Ex.bind o_44 (fun r=>some r) fun s_45 =>
  some true)))
def BA:Nat→Aj→(List Int)→Int→Option (Ex Bool Unit)
  | 0,_,_,_=>none
  | n+1,y,broken,x_v10 =>
    (bif decide (x_v10<((broken.length:Nat):Int)) then
    ((Ba broken x_v10).bind fun x14 =>
    ((FD n x14 0 (IntKind.i64.wrap (((y.buses.length:Nat):Int)-1))).bind fun x20 =>
    (bif (!x20) then
    some (Ex.ret false)
    else
    (bif decide (x_v10>0) then
    ((Ba broken x_v10).bind fun x28 =>
    ((Ba broken (IntKind.i64.wrap (x_v10-1))).bind fun x33 =>
    (bif decide (x28≤x33) then
    some (Ex.ret false)
    else
    BA n y broken (IntKind.i64.wrap (x_v10+1)))))
    else
    BA n y broken (IntKind.i64.wrap (x_v10+1))))))
    else
    some (Ex.go ()))
def Ew (n:Nat) (y:Aj) (broken:List Int):Option Bool :=
  ((BA n y broken 0).bind fun o_17=>Ex.bind o_17 (fun r=>some r) fun s_18 =>
  some (decide (((broken.length:Nat):Int)≤y.broken)))
def Cz:Nat→Aj→(List Int)→Int→Option (List Int)
  | 0,_,_,_=>none
  | n+1,y,x_v20,x_v21 =>
    (((bif decide (x_v21>0) then
    ((Ba x_v20 x_v21).bind fun x32 =>
    ((Ba y.buses x32).bind fun x34 =>
    ((Ba x_v20 (IntKind.i64.wrap (x_v21-1))).bind fun x42 =>
    ((Ba y.buses x42).bind fun x44 =>
    some (decide (x34.turn<x44.turn))))))
    else
    some false):Option Bool).bind fun o_105 =>
    (bif o_105 then
    ((Ba x_v20 (IntKind.i64.wrap (x_v21-1))).bind fun x59 =>
    ((Ba x_v20 x_v21).bind fun x63 =>
    ((Ba x_v20 x_v21).bind fun x65 =>
    ((upd x_v20 x_v21 x59).bind fun u_225 =>
    ((Ba u_225 (IntKind.i64.wrap (x_v21-1))).bind fun x66 =>
    ((upd u_225 (IntKind.i64.wrap (x_v21-1)) x63).bind fun u_249 =>
    Cz n y u_249 (IntKind.i64.wrap (x_v21-1))))))))
    else
    some x_v20))
def C0:Nat→Aj→(List Int)→(List Int)→Int→Option (List Int)
  | 0,_,_,_,_=>none
  | n+1,y,broken,x_v10,x_v11 =>
    (bif decide (x_v11<((y.buses.length:Nat):Int)) then
    ((GZ n broken x_v11).bind fun x17 =>
    (bif x17 then
    C0 n y broken x_v10 (IntKind.i64.wrap (x_v11+1))
    else
    ((Ji x_v10 ([x_v11]:List Int)).bind fun x21 =>
    ((Cz n y x21 (IntKind.i64.wrap (((x21.length:Nat):Int)-1))).bind fun o_92 =>
    C0 n y broken o_92 (IntKind.i64.wrap (x_v11+1))))))
    else
    some x_v10)
def G6 (n:Nat) (y:Aj) (broken:List Int):Option (List Int) :=
  ((C0 n y broken ([]:List Int) 0).bind fun o_29 =>
  some o_29)
def BO:Nat→(List Int)→(List Int)→Int→Int→(List (List Int))→(List Int)→Int→Option ((List (List Int))×(List Int))
  | 0,_,_,_,_,_,_,_=>none
  | n+1,lanes,order,x_v12,x30,x_v20,x_v21,x_v22 =>
    (((bif decide (x_v22<((order.length:Nat):Int)) then
    ((Ba order x_v22).bind fun x39 =>
    some (x39 != x30))
    else
    some false):Option Bool).bind fun o_136 =>
    (bif o_136 then
    ((Ba order x_v22).bind fun x48 =>
    ((((Ba lanes x48).bind fun x52 =>
    ((Ba lanes x30).bind fun x56 =>
    (bif (x52 == x56) then
    ((GZ n x_v21 x48).bind fun x62 =>
    some (x_v21,(!x62)))
    else
    some (x_v21,false)))):Option ((List Int)×Bool)).bind fun o_183 =>
    (bif o_183.2 then
    ((Ba x_v20 x_v12).bind fun x69 =>
    ((Ji x69 ([x48]:List Int)).bind fun x73 =>
    ((Ba x_v20 x_v12).bind fun x74 =>
    ((upd x_v20 x_v12 x73).bind fun u_300 =>
    ((Ji o_183.1 ([x48]:List Int)).bind fun x78 =>
    BO n lanes order x_v12 x30 u_300 x78 (IntKind.i64.wrap (x_v22+1)))))))
    else
    BO n lanes order x_v12 x30 x_v20 o_183.1 (IntKind.i64.wrap (x_v22+1)))))
    else
    some (x_v20,x_v21)))
def Cn:Nat→(List Int)→(List Int)→(List Int)→(List (List Int))→(List Int)→Int→Option ((List (List Int))×(List Int))
  | 0,_,_,_,_,_,_=>none
  | n+1,lanes,order,x18,x_v10,x_v11,x_v12 =>
    (bif decide (x_v12<((x18.length:Nat):Int)) then
    ((Ba x18 x_v12).bind fun x30 =>
    ((BO n lanes order x_v12 x30 x_v10 x_v11 0).bind fun o_123 =>
    ((Ji o_123.2 ([x30]:List Int)).bind fun x82 =>
    Cn n lanes order x18 o_123.1 x82 (IntKind.i64.wrap (x_v12+1)))))
    else
    some (x_v10,x_v11))
def EX (n:Nat) (y:Aj) (lanes:List Int) (order:List Int) (broken:List Int):Option (List (List Int)) :=
  ((G6 n y broken).bind fun x18 =>
  ((mk ((x18.length:Nat):Int) (([]:List Int):List Int)).bind fun x21 =>
  ((Cn n lanes order x18 x21 ([]:List Int) 0).bind fun o_70 =>
  some o_70.1)))
def G7 (n:Nat) (y:Aj) (lanes:List Int) (order:List Int) (broken:List Int):Option Int :=
  ((Iv n y).bind fun x11 =>
  (bif (x11 != 0) then
  some x11
  else
  ((EW n y lanes).bind fun x17 =>
  (bif (!x17) then
  some 2
  else
  ((Ev n y order).bind fun x22 =>
  (bif (!x22) then
  some 2
  else
  ((Ew n y broken).bind fun x28 =>
  (bif (!x28) then
  some 2
  else
  some 0))))))))
def Bo:Nat→((List (List Int))×Int)→(List (List Int))→Int→Option (Ex Bool Unit)
  | 0,_,_,_=>none
  | n+1,x42,x67,x_v10 =>
    (bif decide (x_v10<((x42.1.length:Nat):Int)) then
    ((Ba x42.1 x_v10).bind fun x85 =>
    ((Ba x67 x_v10).bind fun x89 =>
    ((FB n x85 x89).bind fun x91 =>
    (bif (!x91) then
    some (Ex.ret false)
    else
    Bo n x42 x67 (IntKind.i64.wrap (x_v10+1))))))
    else
    some (Ex.go ()))
def DE (n:Nat) (y:Aj) (lanes:List Int) (order:List Int) (broken:List Int):Option Bool :=
  ((((G3 n y).bind fun x15 =>
  (bif (!x15) then
  some true
  else
  (bif decide (((lanes.length:Nat):Int)>15) then
  some true
  else
  (bif decide (((order.length:Nat):Int)>15) then
  some true
  else
  some (decide (((broken.length:Nat):Int)>15)))))):Option Bool).bind fun o_14 =>
  (bif o_14 then
  ((DD n ).bind fun x32 =>
  some x32)
  else
  ((FC n y).bind fun x35 =>
  ((CW n lanes).bind fun x37 =>
  ((CW n order).bind fun x39 =>
  ((CW n broken).bind fun x41 =>
  ((Es n x35 x37 x39 x41).bind fun x42 =>
  ((G7 n y lanes order broken).bind fun x49 =>
  (bif (x49 != 0) then
  (((bif (x42.2 == x49) then
  (bif (((x42.1.length:Nat):Int) == 0) then
  ((DD n ).bind fun x61 =>
  some x61)
  else
  some false)
  else
  some false):Option Bool).bind fun o_148 =>
  some o_148)
  else
  ((EX n y lanes order broken).bind fun x67 =>
  (((bif (x42.2 != 0) then
  some true
  else
  some (((x42.1.length:Nat):Int) != ((x67.length:Nat):Int))):Option Bool).bind fun o_194 =>
  (bif o_194 then
  some false
  else
  ((Bo n x42 x67 0).bind fun o_216=>Ex.bind o_216 (fun r=>some r) fun s_217 =>
  ((DD n ).bind fun x93 =>
  some x93))))))))))))))
def EY (n:Nat) (words:List (IK .u16)) (at_:Int):Option Int :=
  (bif (((words.length:Nat):Int) == 0) then
  some 0
  else
  ((nz ((words.length:Nat):Int)).bind fun x12 =>
  ((Ba words (Int.tmod at_ ((words.length:Nat):Int))).bind fun x13 =>
  some (IntKind.i64.wrap x13.n))))
def CJ:Nat→(List Int)→(List Int)→Int→Option ((List Int)×(List Int))
  | 0,_,_,_=>none
  | n+1,x_v20,x_v21,x_v22 =>
    (((bif decide (x_v22>0) then
    ((Ba x_v21 x_v22).bind fun x71 =>
    ((Ba x_v21 (IntKind.i64.wrap (x_v22-1))).bind fun x76 =>
    some (decide (x71<x76))))
    else
    some false):Option Bool).bind fun o_201 =>
    (bif o_201 then
    ((Ba x_v20 (IntKind.i64.wrap (x_v22-1))).bind fun x90 =>
    ((Ba x_v20 x_v22).bind fun x94 =>
    ((Ba x_v20 x_v22).bind fun x96 =>
    ((upd x_v20 x_v22 x90).bind fun u_293 =>
    ((Ba u_293 (IntKind.i64.wrap (x_v22-1))).bind fun x97 =>
    ((upd u_293 (IntKind.i64.wrap (x_v22-1)) x94).bind fun u_317 =>
    ((Ba x_v21 (IntKind.i64.wrap (x_v22-1))).bind fun x106 =>
    ((Ba x_v21 x_v22).bind fun x110 =>
    ((Ba x_v21 x_v22).bind fun x112 =>
    ((upd x_v21 x_v22 x106).bind fun u_374 =>
    ((Ba u_374 (IntKind.i64.wrap (x_v22-1))).bind fun x113 =>
    ((upd u_374 (IntKind.i64.wrap (x_v22-1)) x110).bind fun u_398 =>
    CJ n  u_317 u_398 (IntKind.i64.wrap (x_v22-1))))))))))))))
    else
    some (x_v20,x_v21)))
def D1:Nat→Aj→(List (IK .u16))→(List Int)→(List Int)→Int→Option ((List Int)×(List Int))
  | 0,_,_,_,_,_=>none
  | n+1,y,words,x_v10,x_v11,x_v12 =>
    (bif decide (x_v12<((y.buses.length:Nat):Int)) then
    ((Ba y.buses x_v12).bind fun x22 =>
    ((EY n words x_v12).bind fun x26 =>
    ((nz (IntKind.i64.wrap ((IntKind.i64.wrap (x22.hi-x22.lo))+1))).bind fun x37 =>
    (((bif ((Int.tmod x26 3) == 0) then
    some x22.lo
    else
    (bif ((Int.tmod x26 3) == 1) then
    some x22.hi
    else
    some (IntKind.i64.wrap (x22.lo+(Int.tmod (IntKind.i64.wrap (Int.tdiv x26 3)) (IntKind.i64.wrap ((IntKind.i64.wrap (x22.hi-x22.lo))+1))))))):Option Int).bind fun o_102 =>
    ((Ji x_v10 ([x_v12]:List Int)).bind fun x52 =>
    ((EY n words (IntKind.i64.wrap ((IntKind.i64.wrap (2*x_v12))+1))).bind fun x60 =>
    ((Ji x_v11 ([IntKind.i64.wrap ((IntKind.i64.wrap (2*o_102))+(Int.tmod x60 2))]:List Int)).bind fun x64 =>
    ((CJ n  x52 x64 x_v12).bind fun o_188 =>
    D1 n y words o_188.1 o_188.2 (IntKind.i64.wrap (x_v12+1))))))))))
    else
    some (x_v10,x_v11))
def HG (n:Nat) (y:Aj) (words:List (IK .u16)):Option (List Int) :=
  ((D1 n y words ([]:List Int) ([]:List Int) 0).bind fun o_39 =>
  some o_39.1)
def CK:Nat→Aj→(List (IK .u16))→(List Int)→Int→Option (List Int)
  | 0,_,_,_,_=>none
  | n+1,y,words,x_v10,x_v11 =>
    (bif decide (x_v11<((y.buses.length:Nat):Int)) then
    (((bif decide (((x_v10.length:Nat):Int)<y.broken) then
    ((EY n words (IntKind.i64.wrap ((IntKind.i64.wrap (3*x_v11))+2))).bind fun x24 =>
    some ((Int.tmod x24 4) == 0))
    else
    some false):Option Bool).bind fun o_45 =>
    (bif o_45 then
    ((Ji x_v10 ([x_v11]:List Int)).bind fun x31 =>
    CK n y words x31 (IntKind.i64.wrap (x_v11+1)))
    else
    CK n y words x_v10 (IntKind.i64.wrap (x_v11+1))))
    else
    some x_v10)
def HH (n:Nat) (y:Aj) (words:List (IK .u16)):Option (List Int) :=
  ((CK n y words ([]:List Int) 0).bind fun o_29 =>
  some o_29)
def C3:Nat→Aj→(List Int)→(List Int)→Int→Int→Option Int
  | 0,_,_,_,_,_=>none
  | n+1,y,x14,x_v10,x_v20,x_v21 =>
    (((bif decide (x_v20<((y.room.length:Nat):Int)) then
    ((Ba x_v10 x_v21).bind fun x39 =>
    ((Ba y.room x_v21).bind fun x44 =>
    some (decide (x39≥x44))))
    else
    some false):Option Bool).bind fun o_98 =>
    (bif o_98 then
    ((nz ((y.room.length:Nat):Int)).bind fun x55 =>
    C3 n y x14 x_v10 (IntKind.i64.wrap (x_v20+1)) (Int.tmod (IntKind.i64.wrap (x_v21+1)) ((y.room.length:Nat):Int)))
    else
    some x_v21))
def C4:Nat→Aj→(List (IK .u16))→(List Int)→(List Int)→(List Int)→Int→Option (Ex ((List Int)×Bool) ((List Int)×(List Int)))
  | 0,_,_,_,_,_,_=>none
  | n+1,y,words,x14,x_v10,x_v11,x_v12 =>
    (bif decide (x_v12<((y.buses.length:Nat):Int)) then
    ((EY n words (IntKind.i64.wrap ((IntKind.i64.wrap (5*x_v12))+1))).bind fun x26 =>
    ((nz ((y.room.length:Nat):Int)).bind fun x30 =>
    ((C3 n y x14 x_v10 0 (Int.tmod x26 ((y.room.length:Nat):Int))).bind fun o_85 =>
    ((Ba x_v10 o_85).bind fun x58 =>
    ((Ba y.room o_85).bind fun x63 =>
    (bif decide (x58≥x63) then
    some (Ex.ret (([]:List Int),false))
    else
    ((Ba x_v10 o_85).bind fun x68 =>
    ((Ba x_v10 o_85).bind fun x71 =>
    ((upd x_v10 o_85 (IntKind.i64.wrap (x68+1))).bind fun u_220 =>
    ((Ji x_v11 ([o_85]:List Int)).bind fun x75 =>
    C4 n y words x14 u_220 x75 (IntKind.i64.wrap (x_v12+1))))))))))))
    else
    some (Ex.go (x_v10,x_v11)))
def FE (n:Nat) (y:Aj) (words:List (IK .u16)):Option ((List Int)×Bool) :=
  ((mk ((y.room.length:Nat):Int) (0:Int)).bind fun x14 =>
  ((C4 n y words x14 x14 ([]:List Int) 0).bind fun o_51=>Ex.bind o_51 (fun r=>some r) fun s_52 =>
  some (s_52.2,true)))
def CR:Nat→(List Int)→Int→Int→Option (Ex Int Unit)
  | 0,_,_,_=>none
  | n+1,order,bus,x_v10 =>
    (bif decide (x_v10<((order.length:Nat):Int)) then
    ((Ba order x_v10).bind fun x14 =>
    (bif (x14 == bus) then
    some (Ex.ret x_v10)
    else
    CR n order bus (IntKind.i64.wrap (x_v10+1))))
    else
    some (Ex.go ()))
def G8 (n:Nat) (order:List Int) (bus:Int):Option Int :=
  ((CR n order bus 0).bind fun o_6=>Ex.bind o_6 (fun r=>some r) fun s_7 =>
  some (-1))
def BB:Nat→Aj→(List Int)→(List Int)→Int→Option (List Int)
  | 0,_,_,_,_=>none
  | n+1,y,x51,x_v10,x_v11 =>
    (bif decide (x_v11<((x51.length:Nat):Int)) then
    ((Ba x51 x_v11).bind fun x63 =>
    (bif decide (x63<(IntKind.i64.wrap (((y.buses.length:Nat):Int)-1))) then
    ((Ba x51 x_v11).bind fun x70 =>
    ((Ji x_v10 ([x70]:List Int)).bind fun x73 =>
    BB n y x51 x73 (IntKind.i64.wrap (x_v11+1))))
    else
    BB n y x51 x_v10 (IntKind.i64.wrap (x_v11+1))))
    else
    some x_v10)
def BC:Nat→Aj→(List Int)→(List Int)→Int→Option (List Int)
  | 0,_,_,_,_=>none
  | n+1,y,x54,x_v20,x_v21 =>
    (bif decide (x_v21<((x54.length:Nat):Int)) then
    ((Ba x54 x_v21).bind fun x82 =>
    (bif decide (x82<(IntKind.i64.wrap (((y.buses.length:Nat):Int)-1))) then
    ((Ba x54 x_v21).bind fun x89 =>
    ((Ji x_v20 ([x89]:List Int)).bind fun x92 =>
    BC n y x54 x92 (IntKind.i64.wrap (x_v21+1))))
    else
    BC n y x54 x_v20 (IntKind.i64.wrap (x_v21+1))))
    else
    some x_v20)
def BX:Nat→((List Int)×Int)→((List Int)×Int)→Int→Option (Ex Bool Unit)
  | 0,_,_,_=>none
  | n+1,x102,x114,x_v30 =>
    (bif decide (x_v30<((x114.1.length:Nat):Int)) then
    ((Ba x114.1 x_v30).bind fun x132 =>
    ((G8 n x102.1 x132).bind fun x134 =>
    (bif decide (x134<0) then
    some (Ex.ret false)
    else
    BX n x102 x114 (IntKind.i64.wrap (x_v30+1)))))
    else
    some (Ex.go ()))
def Fy (n:Nat) (y:Aj) (words:List (IK .u16)):Option Bool :=
  ((G5 n y).bind fun x22 =>
  (((bif x22 then
  ((FE n y words).bind fun x26 =>
  some (x26.2,x26.1))
  else
  some (false,([]:(List Int)))):Option (Bool×(List Int))).bind fun o_27 =>
  (((bif (!o_27.1) then
  some true
  else
  some (((y.buses.length:Nat):Int) == 0)):Option Bool).bind fun o_55 =>
  (bif o_55 then
  ((DD n ).bind fun x38 =>
  some x38)
  else
  ((Mw y.buses (IntKind.i64.wrap (((y.buses.length:Nat):Int)-1))).bind fun x47 =>
  ((HG n y words).bind fun x51 =>
  ((HH n y words).bind fun x54 =>
  ((BB n y x51 ([]:List Int) 0).bind fun o_152 =>
  ((BC n y x54 ([]:List Int) 0).bind fun o_242 =>
  ((FC n y).bind fun x95 =>
  ((CW n o_27.2).bind fun x97 =>
  ((CW n x51).bind fun x99 =>
  ((CW n x54).bind fun x101 =>
  ((Cy n x95 x97 x99 x101).bind fun x102 =>
  ((Mw o_27.2 (IntKind.i64.wrap (((y.buses.length:Nat):Int)-1))).bind fun x110 =>
  ((FC n (Aj.mk y.room x47 y.broken)).bind fun x107 =>
  ((CW n x110).bind fun x111 =>
  ((Cy n x107 x111 o_152 o_242).bind fun x114 =>
  (((bif (x102.2 != 0) then
  some true
  else
  some (x114.2 != 0)):Option Bool).bind fun o_447 =>
  (bif o_447 then
  some false
  else
  ((BX n x102 x114 0).bind fun o_469=>Ex.bind o_469 (fun r=>some r) fun s_470 =>
  ((DD n ).bind fun x136 =>
  some x136))))))))))))))))))))))
abbrev XZ:=@Option.some.inj
abbrev XY:=@Exists.intro
abbrev XX:=@Option.bind_some
abbrev XW:=@cond_true
abbrev XV:=@cond_false
abbrev XU:=@Ac.le_trans
abbrev XT:=@wp_seq
end Go.Proofs.Ythcbemnflgjadaa
