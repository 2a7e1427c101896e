/- What the functions compute, in plain Lean. -/
import Derived.Test.YthcbemnflgjadaaGpS8
import Derived.Test.YthcbemnflgjadaaProg
import Derived.Lib.BitFns
set_option linter.all false
namespace Go.Proofs.Ythcbemnflgjadaa
open Go Go.RowKit
open Rep (rep)
open KRep (kv)
open VRep (rv)
structure B6 where
  lo:Int
  hi:Int
  turn:Int
deriving DecidableEq,Inhabited
instance : Rep B6:=Rep.via fun x=>(x.lo,x.hi,x.turn)
instance : VRep B6:=VRep.agg B6
structure Al where
  room:List Int
  buses:List B6
  broken:Int
deriving DecidableEq,Inhabited
instance : Rep Al:=Rep.via fun x=>(x.room,x.buses,x.broken)
instance : VRep Al:=VRep.agg Al
def Q3 (h:Ac) (v:Value) (f:Int→Option Bool):Prop:=∀ (h':Ac)(w':World),Ac.le h h'→CY h' w'→∀ (x0:Int)(r:Bool),f x0=some r→Hs Try.prog v #[.int .i64 x0] w' (Dc (fun h v=>v=.bool r) h' w')
theorem Q3.mono {h h':Ac} {v:Value} {f:Int→Option Bool} (H:Q3 h v f) (hle:Ac.le h h'):Q3 h' v f:=fun h2 w2 l=>H h2 w2 (Ac.le_trans hle l)
instance : Rep (Int→Option Bool):=⟨1,fun h f cs=>∃ fn first cap,cs=[.func fn first cap]∧Q3 h (.func fn first cap) f,fun hle ⟨a,b,c,e,hr⟩=>⟨a,b,c,e,hr.mono hle⟩,fun⟨a,b,c,e,_⟩=>by subst e; rfl,fun⟨a,b,c,e,_⟩ v hv=>by subst e; simp at hv; subst hv; rfl⟩
def Q4 (h:Ac) (v:Value) (f:B6→Option Bool):Prop:=∀ (h':Ac)(w':World),Ac.le h h'→CY h' w'→∀ (x0:B6)(cs0:List Value)(_:rep h' x0 cs0)(r:Bool),f x0=some r→Hs Try.prog v #[.agg cs0.toArray] w' (Dc (fun h v=>v=.bool r) h' w')
theorem Q4.mono {h h':Ac} {v:Value} {f:B6→Option Bool} (H:Q4 h v f) (hle:Ac.le h h'):Q4 h' v f:=fun h2 w2 l=>H h2 w2 (Ac.le_trans hle l)
instance : Rep (B6→Option Bool):=⟨1,fun h f cs=>∃ fn first cap,cs=[.func fn first cap]∧Q4 h (.func fn first cap) f,fun hle ⟨a,b,c,e,hr⟩=>⟨a,b,c,e,hr.mono hle⟩,fun⟨a,b,c,e,_⟩=>by subst e; rfl,fun⟨a,b,c,e,_⟩ v hv=>by subst e; simp at hv; subst hv; rfl⟩
structure Ao where
  a0:Int
  a1:Int
  a2:Int
  a3:Int
  a4:Int
  a5:Int
  a6:Int
  a7:Int
deriving DecidableEq,Inhabited
instance : Rep Ao:=Rep.via fun x=>(x.a0,x.a1,x.a2,x.a3,x.a4,x.a5,x.a6,x.a7)
instance : VRep Ao:=VRep.agg Ao
def Ao.toL (x:Ao):List Int:=[x.a0,x.a1,x.a2,x.a3,x.a4,x.a5,x.a6,x.a7]
def Ao.ofL:List Int→Option Ao
  | [a0,a1,a2,a3,a4,a5,a6,a7]=>some ⟨a0,a1,a2,a3,a4,a5,a6,a7⟩
  | _=>none
theorem Ao.ofL_some {l:List Int} {y:Ao} (h:Ao.ofL l=some y):y.toL=l:=by
  unfold Ao.ofL at h
  split at h
  · cases h; rfl
  · cases h
def Ao.setI (x:Ao) (i:Int) (v:Int):Option Ao:=(upd x.toL i v).bind Ao.ofL
theorem Ao.setI_some {x y:Ao} {i:Int} {v:Int} (h:x.setI i v=some y):0≤i∧i<8∧y.toL=x.toL.set i.toNat v:=by
  obtain⟨l,hl,h2⟩:=An h
  obtain⟨h0,h1,rfl⟩:=BA hl
  exact⟨h0,h1,Ao.ofL_some h2⟩
structure Aq where
  a0:Bool
  a1:Bool
  a2:Bool
  a3:Bool
  a4:Bool
  a5:Bool
  a6:Bool
  a7:Bool
deriving DecidableEq,Inhabited
instance : Rep Aq:=Rep.via fun x=>(x.a0,x.a1,x.a2,x.a3,x.a4,x.a5,x.a6,x.a7)
instance : VRep Aq:=VRep.agg Aq
def Aq.toL (x:Aq):List Bool:=[x.a0,x.a1,x.a2,x.a3,x.a4,x.a5,x.a6,x.a7]
def Aq.ofL:List Bool→Option Aq
  | [a0,a1,a2,a3,a4,a5,a6,a7]=>some ⟨a0,a1,a2,a3,a4,a5,a6,a7⟩
  | _=>none
theorem Aq.ofL_some {l:List Bool} {y:Aq} (h:Aq.ofL l=some y):y.toL=l:=by
  unfold Aq.ofL at h
  split at h
  · cases h; rfl
  · cases h
def Aq.setI (x:Aq) (i:Int) (v:Bool):Option Aq:=(upd x.toL i v).bind Aq.ofL
theorem Aq.setI_some {x y:Aq} {i:Int} {v:Bool} (h:x.setI i v=some y):0≤i∧i<8∧y.toL=x.toL.set i.toNat v:=by
  obtain⟨l,hl,h2⟩:=An h
  obtain⟨h0,h1,rfl⟩:=BA hl
  exact⟨h0,h1,Aq.ofL_some h2⟩
structure BE where
  yard:Al
  lane:List Int
  tm:Ao
  broken:Aq
deriving DecidableEq,Inhabited
instance : Rep BE:=Rep.via fun x=>(x.yard,x.lane,x.tm,x.broken)
instance : VRep BE:=VRep.agg BE
def PO (h:Ac) (v:Value) (f:Int→Int→Option Int):Prop:=∀ (h':Ac)(w':World),Ac.le h h'→CY h' w'→∀ (x0:Int)(x1:Int)(r:Int),f x0 x1=some r→Hs Try.prog v #[.int .i64 x0,.int .i64 x1] w' (Dc (fun h v=>v=.int .i64 r) h' w')
theorem PO.mono {h h':Ac} {v:Value} {f:Int→Int→Option Int} (H:PO h v f) (hle:Ac.le h h'):PO h' v f:=fun h2 w2 l=>H h2 w2 (Ac.le_trans hle l)
instance : Rep (Int→Int→Option Int):=⟨1,fun h f cs=>∃ fn first cap,cs=[.func fn first cap]∧PO h (.func fn first cap) f,fun hle ⟨a,b,c,e,hr⟩=>⟨a,b,c,e,hr.mono hle⟩,fun⟨a,b,c,e,_⟩=>by subst e; rfl,fun⟨a,b,c,e,_⟩ v hv=>by subst e; simp at hv; subst hv; rfl⟩
def Ru (h:Ac) (v:Value) (f:Int→Int→Option Bool):Prop:=∀ (h':Ac)(w':World),Ac.le h h'→CY h' w'→∀ (x0:Int)(x1:Int)(r:Bool),f x0 x1=some r→Hs Try.prog v #[.int .i64 x0,.int .i64 x1] w' (Dc (fun h v=>v=.bool r) h' w')
theorem Ru.mono {h h':Ac} {v:Value} {f:Int→Int→Option Bool} (H:Ru h v f) (hle:Ac.le h h'):Ru h' v f:=fun h2 w2 l=>H h2 w2 (Ac.le_trans hle l)
instance : Rep (Int→Int→Option Bool):=⟨1,fun h f cs=>∃ fn first cap,cs=[.func fn first cap]∧Ru h (.func fn first cap) f,fun hle ⟨a,b,c,e,hr⟩=>⟨a,b,c,e,hr.mono hle⟩,fun⟨a,b,c,e,_⟩=>by subst e; rfl,fun⟨a,b,c,e,_⟩ v hv=>by subst e; simp at hv; subst hv; rfl⟩
structure A9 where
  buses:List Int
  down:Int
deriving DecidableEq,Inhabited
instance : Rep A9:=Rep.via fun x=>(x.buses,x.down)
instance : VRep A9:=VRep.agg A9
def Rr (h:Ac) (v:Value) (f:B6→Option Int):Prop:=∀ (h':Ac)(w':World),Ac.le h h'→CY h' w'→∀ (x0:B6)(cs0:List Value)(_:rep h' x0 cs0)(r:Int),f x0=some r→Hs Try.prog v #[.agg cs0.toArray] w' (Dc (fun h v=>v=.int .i64 r) h' w')
theorem Rr.mono {h h':Ac} {v:Value} {f:B6→Option Int} (H:Rr h v f) (hle:Ac.le h h'):Rr h' v f:=fun h2 w2 l=>H h2 w2 (Ac.le_trans hle l)
instance : Rep (B6→Option Int):=⟨1,fun h f cs=>∃ fn first cap,cs=[.func fn first cap]∧Rr h (.func fn first cap) f,fun hle ⟨a,b,c,e,hr⟩=>⟨a,b,c,e,hr.mono hle⟩,fun⟨a,b,c,e,_⟩=>by subst e; rfl,fun⟨a,b,c,e,_⟩ v hv=>by subst e; simp at hv; subst hv; rfl⟩
structure D9 where
  tm:B6→Option Int
instance : Rep D9:=Rep.via fun x=>(x.tm)
instance : VRep D9:=VRep.agg D9
structure Br where
  behind:Int
  last:Int
deriving DecidableEq,Inhabited
instance : Rep Br:=Rep.via fun x=>(x.behind,x.last)
instance : VRep Br:=VRep.agg Br
structure AV where
  many:Int
  tm:Ao
deriving DecidableEq,Inhabited
instance : Rep AV:=Rep.via fun x=>(x.many,x.tm)
instance : VRep AV:=VRep.agg AV
instance : KRep Br:=⟨fun x=>.agg #[.int .i64 x.behind,.int .i64 x.last],fun {a b} h=>by
  rcases a with⟨a0,a1⟩
  rcases b with⟨b0,b1⟩
  simp_all⟩
def Rv (h:Ac) (v:Value) (f:Int→Option Int):Prop:=∀ (h':Ac)(w':World),Ac.le h h'→CY h' w'→∀ (x0:Int)(r:Int),f x0=some r→Hs Try.prog v #[.int .i64 x0] w' (Dc (fun h v=>v=.int .i64 r) h' w')
theorem Rv.mono {h h':Ac} {v:Value} {f:Int→Option Int} (H:Rv h v f) (hle:Ac.le h h'):Rv h' v f:=fun h2 w2 l=>H h2 w2 (Ac.le_trans hle l)
instance : Rep (Int→Option Int):=⟨1,fun h f cs=>∃ fn first cap,cs=[.func fn first cap]∧Rv h (.func fn first cap) f,fun hle ⟨a,b,c,e,hr⟩=>⟨a,b,c,e,hr.mono hle⟩,fun⟨a,b,c,e,_⟩=>by subst e; rfl,fun⟨a,b,c,e,_⟩ v hv=>by subst e; simp at hv; subst hv; rfl⟩
structure F5 where
  buses:Aq
  down:Aq
deriving DecidableEq,Inhabited
instance : Rep F5:=Rep.via fun x=>(x.buses,x.down)
instance : VRep F5:=VRep.agg F5
instance : KRep F5:=⟨fun x=>.agg #[.bool x.buses.a0,.bool x.buses.a1,.bool x.buses.a2,.bool x.buses.a3,.bool x.buses.a4,.bool x.buses.a5,.bool x.buses.a6,.bool x.buses.a7,.bool x.down.a0,.bool x.down.a1,.bool x.down.a2,.bool x.down.a3,.bool x.down.a4,.bool x.down.a5,.bool x.down.a6,.bool x.down.a7],fun {a b} h=>by
  rcases a with⟨⟨a0,a1,a2,a3,a4,a5,a6,a7⟩,⟨a8,a9,a10,a11,a12,a13,a14,a15⟩⟩
  rcases b with⟨⟨b0,b1,b2,b3,b4,b5,b6,b7⟩,⟨b8,b9,b10,b11,b12,b13,b14,b15⟩⟩
  simp_all⟩
def Hd (n:Nat) (y:Al):Option Bool :=
  (bif decide (((y.room.length:Nat):Int)≤6) then
  some (decide (((y.buses.length:Nat):Int)≤12))
  else
  some false)
def Cb (n:Nat) (n_:Int) (low:Int) (high:Int):Option Bool :=
  (bif decide (low≤n_) then
  some (decide (n_≤high))
  else
  some false)
def Cg (n:Nat) (x:Int) (q0:Int→Option Bool):Option Bool :=
  ((q0 x).bind fun x6 =>
  some (!x6))
def AF:Nat→(List Int)→(Int→Option Bool)→Int→Option (Ex Int Unit)
  | 0,_,_,_=>none
  | n+1,s,f,x_v10 =>
    (bif decide (x_v10<((s.length:Nat):Int)) then
    ((Bi s x_v10).bind fun x14 =>
    ((f x14).bind fun x16 =>
    (bif x16 then
    some (Ex.ret x_v10)
    else
    AF n s f (IntKind.i64.wrap (x_v10+1)))))
    else
    some (Ex.go ()))
def BJ (n:Nat) (s:List Int) (f:Int→Option Bool):Option Int :=
  ((AF n s f 0).bind fun o_6=>Ex.bind o_6 (fun r=>some r) fun s_7 =>
  some (-1))
def B3 (n:Nat) (s:List Int) (f:Int→Option Bool):Option Bool :=
  ((BJ n s f).bind fun x7 =>
  some (decide (x7≥0)))
def D0 (n:Nat) (l:List Int) (right:Int→Option Bool):Option Bool :=
  ((B3 n l (fun(y0:Int)=>Cg n y0 right)).bind fun x7 =>
  some (!x7))
def BL (n:Nat) (b:B6):Option Bool :=
  ((Cb n b.lo 0 b.hi).bind fun x7 =>
  (bif x7 then
  (bif decide (b.hi≤2000) then
  ((Cb n b.turn 0 2000).bind fun x16 =>
  some x16)
  else
  some false)
  else
  some false))
def Bl (n:Nat) (x:B6) (q0:B6→Option Bool):Option Bool :=
  ((q0 x).bind fun x6 =>
  some (!x6))
def A2:Nat→(List B6)→(B6→Option Bool)→Int→Option (Ex Int Unit)
  | 0,_,_,_=>none
  | n+1,s,f,x_v10 =>
    (bif decide (x_v10<((s.length:Nat):Int)) then
    ((Bi s x_v10).bind fun x14 =>
    ((f x14).bind fun x16 =>
    (bif x16 then
    some (Ex.ret x_v10)
    else
    A2 n s f (IntKind.i64.wrap (x_v10+1)))))
    else
    some (Ex.go ()))
def AU (n:Nat) (s:List B6) (f:B6→Option Bool):Option Int :=
  ((A2 n s f 0).bind fun o_6=>Ex.bind o_6 (fun r=>some r) fun s_7 =>
  some (-1))
def AM (n:Nat) (s:List B6) (f:B6→Option Bool):Option Bool :=
  ((AU n s f).bind fun x7 =>
  some (decide (x7≥0)))
def BP (n:Nat) (l:List B6) (right:B6→Option Bool):Option Bool :=
  ((AM n l (fun(y0:B6)=>Bl n y0 right)).bind fun x7 =>
  some (!x7))
def B8 (n:Nat) (n_:Int):Option Bool :=
  ((Cb n n_ 0 8).bind fun x4 =>
  some x4)
def Bs:Nat→Al→Int→(List (Int×Bool))→Option (Ex Int (List (Int×Bool)))
  | 0,_,_,_=>none
  | n+1,y,x_v10,x_v11 =>
    (bif decide (x_v10<((y.buses.length:Nat):Int)) then
    ((Bi y.buses x_v10).bind fun x48 =>
    ((some (FC x_v11 x48.turn (false:Bool))).bind fun x53 =>
    (bif x53.1 then
    some (Ex.ret 1)
    else
    Bs n y (IntKind.i64.wrap (x_v10+1)) (GR x_v11 x48.turn true))))
    else
    some (Ex.go x_v11))
def BU (n:Nat) (y:Al):Option Int :=
  (((bif decide (((y.room.length:Nat):Int)>3) then
  some true
  else
  some (decide (((y.buses.length:Nat):Int)>8))):Option Bool).bind fun o_16 =>
  (bif o_16 then
  some 3
  else
  (((bif (((y.room.length:Nat):Int) == 0) then
  some true
  else
  ((Cb n y.broken 0 2).bind fun x26 =>
  (bif (!x26) then
  some true
  else
  ((D0 n y.room (fun(y0:Int)=>B8 n y0)).bind fun x33 =>
  (bif (!x33) then
  some true
  else
  ((BP n y.buses (fun(y0:B6)=>BL n y0)).bind fun x39 =>
  some (!x39))))))):Option Bool).bind fun o_35 =>
  (bif o_35 then
  some 1
  else
  ((Bs n y 0 ([]:List (Int×Bool))).bind fun o_115=>Ex.bind o_115 (fun r=>some r) fun s_116 =>
  some 0)))))
def Be (n:Nat) (s:List Int):Option (List Int) :=
  ((Kd ([]:List Int) s).bind fun x7 =>
  some x7)
def Bt:Nat→(List Int)→(List Int)→Int→Option (Ex Bool (List Int))
  | 0,_,_,_=>none
  | n+1,l,x_v10,x_v11 =>
    (bif decide (x_v11<((l.length:Nat):Int)) then
    ((Bi l x_v11).bind fun x21 =>
    ((((Cb n x21 0 (IntKind.i64.wrap (((x_v10.length:Nat):Int)-1))).bind fun x27 =>
    (bif (!x27) then
    some true
    else
    ((Bi x_v10 x21).bind fun x32 =>
    some (x32 == 0)))):Option Bool).bind fun o_78 =>
    (bif o_78 then
    some (Ex.ret false)
    else
    ((Bi x_v10 x21).bind fun x38 =>
    ((Bi x_v10 x21).bind fun x41 =>
    ((upd x_v10 x21 (IntKind.i64.wrap (x38-1))).bind fun u_152 =>
    Bt n l u_152 (IntKind.i64.wrap (x_v11+1))))))))
    else
    some (Ex.go x_v10))
def Co (n:Nat) (y:Al) (l:List Int):Option Bool :=
  (bif (((l.length:Nat):Int) != ((y.buses.length:Nat):Int)) then
  some false
  else
  ((Be n y.room).bind fun x16 =>
  ((Bt n l x16 0).bind fun o_47=>Ex.bind o_47 (fun r=>some r) fun s_48 =>
  some true)))
def AY:Nat→(List Int)→Int→Int→Option Int
  | 0,_,_,_=>none
  | n+1,x,x_v10,x_v11 =>
    (bif decide (x_v10<((x.length:Nat):Int)) then
    ((Bi x x_v10).bind fun x21 =>
    AY n x (IntKind.i64.wrap (x_v10+1)) (if x21>x_v11 then x21 else x_v11))
    else
    some x_v11)
def Ch (n:Nat) (x:List Int):Option Int :=
  (bif decide (((x.length:Nat):Int)<1) then
  none
  else
  ((Bi x 0).bind fun x10 =>
  ((AY n x 1 x10).bind fun o_25 =>
  some o_25)))
def CA (n:Nat) (l:List Int):Option Int :=
  ((Ch n l).bind fun x4 =>
  some x4)
def CO (n:Nat) (y:Al) (n_:Int):Option Bool :=
  ((Cb n n_ 0 (IntKind.i64.wrap (((y.buses.length:Nat):Int)-1))).bind fun x10 =>
  some x10)
def AZ:Nat→Al→(List Int)→Int→Int→Ao→Aq→Option (Ex (Ao×Bool) (Ao×Aq))
  | 0,_,_,_,_,_,_=>none
  | n+1,y,order,x_v10,x_v11,x_v12,x_v13 =>
    (bif decide (x_v10<((order.length:Nat):Int)) then
    ((Bi order x_v10).bind fun x22 =>
    ((((CO n y x22).bind fun x26 =>
    (bif (!x26) then
    some true
    else
    ((Jj 8 x22).bind fun x30 =>
    ((Bi x_v13.toL x22).bind fun x31 =>
    (bif x31 then
    some true
    else
    ((Bi y.buses x22).bind fun x37 =>
    some (decide (x37.hi<x_v11)))))))):Option Bool).bind fun o_73 =>
    (bif o_73 then
    some (Ex.ret (x_v12,false))
    else
    ((Jj 8 x22).bind fun x45 =>
    ((Aq.setI x_v13 x22 true).bind fun u_143 =>
    ((Bi y.buses x22).bind fun x52 =>
    ((Jj 8 x22).bind fun x57 =>
    ((CA n ([x_v11,x52.lo]:List Int)).bind fun x56 =>
    ((Ao.setI x_v12 x22 x_v10).bind fun us0 =>
    AZ n y order (IntKind.i64.wrap (x_v10+1)) x56 us0 u_143)))))))))
    else
    some (Ex.go (x_v12,x_v13)))
def Ci (n:Nat) (y:Al) (order:List Int):Option (Ao×Bool) :=
  (bif (((order.length:Nat):Int) != ((y.buses.length:Nat):Int)) then
  some ((Ao.mk 0 0 0 0 0 0 0 0),false)
  else
  ((AZ n y order 0 0 (Ao.mk 0 0 0 0 0 0 0 0) (Aq.mk false false false false false false false false)).bind fun o_40=>Ex.bind o_40 (fun r=>some r) fun s_41 =>
  some (s_41.1,true)))
def B9:Nat→Al→(List Int)→Int→Int→Aq→Option (Ex (Aq×Bool) Aq)
  | 0,_,_,_,_,_=>none
  | n+1,y,broken,x_v10,x_v11,x_v12 =>
    (bif decide (x_v10<((broken.length:Nat):Int)) then
    ((Bi broken x_v10).bind fun x13 =>
    ((((CO n y x13).bind fun x17 =>
    (bif (!x17) then
    some true
    else
    some (decide (x13≤x_v11)))):Option Bool).bind fun o_55 =>
    (bif o_55 then
    some (Ex.ret (x_v12,false))
    else
    ((Jj 8 x13).bind fun x27 =>
    ((Aq.setI x_v12 x13 true).bind fun u_95 =>
    B9 n y broken (IntKind.i64.wrap (x_v10+1)) x13 u_95)))))
    else
    some (Ex.go x_v12))
def Dh (n:Nat) (y:Al) (broken:List Int):Option (Aq×Bool) :=
  ((B9 n y broken 0 (-1) (Aq.mk false false false false false false false false)).bind fun o_24=>Ex.bind o_24 (fun r=>some r) fun s_25 =>
  some (s_25,decide (((broken.length:Nat):Int)≤y.broken)))
def Cp (n:Nat) (y:Al) (lanes:List Int) (order:List Int) (broken:List Int):Option (BE×Int) :=
  ((BU n y).bind fun x16 =>
  (bif (x16 != 0) then
  some ((BE.mk (Al.mk ([]:List Int) ([]:List B6) 0) ([]:List Int) (Ao.mk 0 0 0 0 0 0 0 0) (Aq.mk false false false false false false false false)),x16)
  else
  ((Ci n y order).bind fun x24 =>
  ((Dh n y broken).bind fun x30 =>
  (((bif (!x24.2) then
  some true
  else
  (bif (!x30.2) then
  some true
  else
  ((Co n y lanes).bind fun x42 =>
  some (!x42)))):Option Bool).bind fun o_85 =>
  (bif o_85 then
  some ((BE.mk (Al.mk ([]:List Int) ([]:List B6) 0) ([]:List Int) (Ao.mk 0 0 0 0 0 0 0 0) (Aq.mk false false false false false false false false)),2)
  else
  some ((BE.mk y lanes x24.1 x30.1),0)))))))
def AK:Nat→(List (List Int))→Int→Int→Option Int
  | 0,_,_,_=>none
  | n+1,slices,x_v10,x_v11 =>
    (bif decide (x_v10<((slices.length:Nat):Int)) then
    ((Bi slices x_v10).bind fun x13 =>
    (bif decide ((IntKind.i64.wrap (x_v11+((x13.length:Nat):Int)))<0) then
    none
    else
    AK n slices (IntKind.i64.wrap (x_v10+1)) (IntKind.i64.wrap (x_v11+((x13.length:Nat):Int)))))
    else
    some x_v11)
def AL:Nat→(List (List Int))→(List Int)→Int→Option (List Int)
  | 0,_,_,_=>none
  | n+1,slices,x_v20,x_v21 =>
    (bif decide (x_v21<((slices.length:Nat):Int)) then
    ((Bi slices x_v21).bind fun x29 =>
    ((Kd x_v20 x29).bind fun x33 =>
    AL n slices x33 (IntKind.i64.wrap (x_v21+1))))
    else
    some x_v20)
def Bp (n:Nat) (slices:List (List Int)):Option (List Int) :=
  ((AK n slices 0 0).bind fun o_8 =>
  ((Pb o_8).bind fun x24 =>
  ((AL n slices ([]:List Int) 0).bind fun o_75 =>
  some o_75)))
def A0:Nat→Int→(Int→Int→Option Int)→(List Int)→Int→Option (List Int)
  | 0,_,_,_,_=>none
  | n+1,a,cmp,x_v20,x_v21 =>
    (((bif decide (x_v21>a) then
    ((Bi x_v20 x_v21).bind fun x25 =>
    ((Bi x_v20 (IntKind.i64.wrap (x_v21-1))).bind fun x30 =>
    ((cmp x25 x30).bind fun x32 =>
    some (decide (x32<0)))))
    else
    some false):Option Bool).bind fun o_48 =>
    (bif o_48 then
    ((Bi x_v20 (IntKind.i64.wrap (x_v21-1))).bind fun x45 =>
    ((Bi x_v20 x_v21).bind fun x49 =>
    ((Bi x_v20 x_v21).bind fun x51 =>
    ((upd x_v20 x_v21 x45).bind fun u_155 =>
    ((Bi u_155 (IntKind.i64.wrap (x_v21-1))).bind fun x52 =>
    ((upd u_155 (IntKind.i64.wrap (x_v21-1)) x49).bind fun u_178 =>
    A0 n a cmp u_178 (IntKind.i64.wrap (x_v21-1))))))))
    else
    some x_v20))
def A1:Nat→Int→Int→(Int→Int→Option Int)→(List Int)→Int→Option (List Int)
  | 0,_,_,_,_,_=>none
  | n+1,a,b,cmp,x_v10,x_v11 =>
    (bif decide (x_v11<b) then
    ((A0 n a cmp x_v10 x_v11).bind fun o_35 =>
    A1 n a b cmp o_35 (IntKind.i64.wrap (x_v11+1)))
    else
    some x_v10)
def AO (n:Nat) (data:List Int) (a:Int) (b:Int) (cmp:Int→Int→Option Int):Option (List Int) :=
  ((A1 n a b cmp data (IntKind.i64.wrap (a+1))).bind fun o_10 =>
  some o_10)
def E4 (n:Nat) (x:IK .u64):Option Int:=if 0≤x.n∧x.n≤18446744073709551615 then some (Lib.bitLen x.n.toNat:Nat) else none
def AW:Nat→(List Int)→Int→Int→Int→(Int→Int→Option Int)→Option (Ex (List Int) Unit)
  | 0,_,_,_,_,_=>none
  | n+1,data,a,b,limit,cmp =>
    (bif decide ((IntKind.i64.wrap (b-a))≤12) then
    ((AO n data a b cmp).bind fun x30 =>
    some (Ex.ret x30))
    else
    (bif (limit == 0) then
    none
    else
    (bif (!true) then
    none
    else
    none)))
def AS:Nat→(List Int)→Int→Int→Int→(Int→Int→Option Int)→Option (List Int)
  | 0,_,_,_,_,_=>none
  | n+1,data,a,b,limit,cmp =>
    ((AW n data a b limit cmp ).bind fun o_6=>Ex.bind o_6 (fun r=>some r) fun s_7 =>
    some data)
def AB (n:Nat) (x:List Int) (cmp:Int→Int→Option Int):Option (List Int) :=
  ((E4 n (IK.mk (IntKind.u64.wrap ((x.length:Nat):Int)))).bind fun x11 =>
  ((AS n x 0 ((x.length:Nat):Int) x11 cmp).bind fun x13 =>
  some x13))
def Bo (n:Nat) (a:Int) (b:Int) (q0:Al):Option Int :=
  ((Bi q0.buses a).bind fun x9 =>
  ((Bi q0.buses b).bind fun x15 =>
  some (IntKind.i64.wrap (x9.turn-x15.turn))))
def AI {σ:Type}:Nat→(σ→Int→Option (σ×Bool))→(List Int)→Int→σ→Option (Ex σ σ)
  | 0,_,_,_,_=>none
  | n+1,yield_,q0,x_v10,x_v11 =>
    (bif decide (x_v10<((q0.length:Nat):Int)) then
    ((Bi q0 x_v10).bind fun x9 =>
    ((yield_ x_v11 x9).bind fun x13 =>
    (bif (!x13.2) then
    some (Ex.ret x13.1)
    else
    AI n yield_ q0 (IntKind.i64.wrap (x_v10+1)) x13.1)))
    else
    some (Ex.go x_v11))
def Bd {σ:Type} (n:Nat) (yield_:σ→Int→Option (σ×Bool)) (s:σ) (q0:List Int):Option σ :=
  ((AI n yield_ q0 0 s).bind fun o_13=>Ex.bind o_13 (fun r=>some r) fun s_14 =>
  some s_14)
def CR (n:Nat) (s:List Int):Option ((List Int)) :=
  some (s)
def Bf:Nat→Al→Aq→(List Int)→Int→Option (List Int)
  | 0,_,_,_,_=>none
  | n+1,y,broken,x_v10,x_v11 =>
    (bif decide (x_v11<((y.buses.length:Nat):Int)) then
    ((Jj 8 x_v11).bind fun x14 =>
    ((Bi broken.toL x_v11).bind fun x15 =>
    (bif (!x15) then
    ((Kd x_v10 ([x_v11]:List Int)).bind fun x20 =>
    Bf n y broken x20 (IntKind.i64.wrap (x_v11+1)))
    else
    Bf n y broken x_v10 (IntKind.i64.wrap (x_v11+1)))))
    else
    some x_v10)
def Cq (n:Nat) (y:Al) (broken:Aq):Option ((List Int)) :=
  ((Bf n y broken ([]:List Int) 0).bind fun o_34 =>
  ((AB n o_34 (fun(y0:Int)(y1:Int)=>Bo n y0 y1 y)).bind fun x24 =>
  ((CR n x24).bind fun x26 =>
  some (x26))))
def BQ (n:Nat) (n_:BE) (b:Int) (c:Int):Option Bool :=
  ((Bi n_.lane b).bind fun x10 =>
  ((Bi n_.lane c).bind fun x15 =>
  (bif (x10 == x15) then
  ((Jj 8 b).bind fun x21 =>
  ((Bi n_.tm.toL b).bind fun x22 =>
  ((Jj 8 c).bind fun x25 =>
  ((Bi n_.tm.toL c).bind fun x26 =>
  some (decide (x22<x26))))))
  else
  some false)))
def AG (n:Nat) (c:Int) (d:Int) (q0:BE):Option Int :=
  ((Jj 8 c).bind fun x8 =>
  ((Bi q0.tm.toL c).bind fun x9 =>
  ((Jj 8 d).bind fun x12 =>
  ((Bi q0.tm.toL d).bind fun x13 =>
  some (IntKind.i64.wrap (x9-x13))))))
def AC:Nat→BE→Int→(List Int)→Int→Aq→Option ((List Int)×Aq)
  | 0,_,_,_,_,_=>none
  | n+1,n_,x15,x_v10,x_v11,x_v12 =>
    (bif decide (x_v11<((n_.yard.buses.length:Nat):Int)) then
    ((((Jj 8 x_v11).bind fun x24 =>
    ((Bi x_v12.toL x_v11).bind fun x25 =>
    (bif (!x25) then
    (((fun(y0:Int)(y1:Int)=>BQ n n_ y0 y1) x_v11 x15).bind fun x31 =>
    some x31)
    else
    some false))):Option Bool).bind fun o_122 =>
    (bif o_122 then
    ((Kd x_v10 ([x_v11]:List Int)).bind fun x36 =>
    ((Jj 8 x_v11).bind fun x38 =>
    ((Aq.setI x_v12 x_v11 true).bind fun u_186 =>
    AC n n_ x15 x36 (IntKind.i64.wrap (x_v11+1)) u_186)))
    else
    AC n n_ x15 x_v10 (IntKind.i64.wrap (x_v11+1)) x_v12))
    else
    some (x_v10,x_v12))
def Bu (n:Nat) (n_:BE):Option (List (List Int)) :=
  ((Cq n n_.yard n_.broken).bind fun x14 =>
  ((Bd n (fun(s:(List (List Int))×Aq)(x15:Int)=>((((AC n n_ x15 ([]:List Int) 0 s.2).bind fun o_104 =>
  ((AB n o_104.1 (fun(y0:Int)(y1:Int)=>AG n y0 y1 n_)).bind fun x42 =>
  ((Jj 8 x15).bind fun x44 =>
  ((Aq.setI o_104.2 x15 true).bind fun u_233 =>
  ((Kd s.1 ([x42]:List (List Int))).bind fun x48 =>
  some (x48,u_233)))))):Option ((List (List Int))×Aq)).bind fun s1=>some (s1,true))) (([]:List (List Int)),(Aq.mk false false false false false false false false)) x14).bind fun o_65 =>
  some o_65.1))
def CB (n:Nat) (y:Al) (lanes:List Int) (order:List Int) (broken:List Int):Option ((List Int)×Int) :=
  ((Cp n y lanes order broken).bind fun x18 =>
  (bif (x18.2 != 0) then
  some (([]:List Int),x18.2)
  else
  ((Bu n x18.1).bind fun x25 =>
  ((Bp n x25).bind fun x26 =>
  ((Lz x26).bind fun u_80 =>
  some (u_80,0))))))
def Eb (n:Nat) (y:Al) (lanes:List Int) (order:List Int) (broken:List Int):Option ((List (List Int))×Int) :=
  ((Cp n y lanes order broken).bind fun x17 =>
  (bif (x17.2 != 0) then
  some (([]:List (List Int)),x17.2)
  else
  ((Bu n x17.1).bind fun x24 =>
  some (x24,0))))
def Bw:Nat→Al→(List Int)→Aq→(List A9)→Int→Option (List A9)
  | 0,_,_,_,_,_=>none
  | n+1,y,lanes,broken,x_v10,x_v11 =>
    (bif decide (x_v11<((y.buses.length:Nat):Int)) then
    ((Jj 8 x_v11).bind fun x50 =>
    ((Bi broken.toL x_v11).bind fun x51 =>
    (bif x51 then
    ((Bi lanes x_v11).bind fun x55 =>
    ((Bi x_v10 x55).bind fun x57 =>
    ((Kd x57.buses ([x_v11]:List Int)).bind fun x65 =>
    ((upd x_v10 x55 ({ x57 with buses:=x65 }:A9)).bind fun u_307 =>
    Bw n y lanes broken u_307 (IntKind.i64.wrap (x_v11+1))))))
    else
    Bw n y lanes broken x_v10 (IntKind.i64.wrap (x_v11+1)))))
    else
    some x_v10)
def CX (n:Nat) (y:Al) (lanes:List Int) (broken:Aq):Option (List A9) :=
  ((mk ((y.room.length:Nat):Int) ((A9.mk ([]:List Int) 0):A9)).bind fun x15 =>
  ((Cq n y broken).bind fun x18 =>
  ((Bd n (fun(s:List A9)(x19:Int)=>((((Bi lanes x19).bind fun x23 =>
  ((Bi s x23).bind fun x25 =>
  ((Kd x25.buses ([x19]:List Int)).bind fun x33 =>
  ((upd s x23 ({ x25 with buses:=x33 }:A9)).bind fun u_144 =>
  ((upd u_144 x23 ({ ({ x25 with buses:=x33 }:A9) with down:=IntKind.i64.wrap (x25.down+1) }:A9)).bind fun u_169 =>
  some u_169))))):Option (List A9)).bind fun s1=>some (s1,true))) x15 x18).bind fun o_65 =>
  ((Bw n y lanes broken o_65 0).bind fun o_223 =>
  some o_223))))
mutual
def BF:Nat→Aq→Int→Al→(List Aq)→Int→Option (List Aq)
  | 0,_,_,_,_,_=>none
  | n+1,s_,more,y,x_v10,x_v11 =>
    (((bif decide (x_v11<((y.buses.length:Nat):Int)) then
    some (decide (more>0))
    else
    some false):Option Bool).bind fun o_61 =>
    (bif o_61 then
    ((Jj 8 x_v11).bind fun x29 =>
    ((Aq.setI s_ x_v11 true).bind fun u_95 =>
    ((lane_Yard_breaks_1 n u_95 (IntKind.i64.wrap (x_v11+1)) (IntKind.i64.wrap (more-1)) x_v10 y).bind fun x36 =>
    BF n s_ more y x36 (IntKind.i64.wrap (x_v11+1)))))
    else
    some x_v10))
def lane_Yard_breaks_1:Nat→Aq→Int→Int→(List Aq)→Al→Option (List Aq)
  | 0,_,_,_,_,_=>none
  | n+1,s_,from_,more,out,y =>
    ((Kd out ([s_]:List Aq)).bind fun x14 =>
    ((BF n s_ more y x14 from_).bind fun o_48 =>
    some o_48))
end
def D1 (n:Nat) (y:Al):Option (List Aq) :=
  ((lane_Yard_breaks_1 n (Aq.mk false false false false false false false false) 0 y.broken ([]:List Aq) y).bind fun x9 =>
  some x9)
def Cj (n:Nat) (b:B6):Option Int :=
  some b.lo
def Cw (n:Nat) (b:B6):Option Int :=
  some b.hi
def J6 (n:Nat)  : Option (List D9) :=
  some ([(D9.mk (fun(y0:B6)=>Cj n y0)),(D9.mk (fun(y0:B6)=>Cw n y0))]:List D9)
mutual
def By:Nat→Br→A9→Al→Int→(List D9)→Int→Ao→Int→(List (Br×AV))→Option (Ao×Int×(List (Br×AV)))
  | 0,_,_,_,_,_,_,_,_,_=>none
  | n+1,s_,c,y,x35,x37,x_v10,x_v11,x_v12,x_v13 =>
    (bif decide (x_v10<((x37.length:Nat):Int)) then
    ((Bi x37 x_v10).bind fun x42 =>
    ((Bi y.buses x35).bind fun x49 =>
    ((x42.tm x49).bind fun x51 =>
    (((bif decide (s_.behind<c.down) then
    ((CA n ([s_.last,x51]:List Int)).bind fun x67 =>
    some x67)
    else
    some s_.last):Option Int).bind fun o_184 =>
    ((lane_Yard_worst_1 n (Br.mk (IntKind.i64.wrap (s_.behind+1)) o_184) c x_v13 y).bind fun x71 =>
    (((bif decide (x51≤s_.last) then
    some (IntKind.i64.wrap (x71.1.many+1))
    else
    some x71.1.many):Option Int).bind fun o_249 =>
    (((bif (x_v10 == 0) then
    some true
    else
    some (decide (o_249>x_v12))):Option Bool).bind fun o_263 =>
    (bif o_263 then
    ((Jj 8 x35).bind fun x93 =>
    ((Ao.setI x71.1.tm x35 x51).bind fun u_292 =>
    By n s_ c y x35 x37 (IntKind.i64.wrap (x_v10+1)) u_292 o_249 x71.2))
    else
    By n s_ c y x35 x37 (IntKind.i64.wrap (x_v10+1)) x_v11 x_v12 x71.2))))))))
    else
    some (x_v11,x_v12,x_v13))
def lane_Yard_worst_1:Nat→Br→A9→(List (Br×AV))→Al→Option (AV×(List (Br×AV)))
  | 0,_,_,_,_=>none
  | n+1,s_,c,known,y =>
    (bif (s_.behind == ((c.buses.length:Nat):Int)) then
    some ((AV.mk 0 (Ao.mk 0 0 0 0 0 0 0 0)),known)
    else
    ((some (FC known s_ ((AV.mk 0 (Ao.mk 0 0 0 0 0 0 0 0)):AV))).bind fun x26 =>
    (bif x26.2 then
    some (x26.1,known)
    else
    ((Bi c.buses s_.behind).bind fun x35 =>
    ((J6 n ).bind fun x37 =>
    ((By n s_ c y x35 x37 0 (Ao.mk 0 0 0 0 0 0 0 0) 0 known).bind fun o_98 =>
    some ((AV.mk o_98.2.1 o_98.1),(GR o_98.2.2 s_ (AV.mk o_98.2.1 o_98.1)))))))))
end
def DL (n:Nat) (y:Al) (c:A9):Option AV :=
  ((lane_Yard_worst_1 n (Br.mk 0 (-1)) c ([]:List (Br×AV)) y).bind fun x11 =>
  some x11.1)
def BM:Nat→A9→AV→Int→Ao→Option Ao
  | 0,_,_,_,_=>none
  | n+1,x30,x34,x_v30,x_v31 =>
    (bif decide (x_v30<((x30.buses.length:Nat):Int)) then
    ((Bi x30.buses x_v30).bind fun x44 =>
    ((Jj 8 x44).bind fun x49 =>
    ((Bi x34.tm.toL x44).bind fun x50 =>
    ((Jj 8 x44).bind fun x51 =>
    ((Ao.setI x_v31 x44 x50).bind fun u_213 =>
    BM n x30 x34 (IntKind.i64.wrap (x_v30+1)) u_213)))))
    else
    some x_v31)
def BN:Nat→Al→(List A9)→Int→Int→Ao→Option (Int×Ao)
  | 0,_,_,_,_,_=>none
  | n+1,y,x26,x_v20,x_v21,x_v22 =>
    (bif decide (x_v20<((x26.length:Nat):Int)) then
    ((Bi x26 x_v20).bind fun x30 =>
    ((DL n y x30).bind fun x34 =>
    ((BM n x30 x34 0 x_v22).bind fun o_170 =>
    BN n y x26 (IntKind.i64.wrap (x_v20+1)) (IntKind.i64.wrap (x_v21+x34.many)) o_170)))
    else
    some (x_v21,x_v22))
def Bz:Nat→Al→(List Int)→(List Aq)→Int→Int→Ao→Aq→Option (Int×Ao×Aq)
  | 0,_,_,_,_,_,_,_=>none
  | n+1,y,lanes,x17,x_v10,x_v11,x_v12,x_v13 =>
    (bif decide (x_v10<((x17.length:Nat):Int)) then
    ((Bi x17 x_v10).bind fun x21 =>
    ((CX n y lanes x21).bind fun x26 =>
    ((BN n y x26 0 0 (Ao.mk 0 0 0 0 0 0 0 0)).bind fun o_104 =>
    (bif decide (o_104.1>x_v11) then
    Bz n y lanes x17 (IntKind.i64.wrap (x_v10+1)) o_104.1 o_104.2 x21
    else
    Bz n y lanes x17 (IntKind.i64.wrap (x_v10+1)) x_v11 x_v12 x_v13))))
    else
    some (x_v11,x_v12,x_v13))
def Ec (n:Nat) (y:Al) (lanes:List Int):Option (Ao×Aq×Int) :=
  ((D1 n y).bind fun x17 =>
  ((Bz n y lanes x17 0 (-1) (Ao.mk 0 0 0 0 0 0 0 0) (Aq.mk false false false false false false false false)).bind fun o_42 =>
  some (o_42.2.1,o_42.2.2,o_42.1)))
def BY (n:Nat) (b:Int) (q0:Aq) (q1:Al):Option Int :=
  ((Jj 8 b).bind fun x6 =>
  ((Bi q0.toL b).bind fun x7 =>
  (bif x7 then
  some 2001
  else
  ((Bi q1.buses b).bind fun x11 =>
  some x11.turn))))
def DF:Nat→(List Int)→Int→Option (Ex Int Unit)
  | 0,_,_=>none
  | n+1,vals,x_v10 =>
    (bif decide (x_v10<((vals.length:Nat):Int)) then
    ((Bi vals x_v10).bind fun x10 =>
    (bif (x10 != 0) then
    some (Ex.ret x10)
    else
    DF n vals (IntKind.i64.wrap (x_v10+1))))
    else
    some (Ex.go ()))
def Iw (n:Nat) (vals:List Int):Option Int :=
  ((DF n vals 0).bind fun o_8=>Ex.bind o_8 (fun r=>some r) fun s_9 =>
  some 0)
def Ed (n:Nat) (a:Int) (b:Int) (q0:Ao) (q1:Int→Option Int):Option Int :=
  ((Jj 8 a).bind fun x8 =>
  ((Bi q0.toL a).bind fun x9 =>
  ((Jj 8 b).bind fun x11 =>
  ((Bi q0.toL b).bind fun x12 =>
  ((q1 b).bind fun x16 =>
  ((q1 a).bind fun x19 =>
  ((Iw n ([IntKind.i64.wrap (x9-x12),IntKind.i64.wrap (x16-x19),IntKind.i64.wrap (a-b)]:List Int)).bind fun x25 =>
  some x25)))))))
def CP:Nat→Al→(Ao×Aq×Int)→(List Int)→(List Int)→Int→Option ((List Int)×(List Int))
  | 0,_,_,_,_,_=>none
  | n+1,y,x25,x_v10,x_v11,x_v12 =>
    (bif decide (x_v12<((y.buses.length:Nat):Int)) then
    ((Kd x_v10 ([x_v12]:List Int)).bind fun x38 =>
    ((Jj 8 x_v12).bind fun x40 =>
    ((Bi x25.2.1.toL x_v12).bind fun x41 =>
    (bif x41 then
    ((Kd x_v11 ([x_v12]:List Int)).bind fun x45 =>
    CP n y x25 x38 x45 (IntKind.i64.wrap (x_v12+1)))
    else
    CP n y x25 x38 x_v11 (IntKind.i64.wrap (x_v12+1))))))
    else
    some (x_v10,x_v11))
def Ix (n:Nat) (y:Al) (lanes:List Int):Option ((List Int)×(List Int)×Int×Int) :=
  ((BU n y).bind fun x14 =>
  (bif (x14 != 0) then
  some (([]:List Int),([]:List Int),0,x14)
  else
  ((Co n y lanes).bind fun x20 =>
  (bif (!x20) then
  some (([]:List Int),([]:List Int),0,2)
  else
  ((Ec n y lanes).bind fun x25 =>
  ((CP n y x25 ([]:List Int) ([]:List Int) 0).bind fun o_99 =>
  ((AB n o_99.1 (fun(y0:Int)(y1:Int)=>Ed n y0 y1 x25.1 (fun(y0:Int)=>BY n y0 x25.2.1 y))).bind fun x50 =>
  some (x50,o_99.2,x25.2.2,0))))))))
def Di:Nat→A9→Int→Aq→Aq→Option (Aq×Aq)
  | 0,_,_,_,_=>none
  | n+1,x31,x_v30,x_v31,x_v32 =>
    (bif decide (x_v30<((x31.buses.length:Nat):Int)) then
    ((Bi x31.buses x_v30).bind fun x39 =>
    ((Jj 8 x39).bind fun x48 =>
    ((Aq.setI x_v31 x39 true).bind fun us0 =>
    ((Jj 8 x39).bind fun x50 =>
    ((Aq.setI x_v32 x39 (decide (x_v30≥x31.down))).bind fun us1 =>
    Di n x31 (IntKind.i64.wrap (x_v30+1)) us0 us1)))))
    else
    some (x_v31,x_v32))
def C4:Nat→Int→Al→(List A9)→Int→Int→(List (F5×Int))→Option (Int×(List (F5×Int)))
  | 0,_,_,_,_,_,_=>none
  | n+1,many,y,x27,x_v20,x_v21,x_v22 =>
    (bif decide (x_v20<((x27.length:Nat):Int)) then
    ((Bi x27 x_v20).bind fun x31 =>
    ((Di n x31 0 (Aq.mk false false false false false false false false) (Aq.mk false false false false false false false false)).bind fun o_134 =>
    ((some (FC x_v22 (F5.mk o_134.1 o_134.2) (0:Int))).bind fun x55 =>
    (bif (!x55.2) then
    ((DL n y x31).bind fun x64 =>
    ((some (FC (GR x_v22 (F5.mk o_134.1 o_134.2) x64.many) (F5.mk o_134.1 o_134.2) (0:Int))).bind fun x69 =>
    C4 n many y x27 (IntKind.i64.wrap (x_v20+1)) (IntKind.i64.wrap (x_v21+x69.1)) (GR x_v22 (F5.mk o_134.1 o_134.2) x64.many)))
    else
    ((some (FC x_v22 (F5.mk o_134.1 o_134.2) (0:Int))).bind fun x69 =>
    C4 n many y x27 (IntKind.i64.wrap (x_v20+1)) (IntKind.i64.wrap (x_v21+x69.1)) x_v22)))))
    else
    some (x_v21,x_v22))
def C5:Nat→(List Int)→Bool→Int→(List Aq)→Al→Int→Int→(List (F5×Int))→Option (Int×(List (F5×Int)))
  | 0,_,_,_,_,_,_,_,_=>none
  | n+1,l,found,many,breaks,y,x_v10,x_v11,x_v12 =>
    (bif decide (x_v10<((breaks.length:Nat):Int)) then
    ((Bi breaks x_v10).bind fun x22 =>
    ((CX n y l x22).bind fun x27 =>
    ((C4 n many y x27 0 0 x_v12).bind fun o_84 =>
    ((CA n ([x_v11,o_84.1]:List Int)).bind fun x75 =>
    (bif found then
    (bif decide (x75≥many) then
    some (x75,o_84.2)
    else
    C5 n l found many breaks y (IntKind.i64.wrap (x_v10+1)) x75 o_84.2)
    else
    C5 n l found many breaks y (IntKind.i64.wrap (x_v10+1)) x75 o_84.2)))))
    else
    some (x_v11,x_v12))
def He (n:Nat) (l:List Int) (found:Bool) (many:Int) (breaks:List Aq) (y:Al) (known:List (F5×Int)):Option (Int×(List (F5×Int))) :=
  ((C5 n l found many breaks y 0 0 known).bind fun o_21 =>
  some (o_21.1,o_21.2))
mutual
def C6:Nat→(List Int)→(List Int)→Al→(List Aq)→(List Int)→Int→Bool→Int→(List Int)→(List (F5×Int))→Option ((List Int)×Bool×Int×(List Int)×(List (F5×Int)))
  | 0,_,_,_,_,_,_,_,_,_,_=>none
  | n+1,l,room,y,breaks,x_v10,x_v11,x_v12,x_v13,x_v14,x_v15 =>
    (bif decide (x_v11<((room.length:Nat):Int)) then
    ((Bi x_v10 x_v11).bind fun x37 =>
    (bif decide (x37>0) then
    ((Bi x_v10 x_v11).bind fun x42 =>
    ((Bi x_v10 x_v11).bind fun x45 =>
    ((upd x_v10 x_v11 (IntKind.i64.wrap (x42-1))).bind fun u_235 =>
    ((Kd l ([x_v11]:List Int)).bind fun x50 =>
    ((lane_Best_2 n x50 x_v12 x_v13 x_v14 u_235 y breaks x_v15).bind fun x51 =>
    ((Bi x51.2.2.2.1 x_v11).bind fun x54 =>
    ((Bi x51.2.2.2.1 x_v11).bind fun x57 =>
    ((upd x51.2.2.2.1 x_v11 (IntKind.i64.wrap (x54+1))).bind fun u_331 =>
    C6 n l room y breaks u_331 (IntKind.i64.wrap (x_v11+1)) x51.1 x51.2.1 x51.2.2.1 x51.2.2.2.2))))))))
    else
    C6 n l room y breaks x_v10 (IntKind.i64.wrap (x_v11+1)) x_v12 x_v13 x_v14 x_v15))
    else
    some (x_v10,x_v12,x_v13,x_v14,x_v15))
def lane_Best_2:Nat→(List Int)→Bool→Int→(List Int)→(List Int)→Al→(List Aq)→(List (F5×Int))→Option (Bool×Int×(List Int)×(List Int)×(List (F5×Int)))
  | 0,_,_,_,_,_,_,_,_=>none
  | n+1,l,found,many,best,room,y,breaks,known =>
    (bif (((l.length:Nat):Int) == ((y.buses.length:Nat):Int)) then
    ((He n l found many breaks y known).bind fun x19 =>
    (((bif (!found) then
    some true
    else
    some (decide (x19.1<many))):Option Bool).bind fun o_63 =>
    (((bif o_63 then
    ((Be n l).bind fun x28 =>
    some (true,x19.1,x28))
    else
    some (found,many,best)):Option (Bool×Int×(List Int))).bind fun o_79 =>
    some (o_79.1,o_79.2.1,o_79.2.2,room,x19.2))))
    else
    ((C6 n l room y breaks room 0 found many best known).bind fun o_166 =>
    some (o_166.2.1,o_166.2.2.1,o_166.2.2.2.1,o_166.1,o_166.2.2.2.2)))
end
def J7 (n:Nat) (y:Al):Option ((List Int)×Int×Int) :=
  ((BU n y).bind fun x14 =>
  (bif (x14 != 0) then
  some (([]:List Int),0,x14)
  else
  ((D1 n y).bind fun x19 =>
  ((Be n y.room).bind fun x22 =>
  ((lane_Best_2 n ([]:List Int) false 0 ([]:List Int) x22 y x19 ([]:List (F5×Int))).bind fun x27 =>
  (bif (!x27.1) then
  some (([]:List Int),0,9)
  else
  some (x27.2.2.1,x27.2.1,0)))))))
def FZ (n:Nat)  : Option Al :=
  some (Al.mk ([2,2]:List Int) ([B6.mk 100 120 40,B6.mk 110 130 20,B6.mk 125 140 30,B6.mk 150 160 10]:List B6) 0)
def E9:Nat→(List Int)→(List Int)→Int→Option (Ex Bool Unit)
  | 0,_,_,_=>none
  | n+1,a,b,x_v10 =>
    (bif decide (x_v10<((a.length:Nat):Int)) then
    ((Bi a x_v10).bind fun x19 =>
    ((Bi b x_v10).bind fun x23 =>
    (bif (x19 != x23) then
    some (Ex.ret false)
    else
    E9 n a b (IntKind.i64.wrap (x_v10+1)))))
    else
    some (Ex.go ()))
def IP (n:Nat) (a:List Int) (b:List Int):Option Bool :=
  (bif (((a.length:Nat):Int) != ((b.length:Nat):Int)) then
  some false
  else
  ((E9 n a b 0).bind fun o_11=>Ex.bind o_11 (fun r=>some r) fun s_12 =>
  some true))
def Fe (n:Nat)  : Option Bool :=
  ((FZ n ).bind fun x11 =>
  ((CB n x11 ([0,0,1,1]:List Int) ([0,1,2,3]:List Int) ([]:List Int)).bind fun x14 =>
  ((FZ n ).bind fun x18 =>
  ((Ix n x18 ([0,1,1,0]:List Int)).bind fun x20 =>
  ((FZ n ).bind fun x26 =>
  ((J7 n x26).bind fun x27 =>
  (bif (x14.2 == 0) then
  ((IP n x14.1 ([0,2]:List Int)).bind fun x36 =>
  (bif x36 then
  (bif (x20.2.2.2 == 0) then
  (bif (x20.2.2.1 == 2) then
  (bif (x27.2.2 == 0) then
  (bif (x27.2.1 == 2) then
  ((IP n x27.1 ([0,0,1,1]:List Int)).bind fun x57 =>
  some x57)
  else
  some false)
  else
  some false)
  else
  some false)
  else
  some false)
  else
  some false))
  else
  some false)))))))
def Dj (n:Nat) (l:List Int):Option (List Int) :=
  ((Kd ([]:List Int) l).bind fun x4 =>
  some x4)
def Dk:Nat→Al→(List B6)→Int→Option (List B6)
  | 0,_,_,_=>none
  | n+1,y,x_v10,x_v11 =>
    (bif decide (x_v11<((y.buses.length:Nat):Int)) then
    ((Bi y.buses x_v11).bind fun x22 =>
    ((Kd x_v10 ([x22]:List B6)).bind fun x34 =>
    Dk n y x34 (IntKind.i64.wrap (x_v11+1))))
    else
    some x_v10)
def Ga (n:Nat) (y:Al):Option Al :=
  ((Dj n y.room).bind fun x8 =>
  ((Dk n y ([]:List B6) 0).bind fun o_50 =>
  some (Al.mk x8 o_50 y.broken)))
def FM (n:Nat) (n_:Int) (low:Int) (high:Int):Option Bool :=
  (bif decide (n_≥low) then
  some (decide (n_≤high))
  else
  some false)
def CG:Nat→Al→Int→Option (Ex Int Unit)
  | 0,_,_=>none
  | n+1,y,x_v10 =>
    (bif decide (x_v10<((y.room.length:Nat):Int)) then
    ((Bi y.room x_v10).bind fun x37 =>
    ((FM n x37 0 8).bind fun x39 =>
    (bif (!x39) then
    some (Ex.ret 1)
    else
    CG n y (IntKind.i64.wrap (x_v10+1)))))
    else
    some (Ex.go ()))
def CH:Nat→Al→Int→B6→Int→Option (Ex Int Unit)
  | 0,_,_,_,_=>none
  | n+1,y,x_v20,x51,x_v30 =>
    (bif decide (x_v30<x_v20) then
    ((Bi y.buses x_v30).bind fun x78 =>
    (bif (x78.turn == x51.turn) then
    some (Ex.ret 1)
    else
    CH n y x_v20 x51 (IntKind.i64.wrap (x_v30+1))))
    else
    some (Ex.go ()))
def CI:Nat→Al→Int→Option (Ex Int Unit)
  | 0,_,_=>none
  | n+1,y,x_v20 =>
    (bif decide (x_v20<((y.buses.length:Nat):Int)) then
    ((Bi y.buses x_v20).bind fun x51 =>
    ((((FM n x51.lo 0 x51.hi).bind fun x57 =>
    (bif (!x57) then
    some true
    else
    (bif decide (x51.hi>2000) then
    some true
    else
    ((FM n x51.turn 0 2000).bind fun x67 =>
    some (!x67))))):Option Bool).bind fun o_162 =>
    (bif o_162 then
    some (Ex.ret 1)
    else
    ((CH n y x_v20 x51 0).bind fun o_211=>Ex.bind o_211 (fun r=>some (Ex.ret r)) fun s_212 =>
    CI n y (IntKind.i64.wrap (x_v20+1))))))
    else
    some (Ex.go ()))
def Gb (n:Nat) (y:Al):Option Int :=
  (((bif decide (((y.room.length:Nat):Int)>3) then
  some true
  else
  some (decide (((y.buses.length:Nat):Int)>8))):Option Bool).bind fun o_14 =>
  (bif o_14 then
  some 3
  else
  (((bif decide (((y.room.length:Nat):Int)<1) then
  some true
  else
  ((FM n y.broken 0 2).bind fun x24 =>
  some (!x24))):Option Bool).bind fun o_33 =>
  (bif o_33 then
  some 1
  else
  ((CG n y 0).bind fun o_65=>Ex.bind o_65 (fun r=>some r) fun s_66 =>
  ((CI n y 0).bind fun o_120=>Ex.bind o_120 (fun r=>some r) fun s_121 =>
  some 0))))))
def Gc (n:Nat) (y:Al):Option Bool :=
  ((Hd n y).bind fun x4 =>
  (bif x4 then
  ((Gb n y).bind fun x7 =>
  some (x7 == 0))
  else
  some false))
def DN:Nat→(List Int)→Int→Int→Option (Ex Bool Unit)
  | 0,_,_,_=>none
  | n+1,l,n_,x_v10 =>
    (bif decide (x_v10<((l.length:Nat):Int)) then
    ((Bi l x_v10).bind fun x14 =>
    (bif (x14 == n_) then
    some (Ex.ret true)
    else
    DN n l n_ (IntKind.i64.wrap (x_v10+1))))
    else
    some (Ex.go ()))
def IQ (n:Nat) (l:List Int) (n_:Int):Option Bool :=
  ((DN n l n_ 0).bind fun o_6=>Ex.bind o_6 (fun r=>some r) fun s_7 =>
  some false)
def Cu:Nat→Al→(List Int)→Int→Option (List Int)
  | 0,_,_,_=>none
  | n+1,y,x_v20,x_v21 =>
    (((bif decide (x_v21>0) then
    ((Bi x_v20 x_v21).bind fun x32 =>
    ((Bi y.buses x32).bind fun x34 =>
    ((Bi x_v20 (IntKind.i64.wrap (x_v21-1))).bind fun x42 =>
    ((Bi y.buses x42).bind fun x44 =>
    some (decide (x34.turn<x44.turn))))))
    else
    some false):Option Bool).bind fun o_105 =>
    (bif o_105 then
    ((Bi x_v20 (IntKind.i64.wrap (x_v21-1))).bind fun x59 =>
    ((Bi x_v20 x_v21).bind fun x63 =>
    ((Bi x_v20 x_v21).bind fun x65 =>
    ((upd x_v20 x_v21 x59).bind fun u_225 =>
    ((Bi u_225 (IntKind.i64.wrap (x_v21-1))).bind fun x66 =>
    ((upd u_225 (IntKind.i64.wrap (x_v21-1)) x63).bind fun u_249 =>
    Cu n y u_249 (IntKind.i64.wrap (x_v21-1))))))))
    else
    some x_v20))
def Cv:Nat→Al→(List Int)→(List Int)→Int→Option (List Int)
  | 0,_,_,_,_=>none
  | n+1,y,broken,x_v10,x_v11 =>
    (bif decide (x_v11<((y.buses.length:Nat):Int)) then
    ((IQ n broken x_v11).bind fun x17 =>
    (bif x17 then
    Cv n y broken x_v10 (IntKind.i64.wrap (x_v11+1))
    else
    ((Kd x_v10 ([x_v11]:List Int)).bind fun x21 =>
    ((Cu n y x21 (IntKind.i64.wrap (((x21.length:Nat):Int)-1))).bind fun o_92 =>
    Cv n y broken o_92 (IntKind.i64.wrap (x_v11+1))))))
    else
    some x_v10)
def Gd (n:Nat) (y:Al) (broken:List Int):Option (List Int) :=
  ((Cv n y broken ([]:List Int) 0).bind fun o_29 =>
  some o_29)
def EA (n:Nat) (words:List (IK .u16)) (at_:Int):Option Int :=
  (bif (((words.length:Nat):Int) == 0) then
  some 0
  else
  ((nz ((words.length:Nat):Int)).bind fun x12 =>
  ((Bi words (Int.tmod at_ ((words.length:Nat):Int))).bind fun x13 =>
  some (IntKind.i64.wrap x13.n))))
def CC:Nat→(List Int)→(List Int)→Int→Option ((List Int)×(List Int))
  | 0,_,_,_=>none
  | n+1,x_v20,x_v21,x_v22 =>
    (((bif decide (x_v22>0) then
    ((Bi x_v21 x_v22).bind fun x71 =>
    ((Bi x_v21 (IntKind.i64.wrap (x_v22-1))).bind fun x76 =>
    some (decide (x71<x76))))
    else
    some false):Option Bool).bind fun o_201 =>
    (bif o_201 then
    ((Bi x_v20 (IntKind.i64.wrap (x_v22-1))).bind fun x90 =>
    ((Bi x_v20 x_v22).bind fun x94 =>
    ((Bi x_v20 x_v22).bind fun x96 =>
    ((upd x_v20 x_v22 x90).bind fun u_293 =>
    ((Bi u_293 (IntKind.i64.wrap (x_v22-1))).bind fun x97 =>
    ((upd u_293 (IntKind.i64.wrap (x_v22-1)) x94).bind fun u_317 =>
    ((Bi x_v21 (IntKind.i64.wrap (x_v22-1))).bind fun x106 =>
    ((Bi x_v21 x_v22).bind fun x110 =>
    ((Bi x_v21 x_v22).bind fun x112 =>
    ((upd x_v21 x_v22 x106).bind fun u_374 =>
    ((Bi u_374 (IntKind.i64.wrap (x_v22-1))).bind fun x113 =>
    ((upd u_374 (IntKind.i64.wrap (x_v22-1)) x110).bind fun u_398 =>
    CC n  u_317 u_398 (IntKind.i64.wrap (x_v22-1))))))))))))))
    else
    some (x_v20,x_v21)))
def Dm:Nat→Al→(List (IK .u16))→(List Int)→(List Int)→Int→Option ((List Int)×(List Int))
  | 0,_,_,_,_,_=>none
  | n+1,y,words,x_v10,x_v11,x_v12 =>
    (bif decide (x_v12<((y.buses.length:Nat):Int)) then
    ((Bi y.buses x_v12).bind fun x22 =>
    ((EA n words x_v12).bind fun x26 =>
    ((nz (IntKind.i64.wrap ((IntKind.i64.wrap (x22.hi-x22.lo))+1))).bind fun x37 =>
    (((bif ((Int.tmod x26 3) == 0) then
    some x22.lo
    else
    (bif ((Int.tmod x26 3) == 1) then
    some x22.hi
    else
    some (IntKind.i64.wrap (x22.lo+(Int.tmod (IntKind.i64.wrap (Int.tdiv x26 3)) (IntKind.i64.wrap ((IntKind.i64.wrap (x22.hi-x22.lo))+1))))))):Option Int).bind fun o_102 =>
    ((Kd x_v10 ([x_v12]:List Int)).bind fun x52 =>
    ((EA n words (IntKind.i64.wrap ((IntKind.i64.wrap (2*x_v12))+1))).bind fun x60 =>
    ((Kd x_v11 ([IntKind.i64.wrap ((IntKind.i64.wrap (2*o_102))+(Int.tmod x60 2))]:List Int)).bind fun x64 =>
    ((CC n  x52 x64 x_v12).bind fun o_188 =>
    Dm n y words o_188.1 o_188.2 (IntKind.i64.wrap (x_v12+1))))))))))
    else
    some (x_v10,x_v11))
def Hf (n:Nat) (y:Al) (words:List (IK .u16)):Option (List Int) :=
  ((Dm n y words ([]:List Int) ([]:List Int) 0).bind fun o_39 =>
  some o_39.1)
def CD:Nat→Al→(List (IK .u16))→(List Int)→Int→Option (List Int)
  | 0,_,_,_,_=>none
  | n+1,y,words,x_v10,x_v11 =>
    (bif decide (x_v11<((y.buses.length:Nat):Int)) then
    (((bif decide (((x_v10.length:Nat):Int)<y.broken) then
    ((EA n words (IntKind.i64.wrap ((IntKind.i64.wrap (3*x_v11))+2))).bind fun x24 =>
    some ((Int.tmod x24 4) == 0))
    else
    some false):Option Bool).bind fun o_45 =>
    (bif o_45 then
    ((Kd x_v10 ([x_v11]:List Int)).bind fun x31 =>
    CD n y words x31 (IntKind.i64.wrap (x_v11+1)))
    else
    CD n y words x_v10 (IntKind.i64.wrap (x_v11+1))))
    else
    some x_v10)
def Hg (n:Nat) (y:Al) (words:List (IK .u16)):Option (List Int) :=
  ((CD n y words ([]:List Int) 0).bind fun o_29 =>
  some o_29)
def Cx:Nat→Al→(List Int)→(List Int)→Int→Int→Option Int
  | 0,_,_,_,_,_=>none
  | n+1,y,x14,x_v10,x_v20,x_v21 =>
    (((bif decide (x_v20<((y.room.length:Nat):Int)) then
    ((Bi x_v10 x_v21).bind fun x39 =>
    ((Bi y.room x_v21).bind fun x44 =>
    some (decide (x39≥x44))))
    else
    some false):Option Bool).bind fun o_98 =>
    (bif o_98 then
    ((nz ((y.room.length:Nat):Int)).bind fun x55 =>
    Cx n y x14 x_v10 (IntKind.i64.wrap (x_v20+1)) (Int.tmod (IntKind.i64.wrap (x_v21+1)) ((y.room.length:Nat):Int)))
    else
    some x_v21))
def Cy:Nat→Al→(List (IK .u16))→(List Int)→(List Int)→(List Int)→Int→Option (Ex ((List Int)×Bool) ((List Int)×(List Int)))
  | 0,_,_,_,_,_,_=>none
  | n+1,y,words,x14,x_v10,x_v11,x_v12 =>
    (bif decide (x_v12<((y.buses.length:Nat):Int)) then
    ((EA n words (IntKind.i64.wrap ((IntKind.i64.wrap (5*x_v12))+1))).bind fun x26 =>
    ((nz ((y.room.length:Nat):Int)).bind fun x30 =>
    ((Cx n y x14 x_v10 0 (Int.tmod x26 ((y.room.length:Nat):Int))).bind fun o_85 =>
    ((Bi x_v10 o_85).bind fun x58 =>
    ((Bi y.room o_85).bind fun x63 =>
    (bif decide (x58≥x63) then
    some (Ex.ret (([]:List Int),false))
    else
    ((Bi x_v10 o_85).bind fun x68 =>
    ((Bi x_v10 o_85).bind fun x71 =>
    ((upd x_v10 o_85 (IntKind.i64.wrap (x68+1))).bind fun u_220 =>
    ((Kd x_v11 ([o_85]:List Int)).bind fun x75 =>
    Cy n y words x14 u_220 x75 (IntKind.i64.wrap (x_v12+1))))))))))))
    else
    some (Ex.go (x_v10,x_v11)))
def Fh (n:Nat) (y:Al) (words:List (IK .u16)):Option ((List Int)×Bool) :=
  ((mk ((y.room.length:Nat):Int) (0:Int)).bind fun x14 =>
  ((Cy n y words x14 x14 ([]:List Int) 0).bind fun o_51=>Ex.bind o_51 (fun r=>some r) fun s_52 =>
  some (s_52.2,true)))
def CJ:Nat→(List Int)→Int→Int→Option (Ex Int Unit)
  | 0,_,_,_=>none
  | n+1,order,bus,x_v10 =>
    (bif decide (x_v10<((order.length:Nat):Int)) then
    ((Bi order x_v10).bind fun x14 =>
    (bif (x14 == bus) then
    some (Ex.ret x_v10)
    else
    CJ n order bus (IntKind.i64.wrap (x_v10+1))))
    else
    some (Ex.go ()))
def CQ (n:Nat) (order:List Int) (bus:Int):Option Int :=
  ((CJ n order bus 0).bind fun o_6=>Ex.bind o_6 (fun r=>some r) fun s_7 =>
  some (-1))
def BV:Nat→Al→(Bool×(List Int))→(List Int)→((List (List Int))×Int)→(List Bool)→(List Bool)→Int→Int→(List Bool)→Int→Int→Int→Option (Ex Bool ((List Bool)×Int))
  | 0,_,_,_,_,_,_,_,_,_,_,_,_=>none
  | n+1,y,o_27,x38,x51,x86,x_v10,x_v12,x97,x_v20,x_v21,x_v22,x_v23 =>
    ((Bi x51.1 x_v12).bind fun x102 =>
    (bif decide (x_v21<((x102.length:Nat):Int)) then
    ((Bi x51.1 x_v12).bind fun x110 =>
    ((Bi x110 x_v21).bind fun x113 =>
    ((((FM n x113 0 (IntKind.i64.wrap (((y.buses.length:Nat):Int)-1))).bind fun x118 =>
    (bif (!x118) then
    some true
    else
    ((Bi x_v10 x113).bind fun x123 =>
    (bif x123 then
    some true
    else
    ((Bi x_v20 x113).bind fun x129 =>
    (bif x129 then
    some true
    else
    ((Bi o_27.2 x113).bind fun x135 =>
    ((Bi o_27.2 x97).bind fun x139 =>
    (bif (x135 != x139) then
    some true
    else
    ((CQ n x38 x113).bind fun x146 =>
    ((CQ n x38 x97).bind fun x149 =>
    (bif decide (x146≥x149) then
    some true
    else
    ((CQ n x38 x113).bind fun x155 =>
    some (decide (x155≤x_v22))))))))))))))):Option Bool).bind fun o_426 =>
    (bif o_426 then
    some (Ex.ret false)
    else
    ((CQ n x38 x113).bind fun x161 =>
    ((Bi x_v20 x113).bind fun x164 =>
    ((upd x_v20 x113 true).bind fun u_596 =>
    BV n y o_27 x38 x51 x86 x_v10 x_v12 x97 u_596 (IntKind.i64.wrap (x_v21+1)) x161 (IntKind.i64.wrap (x_v23+1)))))))))
    else
    some (Ex.go (x_v20,x_v23))))
def Bh:Nat→Al→(Bool×(List Int))→(List Int)→(List Bool)→(List Bool)→Int→((List Bool)×Int)→Int→Option (Ex Bool Unit)
  | 0,_,_,_,_,_,_,_,_=>none
  | n+1,y,o_27,x38,x86,x_v10,x97,s_360,x_v30 =>
    (bif decide (x_v30<((y.buses.length:Nat):Int)) then
    ((Bi o_27.2 x_v30).bind fun x174 =>
    ((Bi o_27.2 x97).bind fun x178 =>
    (bif (x174 == x178) then
    ((CQ n x38 x_v30).bind fun x184 =>
    ((CQ n x38 x97).bind fun x187 =>
    (bif decide (x184<x187) then
    ((Bi x_v10 x_v30).bind fun x193 =>
    (bif (!x193) then
    ((Bi s_360.1 x_v30).bind fun x200 =>
    (bif (!x200) then
    some (Ex.ret false)
    else
    Bh n y o_27 x38 x86 x_v10 x97 s_360 (IntKind.i64.wrap (x_v30+1))))
    else
    Bh n y o_27 x38 x86 x_v10 x97 s_360 (IntKind.i64.wrap (x_v30+1))))
    else
    Bh n y o_27 x38 x86 x_v10 x97 s_360 (IntKind.i64.wrap (x_v30+1)))))
    else
    Bh n y o_27 x38 x86 x_v10 x97 s_360 (IntKind.i64.wrap (x_v30+1)))))
    else
    some (Ex.go ()))
def BW:Nat→Al→(Bool×(List Int))→(List Int)→((List (List Int))×Int)→(List Int)→(List Bool)→(List Bool)→(List Bool)→Int→Int→Option (Ex Bool ((List Bool)×(List Bool)×Int))
  | 0,_,_,_,_,_,_,_,_,_,_=>none
  | n+1,y,o_27,x38,x51,x68,x86,x_v10,x_v11,x_v12,x_v13 =>
    (bif decide (x_v12<((x51.1.length:Nat):Int)) then
    ((Bi x68 x_v12).bind fun x97 =>
    ((BV n y o_27 x38 x51 x86 x_v10 x_v12 x97 x_v11 0 (-1) x_v13).bind fun o_359=>Ex.bind o_359 (fun r=>some (Ex.ret r)) fun s_360 =>
    ((Bh n y o_27 x38 x86 x_v10 x97 s_360 0).bind fun o_619=>Ex.bind o_619 (fun r=>some (Ex.ret r)) fun s_620 =>
    ((Bi x_v10 x97).bind fun x206 =>
    ((upd x_v10 x97 true).bind fun u_765 =>
    BW n y o_27 x38 x51 x68 x86 u_765 s_360.1 (IntKind.i64.wrap (x_v12+1)) s_360.2)))))
    else
    some (Ex.go (x_v10,x_v11,x_v13)))
def BC:Nat→Al→((List Int)×Int)→((List Bool)×(List Bool)×Int)→Int→Option (Ex Bool Unit)
  | 0,_,_,_,_=>none
  | n+1,y,x63,s_314,x_v40 =>
    (bif decide (x_v40<((x63.1.length:Nat):Int)) then
    ((Bi x63.1 x_v40).bind fun x215 =>
    ((FM n x215 0 (IntKind.i64.wrap (((y.buses.length:Nat):Int)-1))).bind fun x219 =>
    (bif (!x219) then
    some (Ex.ret false)
    else
    ((Bi x63.1 x_v40).bind fun x225 =>
    ((Bi s_314.2.1 x225).bind fun x227 =>
    (bif (!x227) then
    some (Ex.ret false)
    else
    (bif decide (x_v40>0) then
    ((Bi x63.1 x_v40).bind fun x237 =>
    ((Bi x63.1 (IntKind.i64.wrap (x_v40-1))).bind fun x242 =>
    (bif decide (x237≤x242) then
    some (Ex.ret false)
    else
    BC n y x63 s_314 (IntKind.i64.wrap (x_v40+1)))))
    else
    BC n y x63 s_314 (IntKind.i64.wrap (x_v40+1)))))))))
    else
    some (Ex.go ()))
def EX (n:Nat) (y:Al) (words:List (IK .u16)):Option Bool :=
  ((Gc n y).bind fun x26 =>
  (((bif x26 then
  ((Fh n y words).bind fun x30 =>
  some (x30.2,x30.1))
  else
  some (false,([]:(List Int)))):Option (Bool×(List Int))).bind fun o_27 =>
  (bif (!o_27.1) then
  ((Fe n ).bind fun x35 =>
  some x35)
  else
  ((Hf n y words).bind fun x38 =>
  ((Hg n y words).bind fun x41 =>
  ((Ga n y).bind fun x44 =>
  ((Dj n o_27.2).bind fun x46 =>
  ((Dj n x38).bind fun x48 =>
  ((Dj n x41).bind fun x50 =>
  ((Eb n x44 x46 x48 x50).bind fun x51 =>
  ((Ga n y).bind fun x56 =>
  ((Dj n o_27.2).bind fun x58 =>
  ((Dj n x38).bind fun x60 =>
  ((Dj n x41).bind fun x62 =>
  ((CB n x56 x58 x60 x62).bind fun x63 =>
  ((Gd n y x41).bind fun x68 =>
  (((bif (x51.2 != 0) then
  some true
  else
  (bif (x63.2 != 0) then
  some true
  else
  some (((x51.1.length:Nat):Int) != ((x68.length:Nat):Int)))):Option Bool).bind fun o_243 =>
  (bif o_243 then
  some false
  else
  ((mk ((y.buses.length:Nat):Int) (false:Bool)).bind fun x86 =>
  ((mk ((y.buses.length:Nat):Int) (false:Bool)).bind fun x88 =>
  ((BW n y o_27 x38 x51 x68 x86 x86 x88 0 0).bind fun o_313=>Ex.bind o_313 (fun r=>some r) fun s_314 =>
  ((BC n y x63 s_314 0).bind fun o_786=>Ex.bind o_786 (fun r=>some r) fun s_787 =>
  (bif (((x63.1.length:Nat):Int) == s_314.2.2) then
  ((Fe n ).bind fun x252 =>
  some x252)
  else
  some false)))))))))))))))))))))))
abbrev XZ:=@Option.some.inj
abbrev XY:=@Exists.intro
abbrev XX:=@Option.bind_some
abbrev XW:=@cond_true
abbrev XV:=@cond_false
abbrev XU:=@Ac.le_trans
abbrev XT:=@wp_seq
end Go.Proofs.Ythcbemnflgjadaa
