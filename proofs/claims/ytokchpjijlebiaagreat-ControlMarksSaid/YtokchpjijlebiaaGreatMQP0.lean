/- What the functions compute, in plain Lean. -/
import Derived.Test.YtokchpjijlebiaaGreatMQS7
import Derived.Test.YtokchpjijlebiaaGreatProg
set_option linter.all false
namespace Go.Proofs.YtokchpjijlebiaaGreat
open Go Go.RowKit
open Rep (rep)
open KRep (kv)
open VRep (rv)
structure Rg where
  lo:Int
  hi:Int
deriving DecidableEq,Inhabited
instance : Rep Rg:=Rep.via fun x=>(x.lo,x.hi)
instance : VRep Rg:=VRep.agg Rg
structure C6 where
  stop:Int
  tm:Rg
deriving DecidableEq,Inhabited
instance : Rep C6:=Rep.via fun x=>(x.stop,x.tm)
instance : VRep C6:=VRep.agg C6
structure A7 where
  stop:Int
  tm:Int
deriving DecidableEq,Inhabited
instance : Rep A7:=Rep.via fun x=>(x.stop,x.tm)
instance : VRep A7:=VRep.agg A7
structure Af where
  legs:List Rg
  turn:Rg
  buses:List C6
  spares:List A7
  unit:Int
  gap:Int
  fr:Int
  to_:Int
deriving DecidableEq,Inhabited
instance : Rep Af:=Rep.via fun x=>(x.legs,x.turn,x.buses,x.spares,x.unit,x.gap,x.fr,x.to_)
instance : VRep Af:=VRep.agg Af
structure Aw where
  holds:List Int
  turns:List Int
  spares:List Bool
deriving DecidableEq,Inhabited
instance : Rep Aw:=Rep.via fun x=>(x.holds,x.turns,x.spares)
instance : VRep Aw:=VRep.agg Aw
structure Au where
  tm:List Int
  turns:List Int
  legs:List (List Int)
deriving DecidableEq,Inhabited
instance : Rep Au:=Rep.via fun x=>(x.tm,x.turns,x.legs)
instance : VRep Au:=VRep.agg Au
structure AO where
  route:Af
  acts:Aw
deriving DecidableEq,Inhabited
instance : Rep AO:=Rep.via fun x=>(x.route,x.acts)
instance : VRep AO:=VRep.agg AO
structure Bg where
  stop:Int
  tm:Int
  turned:Int
deriving DecidableEq,Inhabited
instance : Rep Bg:=Rep.via fun x=>(x.stop,x.tm,x.turned)
instance : VRep Bg:=VRep.agg Bg
structure A1 where
  legs:List Int
  turn:Int
deriving DecidableEq,Inhabited
instance : Rep A1:=Rep.via fun x=>(x.legs,x.turn)
instance : VRep A1:=VRep.agg A1
def RT (h:Ae) (v:Value) (f:Rg→Option Bool):Prop:=∀ (h':Ae)(w':World),Ae.le h h'→C9 h' w'→∀ (x0:Rg)(cs0:List Value)(_:rep h' x0 cs0)(r:Bool),f x0=some r→Iw Tryz.prog v #[.agg cs0.toArray] w' (CA (fun h v=>v=.bool r) h' w')
theorem RT.mono {h h':Ae} {v:Value} {f:Rg→Option Bool} (H:RT h v f) (hle:Ae.le h h'):RT h' v f:=fun h2 w2 l=>H h2 w2 (Ae.le_trans hle l)
instance : Rep (Rg→Option Bool):=⟨1,fun h f cs=>∃ fn first cap,cs=[.func fn first cap]∧RT h (.func fn first cap) f,fun hle ⟨a,b,c,e,hr⟩=>⟨a,b,c,e,hr.mono hle⟩,fun⟨a,b,c,e,_⟩=>by subst e; rfl,fun⟨a,b,c,e,_⟩ v hv=>by subst e; simp at hv; subst hv; rfl⟩
def RU (h:Ae) (v:Value) (f:C6→Option Bool):Prop:=∀ (h':Ae)(w':World),Ae.le h h'→C9 h' w'→∀ (x0:C6)(cs0:List Value)(_:rep h' x0 cs0)(r:Bool),f x0=some r→Iw Tryz.prog v #[.agg cs0.toArray] w' (CA (fun h v=>v=.bool r) h' w')
theorem RU.mono {h h':Ae} {v:Value} {f:C6→Option Bool} (H:RU h v f) (hle:Ae.le h h'):RU h' v f:=fun h2 w2 l=>H h2 w2 (Ae.le_trans hle l)
instance : Rep (C6→Option Bool):=⟨1,fun h f cs=>∃ fn first cap,cs=[.func fn first cap]∧RU h (.func fn first cap) f,fun hle ⟨a,b,c,e,hr⟩=>⟨a,b,c,e,hr.mono hle⟩,fun⟨a,b,c,e,_⟩=>by subst e; rfl,fun⟨a,b,c,e,_⟩ v hv=>by subst e; simp at hv; subst hv; rfl⟩
def RV (h:Ae) (v:Value) (f:A7→Option Bool):Prop:=∀ (h':Ae)(w':World),Ae.le h h'→C9 h' w'→∀ (x0:A7)(cs0:List Value)(_:rep h' x0 cs0)(r:Bool),f x0=some r→Iw Tryz.prog v #[.agg cs0.toArray] w' (CA (fun h v=>v=.bool r) h' w')
theorem RV.mono {h h':Ae} {v:Value} {f:A7→Option Bool} (H:RV h v f) (hle:Ae.le h h'):RV h' v f:=fun h2 w2 l=>H h2 w2 (Ae.le_trans hle l)
instance : Rep (A7→Option Bool):=⟨1,fun h f cs=>∃ fn first cap,cs=[.func fn first cap]∧RV h (.func fn first cap) f,fun hle ⟨a,b,c,e,hr⟩=>⟨a,b,c,e,hr.mono hle⟩,fun⟨a,b,c,e,_⟩=>by subst e; rfl,fun⟨a,b,c,e,_⟩ v hv=>by subst e; simp at hv; subst hv; rfl⟩
def SJ (h:Ae) (v:Value) (f:Rg→Option Int):Prop:=∀ (h':Ae)(w':World),Ae.le h h'→C9 h' w'→∀ (x0:Rg)(cs0:List Value)(_:rep h' x0 cs0)(r:Int),f x0=some r→Iw Tryz.prog v #[.agg cs0.toArray] w' (CA (fun h v=>v=.int .i64 r) h' w')
theorem SJ.mono {h h':Ae} {v:Value} {f:Rg→Option Int} (H:SJ h v f) (hle:Ae.le h h'):SJ h' v f:=fun h2 w2 l=>H h2 w2 (Ae.le_trans hle l)
instance : Rep (Rg→Option Int):=⟨1,fun h f cs=>∃ fn first cap,cs=[.func fn first cap]∧SJ h (.func fn first cap) f,fun hle ⟨a,b,c,e,hr⟩=>⟨a,b,c,e,hr.mono hle⟩,fun⟨a,b,c,e,_⟩=>by subst e; rfl,fun⟨a,b,c,e,_⟩ v hv=>by subst e; simp at hv; subst hv; rfl⟩
structure QH where
  of_:Rg→Option Int
instance : Rep QH:=Rep.via fun x=>(x.of_)
instance : VRep QH:=VRep.agg QH
structure Bk where
  a0:Int
  a1:Int
  a2:Int
  a3:Int
deriving DecidableEq,Inhabited
instance : Rep Bk:=Rep.via fun x=>(x.a0,x.a1,x.a2,x.a3)
instance : VRep Bk:=VRep.agg Bk
def Bk.toL (x:Bk):List Int:=[x.a0,x.a1,x.a2,x.a3]
def Bk.ofL:List Int→Option Bk
  | [a0,a1,a2,a3]=>some ⟨a0,a1,a2,a3⟩
  | _=>none
theorem Bk.ofL_some {l:List Int} {y:Bk} (h:Bk.ofL l=some y):y.toL=l:=by
  unfold Bk.ofL at h
  split at h
  · cases h; rfl
  · cases h
def Bk.setI (x:Bk) (i:Int) (v:Int):Option Bk:=(upd x.toL i v).bind Bk.ofL
theorem Bk.setI_some {x y:Bk} {i:Int} {v:Int} (h:x.setI i v=some y):0≤i∧i<4∧y.toL=x.toL.set i.toNat v:=by
  obtain⟨l,hl,h2⟩:=Am h
  obtain⟨h0,h1,rfl⟩:=Db hl
  exact⟨h0,h1,Bk.ofL_some h2⟩
structure Bs where
  a0:Bool
  a1:Bool
deriving DecidableEq,Inhabited
instance : Rep Bs:=Rep.via fun x=>(x.a0,x.a1)
instance : VRep Bs:=VRep.agg Bs
def Bs.toL (x:Bs):List Bool:=[x.a0,x.a1]
def Bs.ofL:List Bool→Option Bs
  | [a0,a1]=>some ⟨a0,a1⟩
  | _=>none
theorem Bs.ofL_some {l:List Bool} {y:Bs} (h:Bs.ofL l=some y):y.toL=l:=by
  unfold Bs.ofL at h
  split at h
  · cases h; rfl
  · cases h
def Bs.setI (x:Bs) (i:Int) (v:Bool):Option Bs:=(upd x.toL i v).bind Bs.ofL
theorem Bs.setI_some {x y:Bs} {i:Int} {v:Bool} (h:x.setI i v=some y):0≤i∧i<2∧y.toL=x.toL.set i.toNat v:=by
  obtain⟨l,hl,h2⟩:=Am h
  obtain⟨h0,h1,rfl⟩:=Db hl
  exact⟨h0,h1,Bs.ofL_some h2⟩
structure Ax where
  holds:Bk
  turns:Bk
  spares:Bs
deriving DecidableEq,Inhabited
instance : Rep Ax:=Rep.via fun x=>(x.holds,x.turns,x.spares)
instance : VRep Ax:=VRep.agg Ax
structure OH where
  fr:Int
  long:Int
deriving DecidableEq,Inhabited
instance : Rep OH:=Rep.via fun x=>(x.fr,x.long)
instance : VRep OH:=VRep.agg OH
def SK (h:Ae) (v:Value) (f:Int→Option Bool):Prop:=∀ (h':Ae)(w':World),Ae.le h h'→C9 h' w'→∀ (x0:Int)(r:Bool),f x0=some r→Iw Tryz.prog v #[.int .i64 x0] w' (CA (fun h v=>v=.bool r) h' w')
theorem SK.mono {h h':Ae} {v:Value} {f:Int→Option Bool} (H:SK h v f) (hle:Ae.le h h'):SK h' v f:=fun h2 w2 l=>H h2 w2 (Ae.le_trans hle l)
instance : Rep (Int→Option Bool):=⟨1,fun h f cs=>∃ fn first cap,cs=[.func fn first cap]∧SK h (.func fn first cap) f,fun hle ⟨a,b,c,e,hr⟩=>⟨a,b,c,e,hr.mono hle⟩,fun⟨a,b,c,e,_⟩=>by subst e; rfl,fun⟨a,b,c,e,_⟩ v hv=>by subst e; simp at hv; subst hv; rfl⟩
structure BR where
  number:Int
  sum:Int
deriving DecidableEq,Inhabited
instance : Rep BR:=Rep.via fun x=>(x.number,x.sum)
instance : VRep BR:=VRep.agg BR
def Rf {σ:Type} (XS:σ→Fr→Ae→Prop) (B:Nat→Prop) (v:Value) (f:σ→Ax→BR→Option σ):Prop:=∀ (s:σ)(F:Fr)(h:Ae)(w:World)(x0:Ax)(cs0:List Value)(_:rep h x0 cs0)(x1:BR)(cs1:List Value)(_:rep h x1 cs1)(s':σ),XS s F h→Ai F h [] [] [] w→f s x0 x1=some s'→Iw Tryz.prog v #[.agg cs0.toArray,.agg cs1.toArray] w (Se XS B F h s')
instance : KRep Ax:=⟨fun x=>.agg #[.int .i64 x.holds.a0,.int .i64 x.holds.a1,.int .i64 x.holds.a2,.int .i64 x.holds.a3,.int .i64 x.turns.a0,.int .i64 x.turns.a1,.int .i64 x.turns.a2,.int .i64 x.turns.a3,.bool x.spares.a0,.bool x.spares.a1],fun {a b} h=>by
  rcases a with⟨⟨a0,a1,a2,a3⟩,⟨a4,a5,a6,a7⟩,⟨a8,a9⟩⟩
  rcases b with⟨⟨b0,b1,b2,b3⟩,⟨b4,b5,b6,b7⟩,⟨b8,b9⟩⟩
  simp_all⟩
def DJ (n:Nat) (n_:Int) (low:Int) (high:Int):Option Bool :=
  (bif decide (n_≥low) then
  some (decide (n_≤high))
  else
  some false)
def Eh (n:Nat) (r_:Af):Option Int :=
  some (IntKind.i64.wrap (((r_.legs.length:Nat):Int)+1))
def Fp (n:Nat) (r_:Af):Option Int :=
  some (IntKind.i64.wrap (Int.tdiv (IntKind.i64.wrap (((r_.legs.length:Nat):Int)+1)) 2))
def Gg (n:Nat) (r_:Rg) (most:Int):Option Bool :=
  ((DJ n r_.lo 0 r_.hi).bind fun x9 =>
  (bif x9 then
  some (decide (r_.hi≤most))
  else
  some false))
def Ig (n:Nat) (r_:Rg):Option Rg :=
  some r_
def Dq:Nat→Af→Int→Option (Ex Int Unit)
  | 0,_,_=>none
  | n+1,r_,x_v10 =>
    (bif decide (x_v10<((r_.legs.length:Nat):Int)) then
    ((B8 r_.legs x_v10).bind fun x68 =>
    ((Gg n x68 300).bind fun x70 =>
    (bif (!x70) then
    some (Ex.ret 1)
    else
    Dq n r_ (IntKind.i64.wrap (x_v10+1)))))
    else
    some (Ex.go ()))
def Ds:Nat→Af→Int→Option (Ex Int Unit)
  | 0,_,_=>none
  | n+1,r_,x_v20 =>
    (bif decide (x_v20<((r_.buses.length:Nat):Int)) then
    ((B8 r_.buses x_v20).bind fun x82 =>
    ((Eh n r_).bind fun x86 =>
    ((DJ n x82.stop 0 (IntKind.i64.wrap (x86-1))).bind fun x88 =>
    (bif (!x88) then
    some (Ex.ret 1)
    else
    ((B8 r_.buses x_v20).bind fun x94 =>
    ((Gg n x94.tm 2000).bind fun x97 =>
    (bif (!x97) then
    some (Ex.ret 1)
    else
    Ds n r_ (IntKind.i64.wrap (x_v20+1)))))))))
    else
    some (Ex.go ()))
def Dt:Nat→Af→Int→Option (Ex Int Unit)
  | 0,_,_=>none
  | n+1,r_,x_v30 =>
    (bif decide (x_v30<((r_.spares.length:Nat):Int)) then
    ((B8 r_.spares x_v30).bind fun x110 =>
    ((Eh n r_).bind fun x114 =>
    ((DJ n x110.stop 0 (IntKind.i64.wrap (x114-1))).bind fun x116 =>
    (bif (!x116) then
    some (Ex.ret 1)
    else
    ((B8 r_.spares x_v30).bind fun x122 =>
    ((DJ n x122.tm 0 2000).bind fun x125 =>
    (bif (!x125) then
    some (Ex.ret 1)
    else
    Dt n r_ (IntKind.i64.wrap (x_v30+1)))))))))
    else
    some (Ex.go ()))
def FZ (n:Nat) (r_:Af):Option Int :=
  (((bif decide (((r_.buses.length:Nat):Int)>4) then
  some true
  else
  some (decide (((r_.spares.length:Nat):Int)>2))):Option Bool).bind fun o_17 =>
  (bif o_17 then
  some 3
  else
  (((bif ((Int.tmod ((r_.legs.length:Nat):Int) 2) == 0) then
  some true
  else
  (bif decide (((r_.legs.length:Nat):Int)>7) then
  some true
  else
  ((Gg n r_.turn 300).bind fun x30 =>
  (bif (!x30) then
  some true
  else
  ((DJ n r_.unit 1 30).bind fun x36 =>
  (bif (!x36) then
  some true
  else
  ((DJ n r_.gap 0 2000).bind fun x42 =>
  (bif (!x42) then
  some true
  else
  ((DJ n r_.fr 0 r_.to_).bind fun x50 =>
  (bif (!x50) then
  some true
  else
  some (decide (r_.to_>2000)))))))))))):Option Bool).bind fun o_36 =>
  (bif o_36 then
  some 1
  else
  ((Dq n r_ 0).bind fun o_133=>Ex.bind o_133 (fun r=>some r) fun s_134 =>
  ((Ds n r_ 0).bind fun o_188=>Ex.bind o_188 (fun r=>some r) fun s_189 =>
  ((Dt n r_ 0).bind fun o_286=>Ex.bind o_286 (fun r=>some r) fun s_287 =>
  some 0)))))))
def Ih (n:Nat) (r_:Af):Option Bool :=
  (bif decide (((r_.legs.length:Nat):Int)≤10) then
  (bif decide (((r_.buses.length:Nat):Int)≤6) then
  some (decide (((r_.spares.length:Nat):Int)≤4))
  else
  some false)
  else
  some false)
def DK:Nat→(List Int)→(List Int)→Int→Option (Ex Bool Unit)
  | 0,_,_,_=>none
  | n+1,a,b,x_v10 =>
    (bif decide (x_v10<((a.length:Nat):Int)) then
    ((B8 a x_v10).bind fun x19 =>
    ((B8 b x_v10).bind fun x23 =>
    (bif (x19 != x23) then
    some (Ex.ret false)
    else
    DK n a b (IntKind.i64.wrap (x_v10+1)))))
    else
    some (Ex.go ()))
def F6 (n:Nat) (a:List Int) (b:List Int):Option Bool :=
  (bif (((a.length:Nat):Int) != ((b.length:Nat):Int)) then
  some false
  else
  ((DK n a b 0).bind fun o_11=>Ex.bind o_11 (fun r=>some r) fun s_12 =>
  some true))
def EN (n:Nat) (l:List Int):Option (List Int) :=
  ((Jb ([]:List Int) l).bind fun x4 =>
  some x4)
def GM (n:Nat) (a:Aw):Option Aw :=
  ((EN n a.holds).bind fun x5 =>
  ((EN n a.turns).bind fun x8 =>
  ((Jb ([]:List Bool) a.spares).bind fun x11 =>
  some (Aw.mk x5 x8 x11))))
def F7:Nat→Aw→Aw→Int→Option (Ex Bool Unit)
  | 0,_,_,_=>none
  | n+1,a,b,x_v10 =>
    (bif decide (x_v10<((a.spares.length:Nat):Int)) then
    ((B8 a.spares x_v10).bind fun x39 =>
    ((B8 b.spares x_v10).bind fun x44 =>
    (bif (!(x39 == x44)) then
    some (Ex.ret false)
    else
    F7 n a b (IntKind.i64.wrap (x_v10+1)))))
    else
    some (Ex.go ()))
def LZ (n:Nat) (a:Aw) (b:Aw):Option Bool :=
  ((((F6 n a.holds b.holds).bind fun x10 =>
  (bif (!x10) then
  some true
  else
  ((F6 n a.turns b.turns).bind fun x17 =>
  (bif (!x17) then
  some true
  else
  some (((a.spares.length:Nat):Int) != ((b.spares.length:Nat):Int)))))):Option Bool).bind fun o_31 =>
  (bif o_31 then
  some false
  else
  ((F7 n a b 0).bind fun o_80=>Ex.bind o_80 (fun r=>some r) fun s_81 =>
  some true)))
def Cf:Nat→Af→Aw→Int→Option (Ex Bool Unit)
  | 0,_,_,_=>none
  | n+1,r_,a,x_v10 =>
    (bif decide (x_v10<((r_.buses.length:Nat):Int)) then
    ((B8 a.holds x_v10).bind fun x41 =>
    ((DJ n x41 0 2).bind fun x43 =>
    (bif (!x43) then
    some (Ex.ret false)
    else
    ((B8 a.turns x_v10).bind fun x49 =>
    (bif (x49 != (-1)) then
    ((B8 a.turns x_v10).bind fun x56 =>
    ((B8 r_.buses x_v10).bind fun x61 =>
    ((Fp n r_).bind fun x65 =>
    ((DJ n x56 x61.stop (IntKind.i64.wrap (x65-2))).bind fun x67 =>
    (bif (!x67) then
    some (Ex.ret false)
    else
    Cf n r_ a (IntKind.i64.wrap (x_v10+1)))))))
    else
    Cf n r_ a (IntKind.i64.wrap (x_v10+1)))))))
    else
    some (Ex.go ()))
def F8 (n:Nat) (r_:Af) (a:Aw):Option Bool :=
  (((bif (((a.holds.length:Nat):Int) != ((r_.buses.length:Nat):Int)) then
  some true
  else
  (bif (((a.turns.length:Nat):Int) != ((r_.buses.length:Nat):Int)) then
  some true
  else
  some (((a.spares.length:Nat):Int) != ((r_.spares.length:Nat):Int)))):Option Bool).bind fun o_31 =>
  (bif o_31 then
  some false
  else
  ((Cf n r_ a 0).bind fun o_60=>Ex.bind o_60 (fun r=>some r) fun s_61 =>
  some true)))
def Ii (n:Nat)  : Option Af :=
  some (Af.mk ([Rg.mk 10 10,Rg.mk 5 15,Rg.mk 10 12]:List Rg) (Rg.mk 0 4) ([C6.mk 0 (Rg.mk 0 0),C6.mk 0 (Rg.mk 10 20)]:List C6) ([A7.mk 2 40]:List A7) 5 37 0 50)
def Ma (n:Nat)  : Option Aw :=
  some (Aw.mk ([0,0]:List Int) ([(-1),(-1)]:List Int) ([false]:List Bool))
def Mb (n:Nat)  : Option Aw :=
  some (Aw.mk ([0,1]:List Int) ([(-1),(-1)]:List Int) ([false]:List Bool))
def CS:Nat→(List Int)→Int→Option (List Int)
  | 0,_,_=>none
  | n+1,x_v10,x_v11 =>
    (bif decide (x_v11<((x_v10.length:Nat):Int)) then
    ((B8 x_v10 x_v11).bind fun x27 =>
    ((upd x_v10 x_v11 (-1)).bind fun u_81 =>
    CS n  u_81 (IntKind.i64.wrap (x_v11+1))))
    else
    some x_v10)
def BI:Nat→Af→Int→Int→(List Int)→(List Int)→Int→Int→Option (List Int)
  | 0,_,_,_,_,_,_,_=>none
  | n+1,r_,turned,turn,legs,x_v20,x_v21,x_v22 =>
    (bif decide (x_v21<((x_v20.length:Nat):Int)) then
    ((B8 x_v20 x_v21).bind fun x36 =>
    ((upd x_v20 x_v21 x_v22).bind fun u_141 =>
    (bif (x_v21 == turned) then
    ((Fp n r_).bind fun x41 =>
    BI n r_ turned turn legs u_141 (IntKind.i64.wrap ((IntKind.i64.wrap ((IntKind.i64.wrap (2*x41))-1))-x_v21)) (IntKind.i64.wrap (x_v22+turn)))
    else
    (bif decide (x_v21<((legs.length:Nat):Int)) then
    ((B8 legs x_v21).bind fun x56 =>
    BI n r_ turned turn legs u_141 (IntKind.i64.wrap (x_v21+1)) (IntKind.i64.wrap (x_v22+x56)))
    else
    BI n r_ turned turn legs u_141 (IntKind.i64.wrap (x_v21+1)) x_v22))))
    else
    some x_v20)
def Fq (n:Nat) (r_:Af) (stop:Int) (at_:Int) (turned:Int) (turn:Int) (legs:List Int):Option (List Int) :=
  ((Eh n r_).bind fun x17 =>
  ((mk x17 (0:Int)).bind fun x18 =>
  ((CS n  x18 0).bind fun o_50 =>
  ((BI n r_ turned turn legs o_50 stop at_).bind fun o_110 =>
  some o_110))))
def E4:Nat→Af→Aw→Au→(List (List Int))→Int→Option (List (List Int))
  | 0,_,_,_,_,_=>none
  | n+1,r_,a,t_,x_v10,x_v11 =>
    (bif decide (x_v11<((r_.buses.length:Nat):Int)) then
    ((B8 r_.buses x_v11).bind fun x22 =>
    ((B8 t_.tm x_v11).bind fun x28 =>
    ((B8 a.holds x_v11).bind fun x33 =>
    ((B8 a.turns x_v11).bind fun x42 =>
    ((B8 t_.turns x_v11).bind fun x47 =>
    ((B8 t_.legs x_v11).bind fun x52 =>
    ((Fq n r_ x22.stop (IntKind.i64.wrap (x28+(IntKind.i64.wrap (x33*r_.unit)))) x42 x47 x52).bind fun x54 =>
    ((Jb x_v10 ([x54]:List (List Int))).bind fun x56 =>
    E4 n r_ a t_ x56 (IntKind.i64.wrap (x_v11+1))))))))))
    else
    some x_v10)
def DL:Nat→Af→Aw→Au→(List (List Int))→Int→Option (List (List Int))
  | 0,_,_,_,_,_=>none
  | n+1,r_,a,t_,x_v20,x_v21 =>
    (bif decide (x_v21<((r_.spares.length:Nat):Int)) then
    ((B8 a.spares x_v21).bind fun x67 =>
    (bif x67 then
    ((B8 r_.spares x_v21).bind fun x74 =>
    ((B8 r_.spares x_v21).bind fun x80 =>
    ((B8 t_.legs (IntKind.i64.wrap (((r_.buses.length:Nat):Int)+x_v21))).bind fun x90 =>
    ((Fq n r_ x74.stop x80.tm (-1) 0 x90).bind fun x92 =>
    ((Jb x_v20 ([x92]:List (List Int))).bind fun x94 =>
    DL n r_ a t_ x94 (IntKind.i64.wrap (x_v21+1)))))))
    else
    DL n r_ a t_ x_v20 (IntKind.i64.wrap (x_v21+1))))
    else
    some x_v20)
def JV (n:Nat) (r_:Af) (a:Aw) (t_:Au):Option (List (List Int)) :=
  ((E4 n r_ a t_ ([]:List (List Int)) 0).bind fun o_60 =>
  ((DL n r_ a t_ o_60 0).bind fun o_213 =>
  some o_213))
def Du:Nat→Af→(List Rg)→Int→Option (List Rg)
  | 0,_,_,_=>none
  | n+1,r_,x_v10,x_v11 =>
    (bif decide (x_v11<((r_.legs.length:Nat):Int)) then
    ((B8 r_.legs x_v11).bind fun x31 =>
    ((Ig n x31).bind fun x33 =>
    ((Jb x_v10 ([x33]:List Rg)).bind fun x35 =>
    Du n r_ x35 (IntKind.i64.wrap (x_v11+1)))))
    else
    some x_v10)
def Dv:Nat→Af→(List C6)→Int→Option (List C6)
  | 0,_,_,_=>none
  | n+1,r_,x_v20,x_v21 =>
    (bif decide (x_v21<((r_.buses.length:Nat):Int)) then
    ((B8 r_.buses x_v21).bind fun x49 =>
    ((B8 r_.buses x_v21).bind fun x55 =>
    ((Ig n x55.tm).bind fun x58 =>
    ((Jb x_v20 ([C6.mk x49.stop x58]:List C6)).bind fun x61 =>
    Dv n r_ x61 (IntKind.i64.wrap (x_v21+1))))))
    else
    some x_v20)
def Dw:Nat→Af→(List A7)→Int→Option (List A7)
  | 0,_,_,_=>none
  | n+1,r_,x_v30,x_v31 =>
    (bif decide (x_v31<((r_.spares.length:Nat):Int)) then
    ((B8 r_.spares x_v31).bind fun x75 =>
    ((B8 r_.spares x_v31).bind fun x81 =>
    ((Jb x_v30 ([A7.mk x75.stop x81.tm]:List A7)).bind fun x86 =>
    Dw n r_ x86 (IntKind.i64.wrap (x_v31+1)))))
    else
    some x_v30)
def Fs (n:Nat) (r_:Af):Option Af :=
  ((Ig n r_.turn).bind fun x9 =>
  ((Du n r_ ([]:List Rg) 0).bind fun o_50 =>
  ((Dv n r_ ([]:List C6) 0).bind fun o_133 =>
  ((Dw n r_ ([]:List A7) 0).bind fun o_232 =>
  some (Af.mk o_50 x9 o_133 o_232 r_.unit r_.gap r_.fr r_.to_)))))
def Dx:Nat→Au→(List (List Int))→Int→Option (List (List Int))
  | 0,_,_,_=>none
  | n+1,t_,x_v10,x_v11 =>
    (bif decide (x_v11<((t_.legs.length:Nat):Int)) then
    ((B8 t_.legs x_v11).bind fun x24 =>
    ((EN n x24).bind fun x26 =>
    ((Jb x_v10 ([x26]:List (List Int))).bind fun x28 =>
    Dx n t_ x28 (IntKind.i64.wrap (x_v11+1)))))
    else
    some x_v10)
def Ga (n:Nat) (t_:Au):Option Au :=
  ((EN n t_.tm).bind fun x7 =>
  ((EN n t_.turns).bind fun x10 =>
  ((Dx n t_ ([]:List (List Int)) 0).bind fun o_56 =>
  some (Au.mk x7 x10 o_56))))
def Dy:Nat→Au→Int→Option (Ex Bool Unit)
  | 0,_,_=>none
  | n+1,t_,x_v10 =>
    (((bif decide (x_v10<((t_.legs.length:Nat):Int)) then
    some (decide (x_v10<9))
    else
    some false):Option Bool).bind fun o_48 =>
    (bif o_48 then
    ((B8 t_.legs x_v10).bind fun x20 =>
    (bif decide (((x20.length:Nat):Int)>10) then
    some (Ex.ret false)
    else
    Dy n t_ (IntKind.i64.wrap (x_v10+1))))
    else
    some (Ex.go ())))
def GN (n:Nat) (a:Aw) (t_:Au):Option Bool :=
  ((Dy n t_ 0).bind fun o_34=>Ex.bind o_34 (fun r=>some r) fun s_35 =>
  (bif decide (((a.holds.length:Nat):Int)≤8) then
  (bif decide (((a.turns.length:Nat):Int)≤8) then
  (bif decide (((a.spares.length:Nat):Int)≤8) then
  (bif decide (((t_.tm.length:Nat):Int)≤8) then
  (bif decide (((t_.turns.length:Nat):Int)≤8) then
  some (decide (((t_.legs.length:Nat):Int)≤8))
  else
  some false)
  else
  some false)
  else
  some false)
  else
  some false)
  else
  some false))
def GO (n:Nat) (r_:Af) (a:Aw):Option Int :=
  ((FZ n r_).bind fun x7 =>
  (bif (x7 != 0) then
  some x7
  else
  ((F8 n r_ a).bind fun x13 =>
  (bif (!x13) then
  some 2
  else
  some 0))))
def CI:Nat→Af→Int→(List (List Int))→(List Int)→Int→Option (List Int)
  | 0,_,_,_,_,_=>none
  | n+1,r_,stop,x26,x_v10,x_v11 =>
    (bif decide (x_v11<((x26.length:Nat):Int)) then
    ((B8 x26 x_v11).bind fun x35 =>
    ((B8 x35 stop).bind fun x38 =>
    ((DJ n x38 r_.fr r_.to_).bind fun x45 =>
    (bif x45 then
    ((Jb x_v10 ([x38]:List Int)).bind fun x49 =>
    CI n r_ stop x26 x49 (IntKind.i64.wrap (x_v11+1)))
    else
    CI n r_ stop x26 x_v10 (IntKind.i64.wrap (x_v11+1))))))
    else
    some x_v10)
def CJ:Nat→(List Int)→(List Int)→Int→Int→Bool→Option Bool
  | 0,_,_,_,_,_=>none
  | n+1,o_81,x_v20,x_v21,x_v30,x_v31 =>
    (bif decide (x_v30<((x_v20.length:Nat):Int)) then
    (bif x_v31 then
    CJ n o_81 x_v20 x_v21 (IntKind.i64.wrap (x_v30+1)) true
    else
    ((B8 x_v20 x_v30).bind fun x66 =>
    ((B8 o_81 x_v21).bind fun x70 =>
    CJ n o_81 x_v20 x_v21 (IntKind.i64.wrap (x_v30+1)) (x66 == x70))))
    else
    some x_v31)
def CK:Nat→(List Int)→Int→Option (List Int)
  | 0,_,_=>none
  | n+1,x_v40,x_v41 =>
    (((bif decide (x_v41>0) then
    ((B8 x_v40 x_v41).bind fun x90 =>
    ((B8 x_v40 (IntKind.i64.wrap (x_v41-1))).bind fun x95 =>
    some (decide (x90<x95))))
    else
    some false):Option Bool).bind fun o_337 =>
    (bif o_337 then
    ((B8 x_v40 (IntKind.i64.wrap (x_v41-1))).bind fun x109 =>
    ((B8 x_v40 x_v41).bind fun x113 =>
    ((B8 x_v40 x_v41).bind fun x115 =>
    ((upd x_v40 x_v41 x109).bind fun u_429 =>
    ((B8 u_429 (IntKind.i64.wrap (x_v41-1))).bind fun x116 =>
    ((upd u_429 (IntKind.i64.wrap (x_v41-1)) x113).bind fun u_453 =>
    CK n  u_453 (IntKind.i64.wrap (x_v41-1))))))))
    else
    some x_v40))
def CL:Nat→(List Int)→(List Int)→Int→Option (List Int)
  | 0,_,_,_=>none
  | n+1,o_81,x_v20,x_v21 =>
    (bif decide (x_v21<((o_81.length:Nat):Int)) then
    ((CJ n o_81 x_v20 x_v21 0 false).bind fun o_208 =>
    (bif o_208 then
    CL n o_81 x_v20 (IntKind.i64.wrap (x_v21+1))
    else
    ((B8 o_81 x_v21).bind fun x78 =>
    ((Jb x_v20 ([x78]:List Int)).bind fun x81 =>
    ((CK n  x81 (IntKind.i64.wrap (((x81.length:Nat):Int)-1))).bind fun o_324 =>
    CL n o_81 o_324 (IntKind.i64.wrap (x_v21+1)))))))
    else
    some x_v20)
def Gb (n:Nat) (r_:Af) (a:Aw) (t_:Au) (stop:Int):Option (List Int) :=
  ((JV n r_ a t_).bind fun x26 =>
  ((CI n r_ stop x26 ([r_.fr,r_.to_]:List Int) 0).bind fun o_81 =>
  ((CL n o_81 ([]:List Int) 0).bind fun o_187 =>
  some o_187)))
def E5:Nat→(List Int)→Int→Int→Option Int
  | 0,_,_,_=>none
  | n+1,x16,x_v10,x_v11 =>
    (bif decide (x_v10<((x16.length:Nat):Int)) then
    ((B8 x16 x_v10).bind fun x26 =>
    ((B8 x16 (IntKind.i64.wrap (x_v10-1))).bind fun x31 =>
    E5 n x16 (IntKind.i64.wrap (x_v10+1)) (if (IntKind.i64.wrap (x26-x31))>x_v11 then(IntKind.i64.wrap (x26-x31)) else x_v11)))
    else
    some x_v11)
def JW (n:Nat) (r_:Af) (a:Aw) (t_:Au) (stop:Int):Option Int :=
  ((Gb n r_ a t_ stop).bind fun x16 =>
  ((E5 n x16 1 0).bind fun o_65 =>
  some o_65))
def AW (n:Nat) (n_:Int) (low:Int) (high:Int):Option Bool :=
  (bif decide (low≤n_) then
  some (decide (n_≤high))
  else
  some false)
def Cg (n:Nat) (n_:Int):Option Bool :=
  ((AW n n_ 0 2000).bind fun x4 =>
  some x4)
def AV (n:Nat) (r_:Af):Option Int :=
  some (IntKind.i64.wrap (((r_.legs.length:Nat):Int)+1))
def Bt (n:Nat) (r_:Af):Option Int :=
  ((AV n r_).bind fun x4 =>
  some (IntKind.i64.wrap (Int.tdiv x4 2)))
def B9 (n:Nat) (r_:Af) (n_:Int):Option Bool :=
  ((AV n r_).bind fun x7 =>
  ((AW n n_ 0 (IntKind.i64.wrap (x7-1))).bind fun x9 =>
  some x9))
def BZ (n:Nat) (r_:Rg) (most:Int):Option Bool :=
  (bif decide (0≤r_.lo) then
  (bif decide (r_.lo≤r_.hi) then
  some (decide (r_.hi≤most))
  else
  some false)
  else
  some false)
def Bl (n:Nat) (r_:Rg):Option Bool :=
  ((BZ n r_ 300).bind fun x4 =>
  some x4)
def BK (n:Nat) (r_:Rg) (n_:Int):Option Bool :=
  ((AW n n_ r_.lo r_.hi).bind fun x10 =>
  some x10)
def Cn (n:Nat) (r_:Rg):Option Int :=
  some r_.lo
def Ca (n:Nat) (r_:Rg):Option Int :=
  some r_.hi
def A2 (n:Nat) (r_:Af) (n_:Int):Option Bool :=
  ((AW n n_ r_.fr r_.to_).bind fun x10 =>
  some x10)
def BQ (n:Nat) (r_:Af) (b:C6) (at_:Int):Option Bool :=
  (bif (at_ == (-1)) then
  some true
  else
  ((Bt n r_).bind fun x14 =>
  ((AW n at_ b.stop (IntKind.i64.wrap (x14-2))).bind fun x16 =>
  some x16)))
def Bc:Nat→Af→Au→Int→Option (Ex Bool Unit)
  | 0,_,_,_=>none
  | n+1,r_,t_,x_v10 =>
    (bif decide (x_v10<((r_.buses.length:Nat):Int)) then
    ((B8 r_.buses x_v10).bind fun x46 =>
    ((B8 t_.tm x_v10).bind fun x53 =>
    ((BK n x46.tm x53).bind fun x55 =>
    (bif (!x55) then
    some (Ex.ret false)
    else
    ((B8 t_.turns x_v10).bind fun x63 =>
    ((BK n r_.turn x63).bind fun x65 =>
    (bif (!x65) then
    some (Ex.ret false)
    else
    Bc n r_ t_ (IntKind.i64.wrap (x_v10+1)))))))))
    else
    some (Ex.go ()))
def Bd:Nat→Af→(List Int)→Int→Option (Ex Bool Unit)
  | 0,_,_,_=>none
  | n+1,r_,x74,x_v30 =>
    (bif decide (x_v30<((x74.length:Nat):Int)) then
    ((B8 x74 x_v30).bind fun x87 =>
    ((B8 r_.legs x_v30).bind fun x92 =>
    ((BK n x92 x87).bind fun x95 =>
    (bif (!x95) then
    some (Ex.ret false)
    else
    Bd n r_ x74 (IntKind.i64.wrap (x_v30+1))))))
    else
    some (Ex.go ()))
def Be:Nat→Af→Au→Int→Option (Ex Bool Unit)
  | 0,_,_,_=>none
  | n+1,r_,t_,x_v20 =>
    (bif decide (x_v20<((t_.legs.length:Nat):Int)) then
    ((B8 t_.legs x_v20).bind fun x74 =>
    (bif (((x74.length:Nat):Int) != ((r_.legs.length:Nat):Int)) then
    some (Ex.ret false)
    else
    ((Bd n r_ x74 0).bind fun o_217=>Ex.bind o_217 (fun r=>some (Ex.ret r)) fun s_218 =>
    Be n r_ t_ (IntKind.i64.wrap (x_v20+1)))))
    else
    some (Ex.go ()))
def Cs (n:Nat) (r_:Af) (t_:Au):Option Bool :=
  (((bif (((t_.tm.length:Nat):Int) != ((r_.buses.length:Nat):Int)) then
  some true
  else
  (bif (((t_.turns.length:Nat):Int) != ((r_.buses.length:Nat):Int)) then
  some true
  else
  some (((t_.legs.length:Nat):Int) != (IntKind.i64.wrap (((r_.buses.length:Nat):Int)+((r_.spares.length:Nat):Int)))))):Option Bool).bind fun o_31 =>
  (bif o_31 then
  some false
  else
  ((Bc n r_ t_ 0).bind fun o_60=>Ex.bind o_60 (fun r=>some r) fun s_61 =>
  ((Be n r_ t_ 0).bind fun o_175=>Ex.bind o_175 (fun r=>some r) fun s_176 =>
  some true))))
def AX:Nat→AO→Au→(List Bg)→(List A1)→Int→Option ((List Bg)×(List A1))
  | 0,_,_,_,_,_=>none
  | n+1,w_,t_,x_v10,x_v11,x_v12 =>
    (bif decide (x_v12<((w_.route.buses.length:Nat):Int)) then
    ((B8 w_.route.buses x_v12).bind fun x17 =>
    ((B8 t_.tm x_v12).bind fun x25 =>
    ((B8 w_.acts.holds x_v12).bind fun x31 =>
    ((B8 w_.acts.turns x_v12).bind fun x42 =>
    ((Jb x_v10 ([Bg.mk x17.stop (IntKind.i64.wrap (x25+(IntKind.i64.wrap (x31*w_.route.unit)))) x42]:List Bg)).bind fun x46 =>
    ((B8 t_.legs x_v12).bind fun x51 =>
    ((B8 t_.turns x_v12).bind fun x56 =>
    ((Jb x_v11 ([A1.mk x51 x56]:List A1)).bind fun x60 =>
    AX n w_ t_ x46 x60 (IntKind.i64.wrap (x_v12+1))))))))))
    else
    some (x_v10,x_v11))
def AR:Nat→AO→Au→(List Bg)→(List A1)→Int→Option ((List Bg)×(List A1))
  | 0,_,_,_,_,_=>none
  | n+1,w_,t_,x_v20,x_v21,x_v22 =>
    (bif decide (x_v22<((w_.route.spares.length:Nat):Int)) then
    ((B8 w_.route.spares x_v22).bind fun x69 =>
    ((B8 w_.acts.spares x_v22).bind fun x75 =>
    (bif x75 then
    ((Jb x_v20 ([Bg.mk x69.stop x69.tm (-1)]:List Bg)).bind fun x84 =>
    ((B8 t_.legs (IntKind.i64.wrap (((w_.route.buses.length:Nat):Int)+x_v22))).bind fun x94 =>
    ((Jb x_v21 ([A1.mk x94 0]:List A1)).bind fun x98 =>
    AR n w_ t_ x84 x98 (IntKind.i64.wrap (x_v22+1)))))
    else
    AR n w_ t_ x_v20 x_v21 (IntKind.i64.wrap (x_v22+1)))))
    else
    some (x_v20,x_v21))
def Bu (n:Nat) (w_:AO) (t_:Au):Option ((List Bg)×(List A1)) :=
  ((AX n w_ t_ ([]:List Bg) ([]:List A1) 0).bind fun o_63 =>
  ((AR n w_ t_ o_63.1 o_63.2 0).bind fun o_248 =>
  some (o_248.1,o_248.2)))
def Bn (n:Nat) (b:C6) (q0:Af):Option Bool :=
  ((B9 n q0 b.stop).bind fun x7 =>
  (bif x7 then
  ((BZ n b.tm 2000).bind fun x11 =>
  some x11)
  else
  some false))
def Bo (n:Nat) (s:A7) (q0:Af):Option Bool :=
  ((B9 n q0 s.stop).bind fun x7 =>
  (bif x7 then
  ((Cg n s.tm).bind fun x11 =>
  some x11)
  else
  some false))
def Ar:Nat→(List Rg)→(Rg→Option Bool)→Int→Option (Ex Int Unit)
  | 0,_,_,_=>none
  | n+1,s,f,x_v10 =>
    (bif decide (x_v10<((s.length:Nat):Int)) then
    ((B8 s x_v10).bind fun x14 =>
    ((f x14).bind fun x16 =>
    (bif x16 then
    some (Ex.ret x_v10)
    else
    Ar n s f (IntKind.i64.wrap (x_v10+1)))))
    else
    some (Ex.go ()))
def AC (n:Nat) (s:List Rg) (f:Rg→Option Bool):Option Int :=
  ((Ar n s f 0).bind fun o_6=>Ex.bind o_6 (fun r=>some r) fun s_7 =>
  some (-1))
def Av:Nat→(List C6)→(C6→Option Bool)→Int→Option (Ex Int Unit)
  | 0,_,_,_=>none
  | n+1,s,f,x_v10 =>
    (bif decide (x_v10<((s.length:Nat):Int)) then
    ((B8 s x_v10).bind fun x14 =>
    ((f x14).bind fun x16 =>
    (bif x16 then
    some (Ex.ret x_v10)
    else
    Av n s f (IntKind.i64.wrap (x_v10+1)))))
    else
    some (Ex.go ()))
def AQ (n:Nat) (s:List C6) (f:C6→Option Bool):Option Int :=
  ((Av n s f 0).bind fun o_6=>Ex.bind o_6 (fun r=>some r) fun s_7 =>
  some (-1))
def As:Nat→(List A7)→(A7→Option Bool)→Int→Option (Ex Int Unit)
  | 0,_,_,_=>none
  | n+1,s,f,x_v10 =>
    (bif decide (x_v10<((s.length:Nat):Int)) then
    ((B8 s x_v10).bind fun x14 =>
    ((f x14).bind fun x16 =>
    (bif x16 then
    some (Ex.ret x_v10)
    else
    As n s f (IntKind.i64.wrap (x_v10+1)))))
    else
    some (Ex.go ()))
def AD (n:Nat) (s:List A7) (f:A7→Option Bool):Option Int :=
  ((As n s f 0).bind fun o_6=>Ex.bind o_6 (fun r=>some r) fun s_7 =>
  some (-1))
def A5 (n:Nat) (s:List Rg) (f:Rg→Option Bool):Option Bool :=
  ((AC n s f).bind fun x7 =>
  some (decide (x7≥0)))
def AF (n:Nat) (s:List C6) (f:C6→Option Bool):Option Bool :=
  ((AQ n s f).bind fun x7 =>
  some (decide (x7≥0)))
def A6 (n:Nat) (s:List A7) (f:A7→Option Bool):Option Bool :=
  ((AD n s f).bind fun x7 =>
  some (decide (x7≥0)))
def AI (n:Nat) (x:Rg) (q0:Rg→Option Bool):Option Bool :=
  ((q0 x).bind fun x6 =>
  some (!x6))
def AS (n:Nat) (x:C6) (q0:C6→Option Bool):Option Bool :=
  ((q0 x).bind fun x6 =>
  some (!x6))
def AJ (n:Nat) (x:A7) (q0:A7→Option Bool):Option Bool :=
  ((q0 x).bind fun x6 =>
  some (!x6))
def By (n:Nat) (l:List Rg) (right:Rg→Option Bool):Option Bool :=
  ((A5 n l (fun(y0:Rg)=>AI n y0 right)).bind fun x7 =>
  some (!x7))
def BA (n:Nat) (l:List C6) (right:C6→Option Bool):Option Bool :=
  ((AF n l (fun(y0:C6)=>AS n y0 right)).bind fun x7 =>
  some (!x7))
def Bz (n:Nat) (l:List A7) (right:A7→Option Bool):Option Bool :=
  ((A6 n l (fun(y0:A7)=>AJ n y0 right)).bind fun x7 =>
  some (!x7))
def Bm (n:Nat) (r_:Af):Option Int :=
  (((bif decide (((r_.buses.length:Nat):Int)>4) then
  some true
  else
  some (decide (((r_.spares.length:Nat):Int)>2))):Option Bool).bind fun o_31 =>
  (bif o_31 then
  some 3
  else
  (((bif ((Int.tmod ((r_.legs.length:Nat):Int) 2) == 0) then
  some true
  else
  ((Bt n r_).bind fun x26 =>
  (bif decide (x26>4) then
  some true
  else
  ((By n r_.legs (fun(y0:Rg)=>Bl n y0)).bind fun x32 =>
  (bif (!x32) then
  some true
  else
  ((Bl n r_.turn).bind fun x38 =>
  (bif (!x38) then
  some true
  else
  ((BA n r_.buses (fun(y0:C6)=>Bn n y0 r_)).bind fun x45 =>
  (bif (!x45) then
  some true
  else
  ((Bz n r_.spares (fun(y0:A7)=>Bo n y0 r_)).bind fun x52 =>
  some (!x52))))))))))):Option Bool).bind fun o_50 =>
  (bif o_50 then
  some 1
  else
  ((AW n r_.unit 1 30).bind fun x58 =>
  (bif (!x58) then
  some 1
  else
  ((Cg n r_.gap).bind fun x63 =>
  (bif (!x63) then
  some 1
  else
  ((Cg n r_.fr).bind fun x69 =>
  (bif (!x69) then
  some 1
  else
  ((Cg n r_.to_).bind fun x75 =>
  (bif (!x75) then
  some 1
  else
  (bif decide (r_.fr>r_.to_) then
  some 1
  else
  some 0)))))))))))))
def C0 (n:Nat) (r_:Af):Option Int :=
  ((Bm n r_).bind fun x4 =>
  some x4)
def Bp:Nat→Af→Aw→Int→Option (Ex Int Unit)
  | 0,_,_,_=>none
  | n+1,r_,a,x_v10 =>
    (bif decide (x_v10<((r_.buses.length:Nat):Int)) then
    ((B8 r_.buses x_v10).bind fun x44 =>
    ((B8 a.holds x_v10).bind fun x49 =>
    ((AW n x49 0 2).bind fun x51 =>
    (bif (!x51) then
    some (Ex.ret 2)
    else
    ((B8 a.turns x_v10).bind fun x59 =>
    ((BQ n r_ x44 x59).bind fun x61 =>
    (bif (!x61) then
    some (Ex.ret 2)
    else
    Bp n r_ a (IntKind.i64.wrap (x_v10+1)))))))))
    else
    some (Ex.go ()))
def Cb (n:Nat) (r_:Af) (a:Aw):Option Int :=
  ((Bm n r_).bind fun x9 =>
  (bif (x9 != 0) then
  some x9
  else
  (((bif (((a.holds.length:Nat):Int) != ((r_.buses.length:Nat):Int)) then
  some true
  else
  (bif (((a.turns.length:Nat):Int) != ((r_.buses.length:Nat):Int)) then
  some true
  else
  some (((a.spares.length:Nat):Int) != ((r_.spares.length:Nat):Int)))):Option Bool).bind fun o_48 =>
  (bif o_48 then
  some 2
  else
  ((Bp n r_ a 0).bind fun o_77=>Ex.bind o_77 (fun r=>some r) fun s_78 =>
  some 0)))))
def BB (n:Nat) (s:List Int):Option (List Int) :=
  ((Jb ([]:List Int) s).bind fun x7 =>
  some x7)
def Dz (n:Nat) (s:List Bool):Option (List Bool) :=
  ((Jb ([]:List Bool) s).bind fun x7 =>
  some x7)
def Bq:Nat→(List Int)→Int→Int→Option Int
  | 0,_,_,_=>none
  | n+1,x,x_v10,x_v11 =>
    (bif decide (x_v10<((x.length:Nat):Int)) then
    ((B8 x x_v10).bind fun x21 =>
    Bq n x (IntKind.i64.wrap (x_v10+1)) (if x21>x_v11 then x21 else x_v11))
    else
    some x_v11)
def D0 (n:Nat) (x:List Int):Option Int :=
  (bif decide (((x.length:Nat):Int)<1) then
  none
  else
  ((B8 x 0).bind fun x10 =>
  ((Bq n x 1 x10).bind fun o_25 =>
  some o_25)))
def B3:Nat→(List Int)→Int→Int→Option Int
  | 0,_,_,_=>none
  | n+1,x,x_v10,x_v11 =>
    (bif decide (x_v10<((x.length:Nat):Int)) then
    ((B8 x x_v10).bind fun x21 =>
    B3 n x (IntKind.i64.wrap (x_v10+1)) (if x21<x_v11 then x21 else x_v11))
    else
    some x_v11)
def D1 (n:Nat) (x:List Int):Option Int :=
  (bif decide (((x.length:Nat):Int)<1) then
  none
  else
  ((B8 x 0).bind fun x10 =>
  ((B3 n x 1 x10).bind fun o_25 =>
  some o_25)))
def Da (n:Nat) (l:List Int):Option Int :=
  ((D0 n l).bind fun x4 =>
  some x4)
def Cc (n:Nat) (l:List Int):Option Int :=
  ((D1 n l).bind fun x4 =>
  some x4)
def C1:Nat→(List Int)→(List Int)→Int→Int→Option Int
  | 0,_,_,_,_=>none
  | n+1,marks,x6,x_v10,x_v11 =>
    (bif decide (x_v10<((x6.length:Nat):Int)) then
    ((B8 x6 x_v10).bind fun x11 =>
    ((B8 marks x_v10).bind fun x17 =>
    ((Da n ([x_v11,IntKind.i64.wrap (x11-x17)]:List Int)).bind fun x21 =>
    C1 n marks x6 (IntKind.i64.wrap (x_v10+1)) x21)))
    else
    some x_v11)
def F9 (n:Nat) (marks:List Int):Option Int :=
  ((sub marks 1).bind fun x6 =>
  ((C1 n marks x6 0 0).bind fun o_15 =>
  some o_15))
def BU:Nat→Af→QH→(List Int)→Int→Option (List Int)
  | 0,_,_,_,_=>none
  | n+1,r_,e,x_v10,x_v11 =>
    (bif decide (x_v11<((r_.legs.length:Nat):Int)) then
    ((B8 r_.legs x_v11).bind fun x15 =>
    ((e.of_ x15).bind fun x21 =>
    ((Jb x_v10 ([x21]:List Int)).bind fun x23 =>
    BU n r_ e x23 (IntKind.i64.wrap (x_v11+1)))))
    else
    some x_v10)
def BV:Nat→Af→QH→(List Int)→(List Int)→(List Int)→(List (List Int))→Int→Option ((List Int)×(List Int)×(List Int)×(List (List Int)))
  | 0,_,_,_,_,_,_,_=>none
  | n+1,r_,e,x_v20,x_v21,x_v22,x_v23,x_v24 =>
    (bif decide (x_v24<((r_.buses.length:Nat):Int)) then
    ((B8 r_.buses x_v24).bind fun x30 =>
    ((e.of_ x30.tm).bind fun x38 =>
    ((Jb x_v21 ([x38]:List Int)).bind fun x40 =>
    ((e.of_ r_.turn).bind fun x47 =>
    ((Jb x_v22 ([x47]:List Int)).bind fun x49 =>
    ((BB n x_v20).bind fun x53 =>
    ((Jb x_v23 ([x53]:List (List Int))).bind fun x55 =>
    BV n r_ e x_v20 x40 x49 x55 (IntKind.i64.wrap (x_v24+1)))))))))
    else
    some (x_v20,x_v21,x_v22,x_v23))
def BW:Nat→Af→(List Int)→(List (List Int))→Int→Option ((List Int)×(List (List Int)))
  | 0,_,_,_,_=>none
  | n+1,r_,x_v30,x_v31,x_v32 =>
    (bif decide (x_v32<((r_.spares.length:Nat):Int)) then
    ((BB n x_v30).bind fun x68 =>
    ((Jb x_v31 ([x68]:List (List Int))).bind fun x70 =>
    BW n r_ x_v30 x70 (IntKind.i64.wrap (x_v32+1))))
    else
    some (x_v30,x_v31))
def D2 (n:Nat) (r_:Af) (e:QH):Option Au :=
  ((BU n r_ e ([]:List Int) 0).bind fun o_45 =>
  ((BV n r_ e o_45 ([]:List Int) ([]:List Int) ([]:List (List Int)) 0).bind fun o_163 =>
  ((BW n r_ o_163.1 o_163.2.2.2 0).bind fun o_561 =>
  some (Au.mk o_163.2.1 o_163.2.2.1 o_561.2))))
def AE {σ:Type}:Nat→(σ→Int→Int→Option (σ×Bool))→Bg→Af→A1→Int→Int→σ→Option (Ex σ σ)
  | 0,_,_,_,_,_,_,_=>none
  | n+1,yield_,q0,q1,q2,x_v10,x_v11,x_v12 =>
    ((((B9 n q1 x_v11).bind fun x13 =>
    (bif x13 then
    ((yield_ x_v12 x_v11 x_v10).bind fun x18 =>
    some (x18.2,x18.1))
    else
    some (false,x_v12))):Option (Bool×σ)).bind fun o_36 =>
    (bif o_36.1 then
    (bif (x_v11 == q0.turned) then
    ((AV n q1).bind fun x26 =>
    AE n yield_ q0 q1 q2 (IntKind.i64.wrap (x_v10+q2.turn)) (IntKind.i64.wrap ((IntKind.i64.wrap (x26-1))-x_v11)) o_36.2)
    else
    (bif decide (x_v11<((q2.legs.length:Nat):Int)) then
    ((B8 q2.legs x_v11).bind fun x44 =>
    AE n yield_ q0 q1 q2 (IntKind.i64.wrap (x_v10+x44)) (IntKind.i64.wrap (x_v11+1)) o_36.2)
    else
    some (Ex.ret o_36.2)))
    else
    some (Ex.go o_36.2)))
def Bf {σ:Type} (n:Nat) (yield_:σ→Int→Int→Option (σ×Bool)) (s:σ) (q0:Bg) (q1:Af) (q2:A1):Option σ :=
  ((AE n yield_ q0 q1 q2 q0.tm q0.stop s).bind fun o_22=>Ex.bind o_22 (fun r=>some r) fun s_23 =>
  some s_23)
def C2 (n:Nat) (d:Ax) (r_:Af):Option Aw :=
  ((OU ([d.holds.a0,d.holds.a1,d.holds.a2,d.holds.a3]:List Int) ((r_.buses.length:Nat):Int)).bind fun x9 =>
  ((OU ([d.turns.a0,d.turns.a1,d.turns.a2,d.turns.a3]:List Int) ((r_.buses.length:Nat):Int)).bind fun x15 =>
  ((OU ([d.spares.a0,d.spares.a1]:List Bool) ((r_.spares.length:Nat):Int)).bind fun x21 =>
  ((BB n x9).bind fun x10 =>
  ((BB n x15).bind fun x16 =>
  ((Dz n x21).bind fun x22 =>
  some (Aw.mk x10 x16 x22)))))))
def BC (n:Nat) (r_:Af) (x:Bg) (t_:A1):Option (Bg×Af×A1) :=
  some (x,r_,t_)
def AK:Nat→Af→(List Int)→(List (Int×Rg))→(((List Int)×(List (Int×Rg)))→Prop)→Prop
  | 0,_,_,_,_=>False
  | n+1,r_,x_v10,x_v11,K =>
    ((x_v11=[] →
    K (x_v10,x_v11))∧(∀ k_79 x_80 rem_82,List.Perm x_v11 ((k_79,x_80)::rem_82) →
    (∃ x29,((fun(y0:Int)=>A2 n r_ y0) x_80.lo)=some x29 ∧
    (bif x29 then
    (∃ x34,(Jb x_v10 ([x_80.lo]:List Int))=some x34 ∧
    AK n r_ x34 rem_82 K)
    else
    AK n r_ x_v10 rem_82 K))))
def AL:Nat→Int→Int→(List (Int×Rg))→((Int×(List (Int×Rg)))→Prop)→Prop
  | 0,_,_,_,_=>False
  | n+1,x42,x_v30,x_v31,K =>
    ((x_v31=[] →
    K (x_v30,x_v31))∧(∀ k_242 x_243 rem_245,List.Perm x_v31 ((k_242,x_243)::rem_245) →
    (bif decide (x_243.lo>x42) then
    (∃ x60,(Cc n ([x_v30,x_243.hi]:List Int))=some x60 ∧
    AL n x42 x60 rem_245 K)
    else
    AL n x42 x_v30 rem_245 K)))
def AM:Nat→Af→(Fw Int Rg)→((List Int)×(List (Int×Rg)))→(List Int)→Int→Int→Int→(((List Int)×Int×Int)→Prop)→Prop
  | 0,_,_,_,_,_,_,_,_=>False
  | n+1,r_,spans,s_59,x_v20,x_v21,x_v22,x_v23,K =>
    (bif decide (x_v21<((s_59.1.length:Nat):Int)) then
    (∃ x42,(B8 x_v20 x_v21)=some x42 ∧
    (AL n x42 r_.to_ spans.l (fun s_222 =>
    (bif decide ((IntKind.i64.wrap (s_222.1-x42))>x_v23) then
    AM n r_ spans s_59 x_v20 (IntKind.i64.wrap (x_v21+1)) x42 (IntKind.i64.wrap (s_222.1-x42)) K
    else
    AM n r_ spans s_59 x_v20 (IntKind.i64.wrap (x_v21+1)) x_v22 x_v23 K))))
    else
    K (x_v20,x_v22,x_v23))
def Eo (n:Nat) (r_:Af) (spans:Fw Int Rg) (Q:OH→Prop):Prop :=
  (AK n r_ ([r_.fr]:List Int) spans.l (fun s_59 =>
  (AM n r_ spans s_59 s_59.1 0 r_.fr 0 (fun s_170 =>
  Q (OH.mk s_170.2.1 s_170.2.2)))))
def A0 (m to_:Int) (l:List (Int×Rg)):Int:=l.foldl (fun e p=>if p.2.lo>m then min e p.2.hi else e) to_
def Ij (r:Af) (l:List (Int×Rg)):List Int:=r.fr::(l.filter fun p=>decide (r.fr≤p.2.lo) && decide (p.2.lo≤r.to_)).map fun p=>p.2.lo
def Ch (n:Nat) (r_:Af) (spans:Fw Int Rg):Option Int :=
  if 2*spans.l.length+20≤n∧spans.l.length<1000000 then some ((Ij r_ spans.l).foldl (fun b m=>max b (IntKind.i64.wrap (A0 m r_.to_ spans.l-m))) 0) else none
def BD:Nat→(List (Option (List (Int×Rg))))→(List (Option (List (Int×Rg))))→Int→Option (List (Option (List (Int×Rg))))
  | 0,_,_,_=>none
  | n+1,x18,x_v10,x_v11 =>
    (bif decide (x_v11<((x18.length:Nat):Int)) then
    ((B8 x_v10 x_v11).bind fun x27 =>
    ((upd x_v10 x_v11 (some ([]:List (Int×Rg)))).bind fun u_114 =>
    BD n x18 u_114 (IntKind.i64.wrap (x_v11+1))))
    else
    some x_v10)
def BE:Nat→AO→((List Bg)×(List A1))→((List Bg)×(List A1))→(List (Option (List (Int×Rg))))→Int→Option (List (Option (List (Int×Rg))))
  | 0,_,_,_,_,_=>none
  | n+1,w_,x35,x44,x_v20,x_v21 =>
    (bif decide (x_v21<((x35.1.length:Nat):Int)) then
    ((B8 x35.1 x_v21).bind fun x52 =>
    ((B8 x35.2 x_v21).bind fun x59 =>
    ((BC n w_.route x52 x59).bind fun x61 =>
    ((Bf n (fun(s:List (Option (List (Int×Rg))))(x62:Int)(x63:Int)=>((((B8 s x62).bind fun x66 =>
    (x66.bind fun m_359 =>
    ((upd s x62 (some (Ix m_359 x_v21 (Rg.mk x63 x63)))).bind fun u_366 =>
    some u_366))):Option (List (Option (List (Int×Rg))))).bind fun s1=>some (s1,true))) x_v20 x61.1 x61.2.1 x61.2.2).bind fun o_315 =>
    ((B8 x44.1 x_v21).bind fun x76 =>
    ((B8 x44.2 x_v21).bind fun x80 =>
    ((BC n w_.route x76 x80).bind fun x82 =>
    ((Bf n (fun(s:List (Option (List (Int×Rg))))(x83:Int)(x84:Int)=>((((B8 s x83).bind fun x87 =>
    ((B8 s x83).bind fun x92 =>
    (x92.bind fun m_514 =>
    ((some (HF m_514 x_v21 ((Rg.mk 0 0):Rg))).bind fun x95 =>
    (x87.bind fun m_527 =>
    ((upd s x83 (some (Ix m_527 x_v21 (Rg.mk x95.1.lo x84)))).bind fun u_534 =>
    some u_534)))))):Option (List (Option (List (Int×Rg))))).bind fun s1=>some (s1,true))) o_315 x82.1 x82.2.1 x82.2.2).bind fun o_456 =>
    BE n w_ x35 x44 o_456 (IntKind.i64.wrap (x_v21+1))))))))))
    else
    some x_v20)
def CM (n:Nat) (w_:AO):Option (List (Fw Int Rg)) :=
  ((AV n w_.route).bind fun x17 =>
  ((mk x17 (none:Option (List (Int×Rg)))).bind fun x18 =>
  ((BD n x18 x18 0).bind fun o_76 =>
  ((D2 n w_.route (QH.mk (fun(y0:Rg)=>Cn n y0))).bind fun x34 =>
  ((Bu n w_ x34).bind fun x35 =>
  ((D2 n w_.route (QH.mk (fun(y0:Rg)=>Ca n y0))).bind fun x43 =>
  ((Bu n w_ x43).bind fun x44 =>
  ((BE n w_ x35 x44 o_76 0).bind fun o_227 =>
  ((List.mapM id o_227).bind fun l_579 =>
  some (l_579.map Fw.mk))))))))))
def BF:Nat→AO→(List (Fw Int Rg))→(List Int)→Int→Option (List Int)
  | 0,_,_,_,_=>none
  | n+1,w_,x6,x_v10,x_v11 =>
    (bif decide (x_v11<((x6.length:Nat):Int)) then
    ((B8 x6 x_v11).bind fun x10 =>
    ((Ch n w_.route x10).bind fun x16 =>
    ((Jb x_v10 ([x16]:List Int)).bind fun x19 =>
    BF n w_ x6 x19 (IntKind.i64.wrap (x_v11+1)))))
    else
    some x_v10)
def CN (n:Nat) (w_:AO):Option (List Int) :=
  ((CM n w_).bind fun x6 =>
  ((BF n w_ x6 ([]:List Int) 0).bind fun o_52 =>
  some o_52))
def BL:Nat→Af→Int→(List (Fw Int Rg))→Int→Option Bool
  | 0,_,_,_,_=>none
  | n+1,r_,most,x17,x_v10 =>
    (bif decide (x_v10<((x17.length:Nat):Int)) then
    ((B8 x17 x_v10).bind fun x21 =>
    ((Ch n r_ x21).bind fun x25 =>
    (bif decide (x25>most) then
    some false
    else
    BL n r_ most x17 (IntKind.i64.wrap (x_v10+1)))))
    else
    some true)
def Ep (n:Nat) (r_:Af) (d:Ax) (most:Int):Option Bool :=
  ((C2 n d r_).bind fun x14 =>
  ((CM n (AO.mk r_ x14)).bind fun x17 =>
  ((BL n r_ most x17 0).bind fun o_65 =>
  some o_65)))
mutual
def B4 {σ:Type}:Nat→(σ→Ax→BR→Option σ)→Ax→BR→Int→Int→Af→Int→Bk→σ→Option (Bk×σ)
  | 0,_,_,_,_,_,_,_,_,_=>none
  | n+1,see_,d,c,at_,buses,r_,x_v10,x_v11,x_v12 =>
    (bif decide (x_v10<3) then
    ((SP 4 at_).bind fun x27 =>
    ((Bk.setI x_v11 at_ x_v10).bind fun u_57 =>
    ((control_Route_every_1 n see_ (Ax.mk u_57 d.turns d.spares) (BR.mk (IntKind.i64.wrap (c.number+(if 1<x_v10 then 1 else x_v10))) (IntKind.i64.wrap (c.sum+x_v10))) (IntKind.i64.wrap (at_+1)) buses r_ x_v12).bind fun x42 =>
    B4 n see_ d c at_ buses r_ (IntKind.i64.wrap (x_v10+1)) u_57 x42)))
    else
    some (x_v11,x_v12))
def Bh {σ:Type}:Nat→(σ→Ax→BR→Option σ)→Ax→BR→Int→Int→Af→Int→Bk→σ→Option (Bk×σ)
  | 0,_,_,_,_,_,_,_,_,_=>none
  | n+1,see_,d,c,at_,buses,r_,x_v20,x_v21,x_v22 =>
    ((Bt n r_).bind fun x51 =>
    (bif decide (x_v20<x51) then
    ((B8 r_.buses (IntKind.i64.wrap (at_-buses))).bind fun x61 =>
    ((BQ n r_ x61 x_v20).bind fun x64 =>
    (bif x64 then
    ((SP 4 (IntKind.i64.wrap (at_-buses))).bind fun x70 =>
    ((Bk.setI x_v21 (IntKind.i64.wrap (at_-buses)) x_v20).bind fun u_165 =>
    ((control_Route_every_1 n see_ (Ax.mk d.holds u_165 d.spares) (BR.mk (IntKind.i64.wrap (c.number+(if 1<(IntKind.i64.wrap (x_v20+1)) then 1 else(IntKind.i64.wrap (x_v20+1))))) c.sum) (IntKind.i64.wrap (at_+1)) buses r_ x_v22).bind fun x84 =>
    Bh n see_ d c at_ buses r_ (IntKind.i64.wrap (x_v20+1)) u_165 x84)))
    else
    Bh n see_ d c at_ buses r_ (IntKind.i64.wrap (x_v20+1)) x_v21 x_v22)))
    else
    some (x_v21,x_v22)))
def B5 {σ:Type}:Nat→(σ→Ax→BR→Option σ)→Ax→BR→Int→Int→Af→Int→Bs→σ→Option (Bs×σ)
  | 0,_,_,_,_,_,_,_,_,_=>none
  | n+1,see_,d,c,at_,buses,r_,x_v30,x_v31,x_v32 =>
    (bif decide (x_v30<2) then
    ((SP 2 (IntKind.i64.wrap (at_-(IntKind.i64.wrap (2*buses))))).bind fun x104 =>
    ((Bs.setI x_v31 (IntKind.i64.wrap (at_-(IntKind.i64.wrap (2*buses)))) (x_v30 == 1)).bind fun u_241 =>
    ((control_Route_every_1 n see_ (Ax.mk d.holds d.turns u_241) (BR.mk (IntKind.i64.wrap (c.number+x_v30)) c.sum) (IntKind.i64.wrap (at_+1)) buses r_ x_v32).bind fun x116 =>
    B5 n see_ d c at_ buses r_ (IntKind.i64.wrap (x_v30+1)) u_241 x116)))
    else
    some (x_v31,x_v32))
def control_Route_every_1 {σ:Type}:Nat→(σ→Ax→BR→Option σ)→Ax→BR→Int→Int→Af→σ→Option σ
  | 0,_,_,_,_,_,_,_=>none
  | n+1,see_,d,c,at_,buses,r_,s =>
    (bif decide (at_<buses) then
    ((B4 n see_ d c at_ buses r_ 0 d.holds s).bind fun o_33 =>
    some o_33.2)
    else
    (bif decide (at_<(IntKind.i64.wrap (2*buses))) then
    ((Bh n see_ d c at_ buses r_ (-1) d.turns s).bind fun o_107 =>
    some o_107.2)
    else
    (bif decide (at_<(IntKind.i64.wrap ((IntKind.i64.wrap (2*buses))+((r_.spares.length:Nat):Int)))) then
    ((B5 n see_ d c at_ buses r_ 0 d.spares s).bind fun o_217 =>
    some o_217.2)
    else
    ((see_ s d c).bind fun x16 =>
    some x16))))
end
def CZ {σ:Type} (n:Nat) (see_:σ→Ax→BR→Option σ) (r_:Af) (s:σ):Option σ :=
  ((control_Route_every_1 n see_ (Ax.mk (Bk.mk 0 0 0 0) (Bk.mk 0 0 0 0) (Bs.mk false false)) (BR.mk 0 0) 0 ((r_.buses.length:Nat):Int) r_ s).bind fun x13 =>
  some x13)
def DM (n:Nat) (d:Ax) (c:BR) (found:Bool) (least:BR) (best:Ax) (r_:Af):Option (Bool×BR×Ax) :=
  (((bif found then
  (bif ((c.number == least.number) && ((c.sum == least.sum) && true)) then
  some true
  else
  (bif decide (c.number>least.number) then
  some true
  else
  (bif (c.number == least.number) then
  some (decide (c.sum>least.sum))
  else
  some false)))
  else
  some false):Option Bool).bind fun o_21 =>
  (bif o_21 then
  some (found,least,best)
  else
  ((Ep n r_ d r_.gap).bind fun x39 =>
  (bif x39 then
  some (true,c,d)
  else
  some (found,least,best)))))
def DD (h0:Ae) (b_found b_least b_best:Nat) (s:Bool×BR×Ax) (F:Fr) (h:Ae):Prop:=Ae.le h0 h∧(b_found≠b_least∧b_found≠b_best∧b_least≠b_best∧True)∧(F.X b_found=some (.cells ([.bool s.1]:List Value).toArray 4 (0,0))∧∀ o,F.h b_found o=none)∧(F.X b_least=some (.cells ([.int .i64 s.2.1.number,.int .i64 s.2.1.sum]:List Value).toArray 107 (0,0))∧∀ o,F.h b_least o=none)∧(F.X b_best=some (.cells ([.int .i64 s.2.2.holds.a0,.int .i64 s.2.2.holds.a1,.int .i64 s.2.2.holds.a2,.int .i64 s.2.2.holds.a3,.int .i64 s.2.2.turns.a0,.int .i64 s.2.2.turns.a1,.int .i64 s.2.2.turns.a2,.int .i64 s.2.2.turns.a3,.bool s.2.2.spares.a0,.bool s.2.2.spares.a1]:List Value).toArray 105 (0,0))∧∀ o,F.h b_best o=none)∧True
def Ft (b_found b_least b_best:Nat) (b:Nat):Prop:=b=b_found∨b=b_least∨b=b_best
def Ho (n:Nat) (r_:Af):Option (Aw×Int) :=
  ((Bm n r_).bind fun x9 =>
  (bif (x9 != 0) then
  some ((Aw.mk ([]:List Int) ([]:List Int) ([]:List Bool)),x9)
  else
  ((CZ n (fun s y0 y1=>DM n y0 y1 s.1 s.2.1 s.2.2 r_) r_ (false,BR.mk 0 0,(Ax.mk (Bk.mk 0 0 0 0) (Bk.mk 0 0 0 0) (Bs.mk false false)))).bind fun x16 =>
  (bif (!x16.1) then
  some ((Aw.mk ([]:List Int) ([]:List Int) ([]:List Bool)),9)
  else
  ((C2 n x16.2.2 r_).bind fun x22 =>
  some (x22,0))))))
def D7 (n:Nat) (d:Ax) (p1:BR) (least:Int) (tried:List (Ax×Int)) (r_:Af):Option ((List (Ax×Int))×Int) :=
  ((some (HF tried d (0:Int))).bind fun x12 =>
  (bif (!x12.2) then
  ((C2 n d r_).bind fun x22 =>
  ((CN n (AO.mk r_ x22)).bind fun x24 =>
  ((Da n x24).bind fun x25 =>
  ((some (HF (Ix tried d x25) d (0:Int))).bind fun x29 =>
  ((Cc n ([least,x29.1]:List Int)).bind fun x31 =>
  some ((Ix tried d x25),x31))))))
  else
  ((some (HF tried d (0:Int))).bind fun x29 =>
  ((Cc n ([least,x29.1]:List Int)).bind fun x31 =>
  some (tried,x31)))))
def D3 (h0:Ae) (b_least bm_tried:Nat) (s:(List (Ax×Int))×Int) (F:Fr) (h:Ae):Prop:=Ae.le h0 h∧(b_least≠bm_tried∧True)∧∃ (es_137:Array MapEntry)(cl_138:Nat),(F.X b_least=some (.cells ([.int .i64 s.2]:List Value).toArray 3 (0,0))∧∀ o,F.h b_least o=none)∧F.X bm_tried=some (.map es_137 cl_138)∧D6 h es_137.toList cl_138 s.1∧True
def EO (b_least bm_tried:Nat) (b:Nat):Prop:=b=b_least∨b=bm_tried
def GA (n:Nat) (r_:Af):Option (Int×Int) :=
  ((Bm n r_).bind fun x8 =>
  (bif (x8 != 0) then
  some (0,x8)
  else
  ((CZ n (fun s y0 y1=>D7 n y0 y1 s.2 s.1 r_) r_ (([]:List (Ax×Int)),IntKind.i64.wrap (r_.to_-r_.fr))).bind fun x20 =>
  some (x20.2,0))))
def GB (n:Nat) (r_:Af) (a:Aw):Option ((List Int)×Int) :=
  ((Cb n r_ a).bind fun x9 =>
  (bif (x9 != 0) then
  some (([]:List Int),x9)
  else
  ((CN n (AO.mk r_ a)).bind fun x16 =>
  some (x16,0))))
def EE (n:Nat)  : Option Bool :=
  ((Ii n ).bind fun x8 =>
  ((Ma n ).bind fun x9 =>
  ((GB n x8 x9).bind fun x10 =>
  ((Ii n ).bind fun x14 =>
  ((Ho n x14).bind fun x15 =>
  ((Ii n ).bind fun x19 =>
  ((GA n x19).bind fun x20 =>
  (bif (x10.2 == 0) then
  ((F6 n x10.1 ([40,30,30,37]:List Int)).bind fun x28 =>
  (bif x28 then
  (bif (x15.2 == 0) then
  ((Mb n ).bind fun x36 =>
  ((LZ n x15.1 x36).bind fun x37 =>
  (bif x37 then
  (bif (x20.2 == 0) then
  some (x20.1 == 35)
  else
  some false)
  else
  some false)))
  else
  some false)
  else
  some false))
  else
  some false))))))))
def DN:Nat→Af→Au→Int→Option (Ex Bool Unit)
  | 0,_,_,_=>none
  | n+1,r_,t_,x_v10 =>
    (bif decide (x_v10<((r_.buses.length:Nat):Int)) then
    ((B8 t_.tm x_v10).bind fun x47 =>
    ((B8 r_.buses x_v10).bind fun x52 =>
    ((B8 r_.buses x_v10).bind fun x59 =>
    ((DJ n x47 x52.tm.lo x59.tm.hi).bind fun x63 =>
    (bif (!x63) then
    some (Ex.ret false)
    else
    ((B8 t_.turns x_v10).bind fun x69 =>
    ((DJ n x69 r_.turn.lo r_.turn.hi).bind fun x77 =>
    (bif (!x77) then
    some (Ex.ret false)
    else
    DN n r_ t_ (IntKind.i64.wrap (x_v10+1))))))))))
    else
    some (Ex.go ()))
def DO:Nat→Af→Au→Int→Int→Option (Ex Bool Unit)
  | 0,_,_,_,_=>none
  | n+1,r_,t_,x_v20,x_v30 =>
    (bif decide (x_v30<((r_.legs.length:Nat):Int)) then
    ((B8 t_.legs x_v20).bind fun x107 =>
    ((B8 x107 x_v30).bind fun x110 =>
    ((B8 r_.legs x_v30).bind fun x115 =>
    ((B8 r_.legs x_v30).bind fun x121 =>
    ((DJ n x110 x115.lo x121.hi).bind fun x124 =>
    (bif (!x124) then
    some (Ex.ret false)
    else
    DO n r_ t_ x_v20 (IntKind.i64.wrap (x_v30+1))))))))
    else
    some (Ex.go ()))
def DP:Nat→Af→Au→Int→Option (Ex Bool Unit)
  | 0,_,_,_=>none
  | n+1,r_,t_,x_v20 =>
    (bif decide (x_v20<((t_.legs.length:Nat):Int)) then
    ((B8 t_.legs x_v20).bind fun x90 =>
    (bif (((x90.length:Nat):Int) != ((r_.legs.length:Nat):Int)) then
    some (Ex.ret false)
    else
    ((DO n r_ t_ x_v20 0).bind fun o_218=>Ex.bind o_218 (fun r=>some (Ex.ret r)) fun s_219 =>
    DP n r_ t_ (IntKind.i64.wrap (x_v20+1)))))
    else
    some (Ex.go ()))
def Ik (n:Nat) (r_:Af) (t_:Au):Option Bool :=
  (((bif (((t_.tm.length:Nat):Int) != ((r_.buses.length:Nat):Int)) then
  some true
  else
  (bif (((t_.turns.length:Nat):Int) != ((r_.buses.length:Nat):Int)) then
  some true
  else
  some (((t_.legs.length:Nat):Int) != (IntKind.i64.wrap (((r_.buses.length:Nat):Int)+((r_.spares.length:Nat):Int)))))):Option Bool).bind fun o_31 =>
  (bif o_31 then
  some false
  else
  ((DN n r_ t_ 0).bind fun o_60=>Ex.bind o_60 (fun r=>some r) fun s_61 =>
  ((DP n r_ t_ 0).bind fun o_176=>Ex.bind o_176 (fun r=>some r) fun s_177 =>
  some true))))
def AY:Nat→AO→(List (List Int))→(List (List Int))→Int→Option (List (List Int))
  | 0,_,_,_,_=>none
  | n+1,w_,x18,x_v10,x_v11 =>
    (bif decide (x_v11<((x18.length:Nat):Int)) then
    ((B8 x_v10 x_v11).bind fun x36 =>
    ((upd x_v10 x_v11 ([w_.route.fr,w_.route.to_]:List Int)).bind fun u_137 =>
    AY n w_ x18 u_137 (IntKind.i64.wrap (x_v11+1))))
    else
    some x_v10)
def AZ:Nat→AO→((List Bg)×(List A1))→(List (List Int))→Int→Option (List (List Int))
  | 0,_,_,_,_=>none
  | n+1,w_,x41,x_v20,x_v21 =>
    (bif decide (x_v21<((x41.1.length:Nat):Int)) then
    ((B8 x41.1 x_v21).bind fun x49 =>
    ((B8 x41.2 x_v21).bind fun x56 =>
    ((BC n w_.route x49 x56).bind fun x58 =>
    ((Bf n (fun(s:List (List Int))(x59:Int)(x60:Int)=>(((((fun(y0:Int)=>A2 n w_.route y0) x60).bind fun x63 =>
    (bif x63 then
    ((B8 s x59).bind fun x68 =>
    ((Jb x68 ([x60]:List Int)).bind fun x72 =>
    ((B8 s x59).bind fun x73 =>
    ((upd s x59 x72).bind fun u_376 =>
    some u_376))))
    else
    some s)):Option (List (List Int))).bind fun s1=>some (s1,true))) x_v20 x58.1 x58.2.1 x58.2.2).bind fun o_286 =>
    AZ n w_ x41 o_286 (IntKind.i64.wrap (x_v21+1))))))
    else
    some x_v20)
def Ba:Nat→(List (List Int))→(List (List Int))→Int→Option (List (List Int))
  | 0,_,_,_=>none
  | n+1,o_204,x_v30,x_v31 =>
    (bif decide (x_v31<((o_204.length:Nat):Int)) then
    ((B8 x_v30 x_v31).bind fun x82 =>
    ((Pg x82).bind fun u_477 =>
    ((upd x_v30 x_v31 u_477).bind fun u_478 =>
    ((B8 u_478 x_v31).bind fun x89 =>
    ((Pi x89).bind fun x91 =>
    ((B8 u_478 x_v31).bind fun x92 =>
    ((upd u_478 x_v31 x91).bind fun u_536 =>
    Ba n o_204 u_536 (IntKind.i64.wrap (x_v31+1)))))))))
    else
    some x_v30)
def Ci (n:Nat) (w_:AO) (t_:Au):Option (List (List Int)) :=
  ((AV n w_.route).bind fun x17 =>
  ((mk x17 (([]:List Int):List Int)).bind fun x18 =>
  ((AY n w_ x18 x18 0).bind fun o_95 =>
  ((Bu n w_ t_).bind fun x41 =>
  ((AZ n w_ x41 o_95 0).bind fun o_204 =>
  ((Ba n o_204 o_204 0).bind fun o_440 =>
  some o_440))))))
def BJ (n:Nat) (r_:Af) (a:Aw) (t_:Au):Option ((List (List Int))×Int) :=
  ((Cb n r_ a).bind fun x11 =>
  (bif (x11 != 0) then
  some (([]:List (List Int)),x11)
  else
  ((Cs n r_ t_).bind fun x17 =>
  (bif (!x17) then
  some (([]:List (List Int)),2)
  else
  ((Ci n (AO.mk r_ a) t_).bind fun x23 =>
  some (x23,0))))))
def Cq:Nat→((List (List Int))×Int)→(List Int)→Int→Option (List Int)
  | 0,_,_,_=>none
  | n+1,x17,x_v10,x_v11 =>
    (bif decide (x_v11<((x17.1.length:Nat):Int)) then
    ((B8 x17.1 x_v11).bind fun x27 =>
    ((F9 n x27).bind fun x31 =>
    ((Jb x_v10 ([x31]:List Int)).bind fun x33 =>
    Cq n x17 x33 (IntKind.i64.wrap (x_v11+1)))))
    else
    some x_v10)
def D4 (n:Nat) (r_:Af) (a:Aw) (t_:Au):Option ((List Int)×Int) :=
  ((BJ n r_ a t_).bind fun x17 =>
  (bif (x17.2 != 0) then
  some (([]:List Int),x17.2)
  else
  ((Cq n x17 ([]:List Int) 0).bind fun o_80 =>
  some (o_80,0))))
def B0:Nat→Af→Aw→Au→((List (List Int))×Int)→((List Int)×Int)→Int→Option (Ex Bool Unit)
  | 0,_,_,_,_,_,_=>none
  | n+1,r_,a,t_,x34,x44,x_v10 =>
    (bif decide (x_v10<((x34.1.length:Nat):Int)) then
    ((B8 x34.1 x_v10).bind fun x111 =>
    ((Gb n r_ a t_ x_v10).bind fun x117 =>
    ((F6 n x111 x117).bind fun x118 =>
    (bif (!x118) then
    some (Ex.ret false)
    else
    ((B8 x44.1 x_v10).bind fun x123 =>
    ((JW n r_ a t_ x_v10).bind fun x129 =>
    (bif (x123 != x129) then
    some (Ex.ret false)
    else
    B0 n r_ a t_ x34 x44 (IntKind.i64.wrap (x_v10+1)))))))))
    else
    some (Ex.go ()))
def Ei (n:Nat) (r_:Af) (a:Aw) (t_:Au):Option Bool :=
  ((((Ih n r_).bind fun x15 =>
  (bif (!x15) then
  some true
  else
  ((GN n a t_).bind fun x20 =>
  some (!x20)))):Option Bool).bind fun o_45 =>
  (bif o_45 then
  ((EE n ).bind fun x23 =>
  some x23)
  else
  ((Fs n r_).bind fun x25 =>
  ((C0 n x25).bind fun x26 =>
  ((Fs n r_).bind fun x29 =>
  ((GM n a).bind fun x31 =>
  ((Ga n t_).bind fun x33 =>
  ((BJ n x29 x31 x33).bind fun x34 =>
  ((Fs n r_).bind fun x39 =>
  ((GM n a).bind fun x41 =>
  ((Ga n t_).bind fun x43 =>
  ((D4 n x39 x41 x43).bind fun x44 =>
  ((GO n r_ a).bind fun x49 =>
  ((FZ n r_).bind fun x52 =>
  (bif (x26 != x52) then
  some false
  else
  (((bif (x49 == 0) then
  ((Ik n r_ t_).bind fun x59 =>
  some (!x59))
  else
  some false):Option Bool).bind fun o_280 =>
  (((bif o_280 then
  some 2
  else
  some x49):Option Int).bind fun o_306 =>
  (bif (o_306 != 0) then
  (((bif (x34.2 == o_306) then
  (bif (x44.2 == o_306) then
  (bif ((IntKind.i64.wrap (((x34.1.length:Nat):Int)+((x44.1.length:Nat):Int))) == 0) then
  ((EE n ).bind fun x81 =>
  some x81)
  else
  some false)
  else
  some false)
  else
  some false):Option Bool).bind fun o_319 =>
  some o_319)
  else
  (((bif (x34.2 != 0) then
  some true
  else
  (bif (x44.2 != 0) then
  some true
  else
  ((Eh n r_).bind fun x93 =>
  (bif (((x34.1.length:Nat):Int) != x93) then
  some true
  else
  ((Eh n r_).bind fun x100 =>
  some (((x44.1.length:Nat):Int) != x100)))))):Option Bool).bind fun o_357 =>
  (bif o_357 then
  some false
  else
  ((B0 n r_ a t_ x34 x44 0).bind fun o_413=>Ex.bind o_413 (fun r=>some r) fun s_414 =>
  ((EE n ).bind fun x132 =>
  some x132))))))))))))))))))))))
abbrev XZ:=@Option.some.inj
abbrev XY:=@Exists.intro
abbrev XX:=@Option.bind_some
abbrev XW:=@cond_true
abbrev XV:=@cond_false
abbrev XU:=@Ae.le_trans
abbrev XT:=@wp_seq
end Go.Proofs.YtokchpjijlebiaaGreat
