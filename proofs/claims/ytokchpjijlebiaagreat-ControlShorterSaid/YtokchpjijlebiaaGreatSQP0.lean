/- What the functions compute, in plain Lean. -/
import Derived.Test.YtokchpjijlebiaaGreatSQS7
import Derived.Test.YtokchpjijlebiaaGreatProg
set_option linter.all false
namespace Go.Proofs.YtokchpjijlebiaaGreat
open Go Go.RowKit
open Rep (rep)
open KRep (kv)
open VRep (rv)
structure Rg where
  lo:Int
  hi:Int
deriving DecidableEq,Inhabited
instance : Rep Rg:=Rep.via fun x=>(x.lo,x.hi)
instance : VRep Rg:=VRep.agg Rg
structure Cu where
  stop:Int
  tm:Rg
deriving DecidableEq,Inhabited
instance : Rep Cu:=Rep.via fun x=>(x.stop,x.tm)
instance : VRep Cu:=VRep.agg Cu
structure A6 where
  stop:Int
  tm:Int
deriving DecidableEq,Inhabited
instance : Rep A6:=Rep.via fun x=>(x.stop,x.tm)
instance : VRep A6:=VRep.agg A6
structure Af where
  legs:List Rg
  turn:Rg
  buses:List Cu
  spares:List A6
  unit:Int
  gap:Int
  fr:Int
  to_:Int
deriving DecidableEq,Inhabited
instance : Rep Af:=Rep.via fun x=>(x.legs,x.turn,x.buses,x.spares,x.unit,x.gap,x.fr,x.to_)
instance : VRep Af:=VRep.agg Af
structure Av where
  holds:List Int
  turns:List Int
  spares:List Bool
deriving DecidableEq,Inhabited
instance : Rep Av:=Rep.via fun x=>(x.holds,x.turns,x.spares)
instance : VRep Av:=VRep.agg Av
structure Aw where
  tm:List Int
  turns:List Int
  legs:List (List Int)
deriving DecidableEq,Inhabited
instance : Rep Aw:=Rep.via fun x=>(x.tm,x.turns,x.legs)
instance : VRep Aw:=VRep.agg Aw
structure AE where
  route:Af
  acts:Av
deriving DecidableEq,Inhabited
instance : Rep AE:=Rep.via fun x=>(x.route,x.acts)
instance : VRep AE:=VRep.agg AE
structure AR where
  stop:Int
  tm:Int
  turned:Int
deriving DecidableEq,Inhabited
instance : Rep AR:=Rep.via fun x=>(x.stop,x.tm,x.turned)
instance : VRep AR:=VRep.agg AR
structure Ay where
  legs:List Int
  turn:Int
deriving DecidableEq,Inhabited
instance : Rep Ay:=Rep.via fun x=>(x.legs,x.turn)
instance : VRep Ay:=VRep.agg Ay
def RF (h:Ae) (v:Value) (f:Rg→Option Bool):Prop:=∀ (h':Ae)(w':World),Ae.le h h'→CG h' w'→∀ (x0:Rg)(cs0:List Value)(_:rep h' x0 cs0)(r:Bool),f x0=some r→HU Tryz.prog v #[.agg cs0.toArray] w' (CH (fun h v=>v=.bool r) h' w')
theorem RF.mono {h h':Ae} {v:Value} {f:Rg→Option Bool} (H:RF h v f) (hle:Ae.le h h'):RF h' v f:=fun h2 w2 l=>H h2 w2 (Ae.le_trans hle l)
instance : Rep (Rg→Option Bool):=⟨1,fun h f cs=>∃ fn first cap,cs=[.func fn first cap]∧RF h (.func fn first cap) f,fun hle ⟨a,b,c,e,hr⟩=>⟨a,b,c,e,hr.mono hle⟩,fun⟨a,b,c,e,_⟩=>by subst e; rfl,fun⟨a,b,c,e,_⟩ v hv=>by subst e; simp at hv; subst hv; rfl⟩
def RG (h:Ae) (v:Value) (f:Cu→Option Bool):Prop:=∀ (h':Ae)(w':World),Ae.le h h'→CG h' w'→∀ (x0:Cu)(cs0:List Value)(_:rep h' x0 cs0)(r:Bool),f x0=some r→HU Tryz.prog v #[.agg cs0.toArray] w' (CH (fun h v=>v=.bool r) h' w')
theorem RG.mono {h h':Ae} {v:Value} {f:Cu→Option Bool} (H:RG h v f) (hle:Ae.le h h'):RG h' v f:=fun h2 w2 l=>H h2 w2 (Ae.le_trans hle l)
instance : Rep (Cu→Option Bool):=⟨1,fun h f cs=>∃ fn first cap,cs=[.func fn first cap]∧RG h (.func fn first cap) f,fun hle ⟨a,b,c,e,hr⟩=>⟨a,b,c,e,hr.mono hle⟩,fun⟨a,b,c,e,_⟩=>by subst e; rfl,fun⟨a,b,c,e,_⟩ v hv=>by subst e; simp at hv; subst hv; rfl⟩
def RH (h:Ae) (v:Value) (f:A6→Option Bool):Prop:=∀ (h':Ae)(w':World),Ae.le h h'→CG h' w'→∀ (x0:A6)(cs0:List Value)(_:rep h' x0 cs0)(r:Bool),f x0=some r→HU Tryz.prog v #[.agg cs0.toArray] w' (CH (fun h v=>v=.bool r) h' w')
theorem RH.mono {h h':Ae} {v:Value} {f:A6→Option Bool} (H:RH h v f) (hle:Ae.le h h'):RH h' v f:=fun h2 w2 l=>H h2 w2 (Ae.le_trans hle l)
instance : Rep (A6→Option Bool):=⟨1,fun h f cs=>∃ fn first cap,cs=[.func fn first cap]∧RH h (.func fn first cap) f,fun hle ⟨a,b,c,e,hr⟩=>⟨a,b,c,e,hr.mono hle⟩,fun⟨a,b,c,e,_⟩=>by subst e; rfl,fun⟨a,b,c,e,_⟩ v hv=>by subst e; simp at hv; subst hv; rfl⟩
def S6 (h:Ae) (v:Value) (f:Rg→Option Int):Prop:=∀ (h':Ae)(w':World),Ae.le h h'→CG h' w'→∀ (x0:Rg)(cs0:List Value)(_:rep h' x0 cs0)(r:Int),f x0=some r→HU Tryz.prog v #[.agg cs0.toArray] w' (CH (fun h v=>v=.int .i64 r) h' w')
theorem S6.mono {h h':Ae} {v:Value} {f:Rg→Option Int} (H:S6 h v f) (hle:Ae.le h h'):S6 h' v f:=fun h2 w2 l=>H h2 w2 (Ae.le_trans hle l)
instance : Rep (Rg→Option Int):=⟨1,fun h f cs=>∃ fn first cap,cs=[.func fn first cap]∧S6 h (.func fn first cap) f,fun hle ⟨a,b,c,e,hr⟩=>⟨a,b,c,e,hr.mono hle⟩,fun⟨a,b,c,e,_⟩=>by subst e; rfl,fun⟨a,b,c,e,_⟩ v hv=>by subst e; simp at hv; subst hv; rfl⟩
structure Pm where
  of_:Rg→Option Int
instance : Rep Pm:=Rep.via fun x=>(x.of_)
instance : VRep Pm:=VRep.agg Pm
structure Bo where
  a0:Int
  a1:Int
  a2:Int
  a3:Int
deriving DecidableEq,Inhabited
instance : Rep Bo:=Rep.via fun x=>(x.a0,x.a1,x.a2,x.a3)
instance : VRep Bo:=VRep.agg Bo
def Bo.toL (x:Bo):List Int:=[x.a0,x.a1,x.a2,x.a3]
def Bo.ofL:List Int→Option Bo
  | [a0,a1,a2,a3]=>some ⟨a0,a1,a2,a3⟩
  | _=>none
theorem Bo.ofL_some {l:List Int} {y:Bo} (h:Bo.ofL l=some y):y.toL=l:=by
  unfold Bo.ofL at h
  split at h
  · cases h; rfl
  · cases h
def Bo.setI (x:Bo) (i:Int) (v:Int):Option Bo:=(upd x.toL i v).bind Bo.ofL
theorem Bo.setI_some {x y:Bo} {i:Int} {v:Int} (h:x.setI i v=some y):0≤i∧i<4∧y.toL=x.toL.set i.toNat v:=by
  obtain⟨l,hl,h2⟩:=Ap h
  obtain⟨h0,h1,rfl⟩:=EB hl
  exact⟨h0,h1,Bo.ofL_some h2⟩
structure Bz where
  a0:Bool
  a1:Bool
deriving DecidableEq,Inhabited
instance : Rep Bz:=Rep.via fun x=>(x.a0,x.a1)
instance : VRep Bz:=VRep.agg Bz
def Bz.toL (x:Bz):List Bool:=[x.a0,x.a1]
def Bz.ofL:List Bool→Option Bz
  | [a0,a1]=>some ⟨a0,a1⟩
  | _=>none
theorem Bz.ofL_some {l:List Bool} {y:Bz} (h:Bz.ofL l=some y):y.toL=l:=by
  unfold Bz.ofL at h
  split at h
  · cases h; rfl
  · cases h
def Bz.setI (x:Bz) (i:Int) (v:Bool):Option Bz:=(upd x.toL i v).bind Bz.ofL
theorem Bz.setI_some {x y:Bz} {i:Int} {v:Bool} (h:x.setI i v=some y):0≤i∧i<2∧y.toL=x.toL.set i.toNat v:=by
  obtain⟨l,hl,h2⟩:=Ap h
  obtain⟨h0,h1,rfl⟩:=EB hl
  exact⟨h0,h1,Bz.ofL_some h2⟩
structure Au where
  holds:Bo
  turns:Bo
  spares:Bz
deriving DecidableEq,Inhabited
instance : Rep Au:=Rep.via fun x=>(x.holds,x.turns,x.spares)
instance : VRep Au:=VRep.agg Au
structure Oz where
  fr:Int
  long:Int
deriving DecidableEq,Inhabited
instance : Rep Oz:=Rep.via fun x=>(x.fr,x.long)
instance : VRep Oz:=VRep.agg Oz
def S7 (h:Ae) (v:Value) (f:Int→Option Bool):Prop:=∀ (h':Ae)(w':World),Ae.le h h'→CG h' w'→∀ (x0:Int)(r:Bool),f x0=some r→HU Tryz.prog v #[.int .i64 x0] w' (CH (fun h v=>v=.bool r) h' w')
theorem S7.mono {h h':Ae} {v:Value} {f:Int→Option Bool} (H:S7 h v f) (hle:Ae.le h h'):S7 h' v f:=fun h2 w2 l=>H h2 w2 (Ae.le_trans hle l)
instance : Rep (Int→Option Bool):=⟨1,fun h f cs=>∃ fn first cap,cs=[.func fn first cap]∧S7 h (.func fn first cap) f,fun hle ⟨a,b,c,e,hr⟩=>⟨a,b,c,e,hr.mono hle⟩,fun⟨a,b,c,e,_⟩=>by subst e; rfl,fun⟨a,b,c,e,_⟩ v hv=>by subst e; simp at hv; subst hv; rfl⟩
structure BV where
  number:Int
  sum:Int
deriving DecidableEq,Inhabited
instance : Rep BV:=Rep.via fun x=>(x.number,x.sum)
instance : VRep BV:=VRep.agg BV
def QP {σ:Type} (XS:σ→Fr→Ae→Prop) (B:Nat→Prop) (v:Value) (f:σ→Au→BV→Option σ):Prop:=∀ (s:σ)(F:Fr)(h:Ae)(w:World)(x0:Au)(cs0:List Value)(_:rep h x0 cs0)(x1:BV)(cs1:List Value)(_:rep h x1 cs1)(s':σ),XS s F h→Ah F h [] [] [] w→f s x0 x1=some s'→HU Tryz.prog v #[.agg cs0.toArray,.agg cs1.toArray] w (RQ XS B F h s')
instance : KRep Au:=⟨fun x=>.agg #[.int .i64 x.holds.a0,.int .i64 x.holds.a1,.int .i64 x.holds.a2,.int .i64 x.holds.a3,.int .i64 x.turns.a0,.int .i64 x.turns.a1,.int .i64 x.turns.a2,.int .i64 x.turns.a3,.bool x.spares.a0,.bool x.spares.a1],fun {a b} h=>by
  rcases a with⟨⟨a0,a1,a2,a3⟩,⟨a4,a5,a6,a7⟩,⟨a8,a9⟩⟩
  rcases b with⟨⟨b0,b1,b2,b3⟩,⟨b4,b5,b6,b7⟩,⟨b8,b9⟩⟩
  simp_all⟩
def EY (n:Nat) (n_:Int) (low:Int) (high:Int):Option Bool :=
  (bif decide (n_≥low) then
  some (decide (n_≤high))
  else
  some false)
def FO (n:Nat) (r_:Af):Option Int :=
  some (IntKind.i64.wrap (((r_.legs.length:Nat):Int)+1))
def FU (n:Nat) (r_:Af):Option Int :=
  some (IntKind.i64.wrap (Int.tdiv (IntKind.i64.wrap (((r_.legs.length:Nat):Int)+1)) 2))
def FV (n:Nat) (r_:Rg) (most:Int):Option Bool :=
  ((EY n r_.lo 0 r_.hi).bind fun x9 =>
  (bif x9 then
  some (decide (r_.hi≤most))
  else
  some false))
def HI (n:Nat) (r_:Rg):Option Rg :=
  some r_
def Df:Nat→Af→Int→Option (Ex Int Unit)
  | 0,_,_=>none
  | n+1,r_,x_v10 =>
    (bif decide (x_v10<((r_.legs.length:Nat):Int)) then
    ((Cq r_.legs x_v10).bind fun x68 =>
    ((FV n x68 300).bind fun x70 =>
    (bif (!x70) then
    some (Ex.ret 1)
    else
    Df n r_ (IntKind.i64.wrap (x_v10+1)))))
    else
    some (Ex.go ()))
def Dg:Nat→Af→Int→Option (Ex Int Unit)
  | 0,_,_=>none
  | n+1,r_,x_v20 =>
    (bif decide (x_v20<((r_.buses.length:Nat):Int)) then
    ((Cq r_.buses x_v20).bind fun x82 =>
    ((FO n r_).bind fun x86 =>
    ((EY n x82.stop 0 (IntKind.i64.wrap (x86-1))).bind fun x88 =>
    (bif (!x88) then
    some (Ex.ret 1)
    else
    ((Cq r_.buses x_v20).bind fun x94 =>
    ((FV n x94.tm 2000).bind fun x97 =>
    (bif (!x97) then
    some (Ex.ret 1)
    else
    Dg n r_ (IntKind.i64.wrap (x_v20+1)))))))))
    else
    some (Ex.go ()))
def Dh:Nat→Af→Int→Option (Ex Int Unit)
  | 0,_,_=>none
  | n+1,r_,x_v30 =>
    (bif decide (x_v30<((r_.spares.length:Nat):Int)) then
    ((Cq r_.spares x_v30).bind fun x110 =>
    ((FO n r_).bind fun x114 =>
    ((EY n x110.stop 0 (IntKind.i64.wrap (x114-1))).bind fun x116 =>
    (bif (!x116) then
    some (Ex.ret 1)
    else
    ((Cq r_.spares x_v30).bind fun x122 =>
    ((EY n x122.tm 0 2000).bind fun x125 =>
    (bif (!x125) then
    some (Ex.ret 1)
    else
    Dh n r_ (IntKind.i64.wrap (x_v30+1)))))))))
    else
    some (Ex.go ()))
def GE (n:Nat) (r_:Af):Option Int :=
  (((bif decide (((r_.buses.length:Nat):Int)>4) then
  some true
  else
  some (decide (((r_.spares.length:Nat):Int)>2))):Option Bool).bind fun o_17 =>
  (bif o_17 then
  some 3
  else
  (((bif ((Int.tmod ((r_.legs.length:Nat):Int) 2) == 0) then
  some true
  else
  (bif decide (((r_.legs.length:Nat):Int)>7) then
  some true
  else
  ((FV n r_.turn 300).bind fun x30 =>
  (bif (!x30) then
  some true
  else
  ((EY n r_.unit 1 30).bind fun x36 =>
  (bif (!x36) then
  some true
  else
  ((EY n r_.gap 0 2000).bind fun x42 =>
  (bif (!x42) then
  some true
  else
  ((EY n r_.fr 0 r_.to_).bind fun x50 =>
  (bif (!x50) then
  some true
  else
  some (decide (r_.to_>2000)))))))))))):Option Bool).bind fun o_36 =>
  (bif o_36 then
  some 1
  else
  ((Df n r_ 0).bind fun o_133=>Ex.bind o_133 (fun r=>some r) fun s_134 =>
  ((Dg n r_ 0).bind fun o_188=>Ex.bind o_188 (fun r=>some r) fun s_189 =>
  ((Dh n r_ 0).bind fun o_286=>Ex.bind o_286 (fun r=>some r) fun s_287 =>
  some 0)))))))
def J0 (n:Nat) (r_:Af):Option Bool :=
  (bif decide (((r_.legs.length:Nat):Int)≤10) then
  (bif decide (((r_.buses.length:Nat):Int)≤6) then
  some (decide (((r_.spares.length:Nat):Int)≤4))
  else
  some false)
  else
  some false)
def Fu:Nat→(List Int)→(List Int)→Int→Option (Ex Bool Unit)
  | 0,_,_,_=>none
  | n+1,a,b,x_v10 =>
    (bif decide (x_v10<((a.length:Nat):Int)) then
    ((Cq a x_v10).bind fun x19 =>
    ((Cq b x_v10).bind fun x23 =>
    (bif (x19 != x23) then
    some (Ex.ret false)
    else
    Fu n a b (IntKind.i64.wrap (x_v10+1)))))
    else
    some (Ex.go ()))
def HJ (n:Nat) (a:List Int) (b:List Int):Option Bool :=
  (bif (((a.length:Nat):Int) != ((b.length:Nat):Int)) then
  some false
  else
  ((Fu n a b 0).bind fun o_11=>Ex.bind o_11 (fun r=>some r) fun s_12 =>
  some true))
def E6 (n:Nat) (l:List Int):Option (List Int) :=
  ((I5 ([]:List Int) l).bind fun x4 =>
  some x4)
def Fv (n:Nat) (a:Av):Option Av :=
  ((E6 n a.holds).bind fun x5 =>
  ((E6 n a.turns).bind fun x8 =>
  ((I5 ([]:List Bool) a.spares).bind fun x11 =>
  some (Av.mk x5 x8 x11))))
def Fw:Nat→Av→Av→Int→Option (Ex Bool Unit)
  | 0,_,_,_=>none
  | n+1,a,b,x_v10 =>
    (bif decide (x_v10<((a.spares.length:Nat):Int)) then
    ((Cq a.spares x_v10).bind fun x39 =>
    ((Cq b.spares x_v10).bind fun x44 =>
    (bif (!(x39 == x44)) then
    some (Ex.ret false)
    else
    Fw n a b (IntKind.i64.wrap (x_v10+1)))))
    else
    some (Ex.go ()))
def LF (n:Nat) (a:Av) (b:Av):Option Bool :=
  ((((HJ n a.holds b.holds).bind fun x10 =>
  (bif (!x10) then
  some true
  else
  ((HJ n a.turns b.turns).bind fun x17 =>
  (bif (!x17) then
  some true
  else
  some (((a.spares.length:Nat):Int) != ((b.spares.length:Nat):Int)))))):Option Bool).bind fun o_31 =>
  (bif o_31 then
  some false
  else
  ((Fw n a b 0).bind fun o_80=>Ex.bind o_80 (fun r=>some r) fun s_81 =>
  some true)))
def Ce:Nat→Af→Av→Int→Option (Ex Bool Unit)
  | 0,_,_,_=>none
  | n+1,r_,a,x_v10 =>
    (bif decide (x_v10<((r_.buses.length:Nat):Int)) then
    ((Cq a.holds x_v10).bind fun x41 =>
    ((EY n x41 0 2).bind fun x43 =>
    (bif (!x43) then
    some (Ex.ret false)
    else
    ((Cq a.turns x_v10).bind fun x49 =>
    (bif (x49 != (-1)) then
    ((Cq a.turns x_v10).bind fun x56 =>
    ((Cq r_.buses x_v10).bind fun x61 =>
    ((FU n r_).bind fun x65 =>
    ((EY n x56 x61.stop (IntKind.i64.wrap (x65-2))).bind fun x67 =>
    (bif (!x67) then
    some (Ex.ret false)
    else
    Ce n r_ a (IntKind.i64.wrap (x_v10+1)))))))
    else
    Ce n r_ a (IntKind.i64.wrap (x_v10+1)))))))
    else
    some (Ex.go ()))
def Fx (n:Nat) (r_:Af) (a:Av):Option Bool :=
  (((bif (((a.holds.length:Nat):Int) != ((r_.buses.length:Nat):Int)) then
  some true
  else
  (bif (((a.turns.length:Nat):Int) != ((r_.buses.length:Nat):Int)) then
  some true
  else
  some (((a.spares.length:Nat):Int) != ((r_.spares.length:Nat):Int)))):Option Bool).bind fun o_31 =>
  (bif o_31 then
  some false
  else
  ((Ce n r_ a 0).bind fun o_60=>Ex.bind o_60 (fun r=>some r) fun s_61 =>
  some true)))
def HK (n:Nat)  : Option Af :=
  some (Af.mk ([Rg.mk 10 10,Rg.mk 5 15,Rg.mk 10 12]:List Rg) (Rg.mk 0 4) ([Cu.mk 0 (Rg.mk 0 0),Cu.mk 0 (Rg.mk 10 20)]:List Cu) ([A6.mk 2 40]:List A6) 5 37 0 50)
def LG (n:Nat)  : Option Av :=
  some (Av.mk ([0,0]:List Int) ([(-1),(-1)]:List Int) ([false]:List Bool))
def LH (n:Nat)  : Option Av :=
  some (Av.mk ([0,1]:List Int) ([(-1),(-1)]:List Int) ([false]:List Bool))
def Di:Nat→Af→(List Rg)→Int→Option (List Rg)
  | 0,_,_,_=>none
  | n+1,r_,x_v10,x_v11 =>
    (bif decide (x_v11<((r_.legs.length:Nat):Int)) then
    ((Cq r_.legs x_v11).bind fun x31 =>
    ((HI n x31).bind fun x33 =>
    ((I5 x_v10 ([x33]:List Rg)).bind fun x35 =>
    Di n r_ x35 (IntKind.i64.wrap (x_v11+1)))))
    else
    some x_v10)
def Dj:Nat→Af→(List Cu)→Int→Option (List Cu)
  | 0,_,_,_=>none
  | n+1,r_,x_v20,x_v21 =>
    (bif decide (x_v21<((r_.buses.length:Nat):Int)) then
    ((Cq r_.buses x_v21).bind fun x49 =>
    ((Cq r_.buses x_v21).bind fun x55 =>
    ((HI n x55.tm).bind fun x58 =>
    ((I5 x_v20 ([Cu.mk x49.stop x58]:List Cu)).bind fun x61 =>
    Dj n r_ x61 (IntKind.i64.wrap (x_v21+1))))))
    else
    some x_v20)
def Dk:Nat→Af→(List A6)→Int→Option (List A6)
  | 0,_,_,_=>none
  | n+1,r_,x_v30,x_v31 =>
    (bif decide (x_v31<((r_.spares.length:Nat):Int)) then
    ((Cq r_.spares x_v31).bind fun x75 =>
    ((Cq r_.spares x_v31).bind fun x81 =>
    ((I5 x_v30 ([A6.mk x75.stop x81.tm]:List A6)).bind fun x86 =>
    Dk n r_ x86 (IntKind.i64.wrap (x_v31+1)))))
    else
    some x_v30)
def Er (n:Nat) (r_:Af):Option Af :=
  ((HI n r_.turn).bind fun x9 =>
  ((Di n r_ ([]:List Rg) 0).bind fun o_50 =>
  ((Dj n r_ ([]:List Cu) 0).bind fun o_133 =>
  ((Dk n r_ ([]:List A6) 0).bind fun o_232 =>
  some (Af.mk o_50 x9 o_133 o_232 r_.unit r_.gap r_.fr r_.to_)))))
def Dm:Nat→Aw→(List (List Int))→Int→Option (List (List Int))
  | 0,_,_,_=>none
  | n+1,t_,x_v10,x_v11 =>
    (bif decide (x_v11<((t_.legs.length:Nat):Int)) then
    ((Cq t_.legs x_v11).bind fun x24 =>
    ((E6 n x24).bind fun x26 =>
    ((I5 x_v10 ([x26]:List (List Int))).bind fun x28 =>
    Dm n t_ x28 (IntKind.i64.wrap (x_v11+1)))))
    else
    some x_v10)
def EZ (n:Nat) (t_:Aw):Option Aw :=
  ((E6 n t_.tm).bind fun x7 =>
  ((E6 n t_.turns).bind fun x10 =>
  ((Dm n t_ ([]:List (List Int)) 0).bind fun o_56 =>
  some (Aw.mk x7 x10 o_56))))
def DR:Nat→Aw→Int→Option (Ex Bool Unit)
  | 0,_,_=>none
  | n+1,t_,x_v10 =>
    (((bif decide (x_v10<((t_.legs.length:Nat):Int)) then
    some (decide (x_v10<9))
    else
    some false):Option Bool).bind fun o_48 =>
    (bif o_48 then
    ((Cq t_.legs x_v10).bind fun x20 =>
    (bif decide (((x20.length:Nat):Int)>10) then
    some (Ex.ret false)
    else
    DR n t_ (IntKind.i64.wrap (x_v10+1))))
    else
    some (Ex.go ())))
def Iw (n:Nat) (a:Av) (t_:Aw):Option Bool :=
  ((DR n t_ 0).bind fun o_34=>Ex.bind o_34 (fun r=>some r) fun s_35 =>
  (bif decide (((a.holds.length:Nat):Int)≤8) then
  (bif decide (((a.turns.length:Nat):Int)≤8) then
  (bif decide (((a.spares.length:Nat):Int)≤8) then
  (bif decide (((t_.tm.length:Nat):Int)≤8) then
  (bif decide (((t_.turns.length:Nat):Int)≤8) then
  some (decide (((t_.legs.length:Nat):Int)≤8))
  else
  some false)
  else
  some false)
  else
  some false)
  else
  some false)
  else
  some false))
def Ix (n:Nat) (r_:Af) (a:Av):Option Int :=
  ((GE n r_).bind fun x7 =>
  (bif (x7 != 0) then
  some x7
  else
  ((Fx n r_ a).bind fun x13 =>
  (bif (!x13) then
  some 2
  else
  some 0))))
def GF (n:Nat) (r_:Af) (a:Av):Option Bool :=
  ((J0 n r_).bind fun x6 =>
  (bif x6 then
  ((Iw n a (Aw.mk ([]:List Int) ([]:List Int) ([]:List (List Int)))).bind fun x10 =>
  (bif x10 then
  ((Ix n r_ a).bind fun x15 =>
  some (x15 == 0))
  else
  some false))
  else
  some false))
def FW (n:Nat) (r_:Rg) (words:List (IK .u16)) (at_:Int):Option Int :=
  (bif (((words.length:Nat):Int) == 0) then
  some r_.hi
  else
  ((nz ((words.length:Nat):Int)).bind fun x17 =>
  ((Cq words (Int.tmod at_ ((words.length:Nat):Int))).bind fun x18 =>
  (bif ((Int.tmod (IntKind.i64.wrap x18.n) 4) == 0) then
  some r_.lo
  else
  (bif ((Int.tmod (IntKind.i64.wrap x18.n) 4) == 1) then
  some r_.hi
  else
  ((nz (IntKind.i64.wrap ((IntKind.i64.wrap (r_.hi-r_.lo))+1))).bind fun x40 =>
  some (IntKind.i64.wrap (r_.lo+(Int.tmod (IntKind.i64.wrap x18.n) (IntKind.i64.wrap ((IntKind.i64.wrap (r_.hi-r_.lo))+1)))))))))))
def CL:Nat→Af→(List (IK .u16))→Int→(List Int)→Int→Option (List Int)
  | 0,_,_,_,_,_=>none
  | n+1,r_,words,x_v13,x_v20,x_v21 =>
    (bif decide (x_v21<((r_.legs.length:Nat):Int)) then
    ((Cq r_.legs x_v21).bind fun x31 =>
    ((FW n x31 words (IntKind.i64.wrap ((IntKind.i64.wrap (9*x_v13))+x_v21))).bind fun x38 =>
    ((I5 x_v20 ([x38]:List Int)).bind fun x40 =>
    CL n r_ words x_v13 x40 (IntKind.i64.wrap (x_v21+1)))))
    else
    some x_v20)
def Ct:Nat→Af→(List (IK .u16))→(List Int)→(List Int)→(List (List Int))→Int→Option ((List Int)×(List Int)×(List (List Int)))
  | 0,_,_,_,_,_,_=>none
  | n+1,r_,words,x_v10,x_v11,x_v12,x_v13 =>
    (bif decide (x_v13<(IntKind.i64.wrap (((r_.buses.length:Nat):Int)+((r_.spares.length:Nat):Int)))) then
    ((CL n r_ words x_v13 ([]:List Int) 0).bind fun o_90 =>
    ((I5 x_v12 ([o_90]:List (List Int))).bind fun x45 =>
    (bif decide (x_v13<((r_.buses.length:Nat):Int)) then
    ((Cq r_.buses x_v13).bind fun x57 =>
    ((FW n x57.tm words (IntKind.i64.wrap ((IntKind.i64.wrap (9*x_v13))+7))).bind fun x64 =>
    ((I5 x_v10 ([x64]:List Int)).bind fun x66 =>
    ((FW n r_.turn words (IntKind.i64.wrap ((IntKind.i64.wrap (9*x_v13))+8))).bind fun x75 =>
    ((I5 x_v11 ([x75]:List Int)).bind fun x77 =>
    Ct n r_ words x66 x77 x45 (IntKind.i64.wrap (x_v13+1)))))))
    else
    Ct n r_ words x_v10 x_v11 x45 (IntKind.i64.wrap (x_v13+1)))))
    else
    some (x_v10,x_v11,x_v12))
def FX (n:Nat) (r_:Af) (words:List (IK .u16)):Option Aw :=
  ((Ct n r_ words ([]:List Int) ([]:List Int) ([]:List (List Int)) 0).bind fun o_59 =>
  some (Aw.mk o_59.1 o_59.2.1 o_59.2.2))
def AW (n:Nat) (n_:Int) (low:Int) (high:Int):Option Bool :=
  (bif decide (low≤n_) then
  some (decide (n_≤high))
  else
  some false)
def Cf (n:Nat) (n_:Int):Option Bool :=
  ((AW n n_ 0 2000).bind fun x4 =>
  some x4)
def AU (n:Nat) (r_:Af):Option Int :=
  some (IntKind.i64.wrap (((r_.legs.length:Nat):Int)+1))
def B0 (n:Nat) (r_:Af):Option Int :=
  ((AU n r_).bind fun x4 =>
  some (IntKind.i64.wrap (Int.tdiv x4 2)))
def BH (n:Nat) (r_:Af) (n_:Int):Option Bool :=
  ((AU n r_).bind fun x7 =>
  ((AW n n_ 0 (IntKind.i64.wrap (x7-1))).bind fun x9 =>
  some x9))
def BX (n:Nat) (r_:Rg) (most:Int):Option Bool :=
  (bif decide (0≤r_.lo) then
  (bif decide (r_.lo≤r_.hi) then
  some (decide (r_.hi≤most))
  else
  some false)
  else
  some false)
def Bp (n:Nat) (r_:Rg):Option Bool :=
  ((BX n r_ 300).bind fun x4 =>
  some x4)
def BM (n:Nat) (r_:Rg) (n_:Int):Option Bool :=
  ((AW n n_ r_.lo r_.hi).bind fun x10 =>
  some x10)
def BN (n:Nat) (r_:Rg):Option Int :=
  some r_.lo
def BI (n:Nat) (r_:Rg):Option Int :=
  some r_.hi
def A1 (n:Nat) (r_:Af) (n_:Int):Option Bool :=
  ((AW n n_ r_.fr r_.to_).bind fun x10 =>
  some x10)
def BU (n:Nat) (r_:Af) (b:Cu) (at_:Int):Option Bool :=
  (bif (at_ == (-1)) then
  some true
  else
  ((B0 n r_).bind fun x14 =>
  ((AW n at_ b.stop (IntKind.i64.wrap (x14-2))).bind fun x16 =>
  some x16)))
def Bi:Nat→Af→Aw→Int→Option (Ex Bool Unit)
  | 0,_,_,_=>none
  | n+1,r_,t_,x_v10 =>
    (bif decide (x_v10<((r_.buses.length:Nat):Int)) then
    ((Cq r_.buses x_v10).bind fun x46 =>
    ((Cq t_.tm x_v10).bind fun x53 =>
    ((BM n x46.tm x53).bind fun x55 =>
    (bif (!x55) then
    some (Ex.ret false)
    else
    ((Cq t_.turns x_v10).bind fun x63 =>
    ((BM n r_.turn x63).bind fun x65 =>
    (bif (!x65) then
    some (Ex.ret false)
    else
    Bi n r_ t_ (IntKind.i64.wrap (x_v10+1)))))))))
    else
    some (Ex.go ()))
def Bj:Nat→Af→(List Int)→Int→Option (Ex Bool Unit)
  | 0,_,_,_=>none
  | n+1,r_,x74,x_v30 =>
    (bif decide (x_v30<((x74.length:Nat):Int)) then
    ((Cq x74 x_v30).bind fun x87 =>
    ((Cq r_.legs x_v30).bind fun x92 =>
    ((BM n x92 x87).bind fun x95 =>
    (bif (!x95) then
    some (Ex.ret false)
    else
    Bj n r_ x74 (IntKind.i64.wrap (x_v30+1))))))
    else
    some (Ex.go ()))
def Bk:Nat→Af→Aw→Int→Option (Ex Bool Unit)
  | 0,_,_,_=>none
  | n+1,r_,t_,x_v20 =>
    (bif decide (x_v20<((t_.legs.length:Nat):Int)) then
    ((Cq t_.legs x_v20).bind fun x74 =>
    (bif (((x74.length:Nat):Int) != ((r_.legs.length:Nat):Int)) then
    some (Ex.ret false)
    else
    ((Bj n r_ x74 0).bind fun o_217=>Ex.bind o_217 (fun r=>some (Ex.ret r)) fun s_218 =>
    Bk n r_ t_ (IntKind.i64.wrap (x_v20+1)))))
    else
    some (Ex.go ()))
def Cn (n:Nat) (r_:Af) (t_:Aw):Option Bool :=
  (((bif (((t_.tm.length:Nat):Int) != ((r_.buses.length:Nat):Int)) then
  some true
  else
  (bif (((t_.turns.length:Nat):Int) != ((r_.buses.length:Nat):Int)) then
  some true
  else
  some (((t_.legs.length:Nat):Int) != (IntKind.i64.wrap (((r_.buses.length:Nat):Int)+((r_.spares.length:Nat):Int)))))):Option Bool).bind fun o_31 =>
  (bif o_31 then
  some false
  else
  ((Bi n r_ t_ 0).bind fun o_60=>Ex.bind o_60 (fun r=>some r) fun s_61 =>
  ((Bk n r_ t_ 0).bind fun o_175=>Ex.bind o_175 (fun r=>some r) fun s_176 =>
  some true))))
def AX:Nat→AE→Aw→(List AR)→(List Ay)→Int→Option ((List AR)×(List Ay))
  | 0,_,_,_,_,_=>none
  | n+1,w_,t_,x_v10,x_v11,x_v12 =>
    (bif decide (x_v12<((w_.route.buses.length:Nat):Int)) then
    ((Cq w_.route.buses x_v12).bind fun x17 =>
    ((Cq t_.tm x_v12).bind fun x25 =>
    ((Cq w_.acts.holds x_v12).bind fun x31 =>
    ((Cq w_.acts.turns x_v12).bind fun x42 =>
    ((I5 x_v10 ([AR.mk x17.stop (IntKind.i64.wrap (x25+(IntKind.i64.wrap (x31*w_.route.unit)))) x42]:List AR)).bind fun x46 =>
    ((Cq t_.legs x_v12).bind fun x51 =>
    ((Cq t_.turns x_v12).bind fun x56 =>
    ((I5 x_v11 ([Ay.mk x51 x56]:List Ay)).bind fun x60 =>
    AX n w_ t_ x46 x60 (IntKind.i64.wrap (x_v12+1))))))))))
    else
    some (x_v10,x_v11))
def AN:Nat→AE→Aw→(List AR)→(List Ay)→Int→Option ((List AR)×(List Ay))
  | 0,_,_,_,_,_=>none
  | n+1,w_,t_,x_v20,x_v21,x_v22 =>
    (bif decide (x_v22<((w_.route.spares.length:Nat):Int)) then
    ((Cq w_.route.spares x_v22).bind fun x69 =>
    ((Cq w_.acts.spares x_v22).bind fun x75 =>
    (bif x75 then
    ((I5 x_v20 ([AR.mk x69.stop x69.tm (-1)]:List AR)).bind fun x84 =>
    ((Cq t_.legs (IntKind.i64.wrap (((w_.route.buses.length:Nat):Int)+x_v22))).bind fun x94 =>
    ((I5 x_v21 ([Ay.mk x94 0]:List Ay)).bind fun x98 =>
    AN n w_ t_ x84 x98 (IntKind.i64.wrap (x_v22+1)))))
    else
    AN n w_ t_ x_v20 x_v21 (IntKind.i64.wrap (x_v22+1)))))
    else
    some (x_v20,x_v21))
def B1 (n:Nat) (w_:AE) (t_:Aw):Option ((List AR)×(List Ay)) :=
  ((AX n w_ t_ ([]:List AR) ([]:List Ay) 0).bind fun o_63 =>
  ((AN n w_ t_ o_63.1 o_63.2 0).bind fun o_248 =>
  some (o_248.1,o_248.2)))
def Bq (n:Nat) (b:Cu) (q0:Af):Option Bool :=
  ((BH n q0 b.stop).bind fun x7 =>
  (bif x7 then
  ((BX n b.tm 2000).bind fun x11 =>
  some x11)
  else
  some false))
def Br (n:Nat) (s:A6) (q0:Af):Option Bool :=
  ((BH n q0 s.stop).bind fun x7 =>
  (bif x7 then
  ((Cf n s.tm).bind fun x11 =>
  some x11)
  else
  some false))
def An:Nat→(List Rg)→(Rg→Option Bool)→Int→Option (Ex Int Unit)
  | 0,_,_,_=>none
  | n+1,s,f,x_v10 =>
    (bif decide (x_v10<((s.length:Nat):Int)) then
    ((Cq s x_v10).bind fun x14 =>
    ((f x14).bind fun x16 =>
    (bif x16 then
    some (Ex.ret x_v10)
    else
    An n s f (IntKind.i64.wrap (x_v10+1)))))
    else
    some (Ex.go ()))
def A8 (n:Nat) (s:List Rg) (f:Rg→Option Bool):Option Int :=
  ((An n s f 0).bind fun o_6=>Ex.bind o_6 (fun r=>some r) fun s_7 =>
  some (-1))
def Ar:Nat→(List Cu)→(Cu→Option Bool)→Int→Option (Ex Int Unit)
  | 0,_,_,_=>none
  | n+1,s,f,x_v10 =>
    (bif decide (x_v10<((s.length:Nat):Int)) then
    ((Cq s x_v10).bind fun x14 =>
    ((f x14).bind fun x16 =>
    (bif x16 then
    some (Ex.ret x_v10)
    else
    Ar n s f (IntKind.i64.wrap (x_v10+1)))))
    else
    some (Ex.go ()))
def AM (n:Nat) (s:List Cu) (f:Cu→Option Bool):Option Int :=
  ((Ar n s f 0).bind fun o_6=>Ex.bind o_6 (fun r=>some r) fun s_7 =>
  some (-1))
def Ao:Nat→(List A6)→(A6→Option Bool)→Int→Option (Ex Int Unit)
  | 0,_,_,_=>none
  | n+1,s,f,x_v10 =>
    (bif decide (x_v10<((s.length:Nat):Int)) then
    ((Cq s x_v10).bind fun x14 =>
    ((f x14).bind fun x16 =>
    (bif x16 then
    some (Ex.ret x_v10)
    else
    Ao n s f (IntKind.i64.wrap (x_v10+1)))))
    else
    some (Ex.go ()))
def A9 (n:Nat) (s:List A6) (f:A6→Option Bool):Option Int :=
  ((Ao n s f 0).bind fun o_6=>Ex.bind o_6 (fun r=>some r) fun s_7 =>
  some (-1))
def A3 (n:Nat) (s:List Rg) (f:Rg→Option Bool):Option Bool :=
  ((A8 n s f).bind fun x7 =>
  some (decide (x7≥0)))
def AD (n:Nat) (s:List Cu) (f:Cu→Option Bool):Option Bool :=
  ((AM n s f).bind fun x7 =>
  some (decide (x7≥0)))
def A4 (n:Nat) (s:List A6) (f:A6→Option Bool):Option Bool :=
  ((A9 n s f).bind fun x7 =>
  some (decide (x7≥0)))
def AF (n:Nat) (x:Rg) (q0:Rg→Option Bool):Option Bool :=
  ((q0 x).bind fun x6 =>
  some (!x6))
def AP (n:Nat) (x:Cu) (q0:Cu→Option Bool):Option Bool :=
  ((q0 x).bind fun x6 =>
  some (!x6))
def AG (n:Nat) (x:A6) (q0:A6→Option Bool):Option Bool :=
  ((q0 x).bind fun x6 =>
  some (!x6))
def B5 (n:Nat) (l:List Rg) (right:Rg→Option Bool):Option Bool :=
  ((A3 n l (fun(y0:Rg)=>AF n y0 right)).bind fun x7 =>
  some (!x7))
def BJ (n:Nat) (l:List Cu) (right:Cu→Option Bool):Option Bool :=
  ((AD n l (fun(y0:Cu)=>AP n y0 right)).bind fun x7 =>
  some (!x7))
def B6 (n:Nat) (l:List A6) (right:A6→Option Bool):Option Bool :=
  ((A4 n l (fun(y0:A6)=>AG n y0 right)).bind fun x7 =>
  some (!x7))
def B8 (n:Nat) (r_:Af):Option Int :=
  (((bif decide (((r_.buses.length:Nat):Int)>4) then
  some true
  else
  some (decide (((r_.spares.length:Nat):Int)>2))):Option Bool).bind fun o_31 =>
  (bif o_31 then
  some 3
  else
  (((bif ((Int.tmod ((r_.legs.length:Nat):Int) 2) == 0) then
  some true
  else
  ((B0 n r_).bind fun x26 =>
  (bif decide (x26>4) then
  some true
  else
  ((B5 n r_.legs (fun(y0:Rg)=>Bp n y0)).bind fun x32 =>
  (bif (!x32) then
  some true
  else
  ((Bp n r_.turn).bind fun x38 =>
  (bif (!x38) then
  some true
  else
  ((BJ n r_.buses (fun(y0:Cu)=>Bq n y0 r_)).bind fun x45 =>
  (bif (!x45) then
  some true
  else
  ((B6 n r_.spares (fun(y0:A6)=>Br n y0 r_)).bind fun x52 =>
  some (!x52))))))))))):Option Bool).bind fun o_50 =>
  (bif o_50 then
  some 1
  else
  ((AW n r_.unit 1 30).bind fun x58 =>
  (bif (!x58) then
  some 1
  else
  ((Cf n r_.gap).bind fun x63 =>
  (bif (!x63) then
  some 1
  else
  ((Cf n r_.fr).bind fun x69 =>
  (bif (!x69) then
  some 1
  else
  ((Cf n r_.to_).bind fun x75 =>
  (bif (!x75) then
  some 1
  else
  (bif decide (r_.fr>r_.to_) then
  some 1
  else
  some 0)))))))))))))
def Bs:Nat→Af→Av→Int→Option (Ex Int Unit)
  | 0,_,_,_=>none
  | n+1,r_,a,x_v10 =>
    (bif decide (x_v10<((r_.buses.length:Nat):Int)) then
    ((Cq r_.buses x_v10).bind fun x44 =>
    ((Cq a.holds x_v10).bind fun x49 =>
    ((AW n x49 0 2).bind fun x51 =>
    (bif (!x51) then
    some (Ex.ret 2)
    else
    ((Cq a.turns x_v10).bind fun x59 =>
    ((BU n r_ x44 x59).bind fun x61 =>
    (bif (!x61) then
    some (Ex.ret 2)
    else
    Bs n r_ a (IntKind.i64.wrap (x_v10+1)))))))))
    else
    some (Ex.go ()))
def BY (n:Nat) (r_:Af) (a:Av):Option Int :=
  ((B8 n r_).bind fun x9 =>
  (bif (x9 != 0) then
  some x9
  else
  (((bif (((a.holds.length:Nat):Int) != ((r_.buses.length:Nat):Int)) then
  some true
  else
  (bif (((a.turns.length:Nat):Int) != ((r_.buses.length:Nat):Int)) then
  some true
  else
  some (((a.spares.length:Nat):Int) != ((r_.spares.length:Nat):Int)))):Option Bool).bind fun o_48 =>
  (bif o_48 then
  some 2
  else
  ((Bs n r_ a 0).bind fun o_77=>Ex.bind o_77 (fun r=>some r) fun s_78 =>
  some 0)))))
def Bg (n:Nat) (s:List Int):Option (List Int) :=
  ((I5 ([]:List Int) s).bind fun x7 =>
  some x7)
def Dn (n:Nat) (s:List Bool):Option (List Bool) :=
  ((I5 ([]:List Bool) s).bind fun x7 =>
  some x7)
def Bt:Nat→(List Int)→Int→Int→Option Int
  | 0,_,_,_=>none
  | n+1,x,x_v10,x_v11 =>
    (bif decide (x_v10<((x.length:Nat):Int)) then
    ((Cq x x_v10).bind fun x21 =>
    Bt n x (IntKind.i64.wrap (x_v10+1)) (if x21>x_v11 then x21 else x_v11))
    else
    some x_v11)
def Dp (n:Nat) (x:List Int):Option Int :=
  (bif decide (((x.length:Nat):Int)<1) then
  none
  else
  ((Cq x 0).bind fun x10 =>
  ((Bt n x 1 x10).bind fun o_25 =>
  some o_25)))
def BA:Nat→(List Int)→Int→Int→Option Int
  | 0,_,_,_=>none
  | n+1,x,x_v10,x_v11 =>
    (bif decide (x_v10<((x.length:Nat):Int)) then
    ((Cq x x_v10).bind fun x21 =>
    BA n x (IntKind.i64.wrap (x_v10+1)) (if x21<x_v11 then x21 else x_v11))
    else
    some x_v11)
def Dq (n:Nat) (x:List Int):Option Int :=
  (bif decide (((x.length:Nat):Int)<1) then
  none
  else
  ((Cq x 0).bind fun x10 =>
  ((BA n x 1 x10).bind fun o_25 =>
  some o_25)))
def CW (n:Nat) (l:List Int):Option Int :=
  ((Dp n l).bind fun x4 =>
  some x4)
def BZ (n:Nat) (l:List Int):Option Int :=
  ((Dq n l).bind fun x4 =>
  some x4)
def Cv:Nat→(List Int)→(List Int)→Int→Int→Option Int
  | 0,_,_,_,_=>none
  | n+1,marks,x6,x_v10,x_v11 =>
    (bif decide (x_v10<((x6.length:Nat):Int)) then
    ((Cq x6 x_v10).bind fun x11 =>
    ((Cq marks x_v10).bind fun x17 =>
    ((CW n ([x_v11,IntKind.i64.wrap (x11-x17)]:List Int)).bind fun x21 =>
    Cv n marks x6 (IntKind.i64.wrap (x_v10+1)) x21)))
    else
    some x_v11)
def Fy (n:Nat) (marks:List Int):Option Int :=
  ((sub marks 1).bind fun x6 =>
  ((Cv n marks x6 0 0).bind fun o_15 =>
  some o_15))
def Bu:Nat→Af→Pm→(List Int)→Int→Option (List Int)
  | 0,_,_,_,_=>none
  | n+1,r_,e,x_v10,x_v11 =>
    (bif decide (x_v11<((r_.legs.length:Nat):Int)) then
    ((Cq r_.legs x_v11).bind fun x15 =>
    ((e.of_ x15).bind fun x21 =>
    ((I5 x_v10 ([x21]:List Int)).bind fun x23 =>
    Bu n r_ e x23 (IntKind.i64.wrap (x_v11+1)))))
    else
    some x_v10)
def Bv:Nat→Af→Pm→(List Int)→(List Int)→(List Int)→(List (List Int))→Int→Option ((List Int)×(List Int)×(List Int)×(List (List Int)))
  | 0,_,_,_,_,_,_,_=>none
  | n+1,r_,e,x_v20,x_v21,x_v22,x_v23,x_v24 =>
    (bif decide (x_v24<((r_.buses.length:Nat):Int)) then
    ((Cq r_.buses x_v24).bind fun x30 =>
    ((e.of_ x30.tm).bind fun x38 =>
    ((I5 x_v21 ([x38]:List Int)).bind fun x40 =>
    ((e.of_ r_.turn).bind fun x47 =>
    ((I5 x_v22 ([x47]:List Int)).bind fun x49 =>
    ((Bg n x_v20).bind fun x53 =>
    ((I5 x_v23 ([x53]:List (List Int))).bind fun x55 =>
    Bv n r_ e x_v20 x40 x49 x55 (IntKind.i64.wrap (x_v24+1)))))))))
    else
    some (x_v20,x_v21,x_v22,x_v23))
def Bw:Nat→Af→(List Int)→(List (List Int))→Int→Option ((List Int)×(List (List Int)))
  | 0,_,_,_,_=>none
  | n+1,r_,x_v30,x_v31,x_v32 =>
    (bif decide (x_v32<((r_.spares.length:Nat):Int)) then
    ((Bg n x_v30).bind fun x68 =>
    ((I5 x_v31 ([x68]:List (List Int))).bind fun x70 =>
    Bw n r_ x_v30 x70 (IntKind.i64.wrap (x_v32+1))))
    else
    some (x_v30,x_v31))
def Ca (n:Nat) (r_:Af) (e:Pm):Option Aw :=
  ((Bu n r_ e ([]:List Int) 0).bind fun o_45 =>
  ((Bv n r_ e o_45 ([]:List Int) ([]:List Int) ([]:List (List Int)) 0).bind fun o_163 =>
  ((Bw n r_ o_163.1 o_163.2.2.2 0).bind fun o_561 =>
  some (Aw.mk o_163.2.1 o_163.2.2.1 o_561.2))))
def AC {σ:Type}:Nat→(σ→Int→Int→Option (σ×Bool))→AR→Af→Ay→Int→Int→σ→Option (Ex σ σ)
  | 0,_,_,_,_,_,_,_=>none
  | n+1,yield_,q0,q1,q2,x_v10,x_v11,x_v12 =>
    ((((BH n q1 x_v11).bind fun x13 =>
    (bif x13 then
    ((yield_ x_v12 x_v11 x_v10).bind fun x18 =>
    some (x18.2,x18.1))
    else
    some (false,x_v12))):Option (Bool×σ)).bind fun o_36 =>
    (bif o_36.1 then
    (bif (x_v11 == q0.turned) then
    ((AU n q1).bind fun x26 =>
    AC n yield_ q0 q1 q2 (IntKind.i64.wrap (x_v10+q2.turn)) (IntKind.i64.wrap ((IntKind.i64.wrap (x26-1))-x_v11)) o_36.2)
    else
    (bif decide (x_v11<((q2.legs.length:Nat):Int)) then
    ((Cq q2.legs x_v11).bind fun x44 =>
    AC n yield_ q0 q1 q2 (IntKind.i64.wrap (x_v10+x44)) (IntKind.i64.wrap (x_v11+1)) o_36.2)
    else
    some (Ex.ret o_36.2)))
    else
    some (Ex.go o_36.2)))
def AH {σ:Type} (n:Nat) (yield_:σ→Int→Int→Option (σ×Bool)) (s:σ) (q0:AR) (q1:Af) (q2:Ay):Option σ :=
  ((AC n yield_ q0 q1 q2 q0.tm q0.stop s).bind fun o_22=>Ex.bind o_22 (fun r=>some r) fun s_23 =>
  some s_23)
def Cw (n:Nat) (d:Au) (r_:Af):Option Av :=
  ((OA ([d.holds.a0,d.holds.a1,d.holds.a2,d.holds.a3]:List Int) ((r_.buses.length:Nat):Int)).bind fun x9 =>
  ((OA ([d.turns.a0,d.turns.a1,d.turns.a2,d.turns.a3]:List Int) ((r_.buses.length:Nat):Int)).bind fun x15 =>
  ((OA ([d.spares.a0,d.spares.a1]:List Bool) ((r_.spares.length:Nat):Int)).bind fun x21 =>
  ((Bg n x9).bind fun x10 =>
  ((Bg n x15).bind fun x16 =>
  ((Dn n x21).bind fun x22 =>
  some (Av.mk x10 x16 x22)))))))
def B2 (n:Nat) (r_:Af) (x:AR) (t_:Ay):Option (AR×Af×Ay) :=
  some (x,r_,t_)
def AI:Nat→Af→(List Int)→(List (Int×Rg))→(((List Int)×(List (Int×Rg)))→Prop)→Prop
  | 0,_,_,_,_=>False
  | n+1,r_,x_v10,x_v11,K =>
    ((x_v11=[] →
    K (x_v10,x_v11))∧(∀ k_79 x_80 rem_82,List.Perm x_v11 ((k_79,x_80)::rem_82) →
    (∃ x29,((fun(y0:Int)=>A1 n r_ y0) x_80.lo)=some x29 ∧
    (bif x29 then
    (∃ x34,(I5 x_v10 ([x_80.lo]:List Int))=some x34 ∧
    AI n r_ x34 rem_82 K)
    else
    AI n r_ x_v10 rem_82 K))))
def AJ:Nat→Int→Int→(List (Int×Rg))→((Int×(List (Int×Rg)))→Prop)→Prop
  | 0,_,_,_,_=>False
  | n+1,x42,x_v30,x_v31,K =>
    ((x_v31=[] →
    K (x_v30,x_v31))∧(∀ k_242 x_243 rem_245,List.Perm x_v31 ((k_242,x_243)::rem_245) →
    (bif decide (x_243.lo>x42) then
    (∃ x60,(BZ n ([x_v30,x_243.hi]:List Int))=some x60 ∧
    AJ n x42 x60 rem_245 K)
    else
    AJ n x42 x_v30 rem_245 K)))
def AK:Nat→Af→(E0 Int Rg)→((List Int)×(List (Int×Rg)))→(List Int)→Int→Int→Int→(((List Int)×Int×Int)→Prop)→Prop
  | 0,_,_,_,_,_,_,_,_=>False
  | n+1,r_,spans,s_59,x_v20,x_v21,x_v22,x_v23,K =>
    (bif decide (x_v21<((s_59.1.length:Nat):Int)) then
    (∃ x42,(Cq x_v20 x_v21)=some x42 ∧
    (AJ n x42 r_.to_ spans.l (fun s_222 =>
    (bif decide ((IntKind.i64.wrap (s_222.1-x42))>x_v23) then
    AK n r_ spans s_59 x_v20 (IntKind.i64.wrap (x_v21+1)) x42 (IntKind.i64.wrap (s_222.1-x42)) K
    else
    AK n r_ spans s_59 x_v20 (IntKind.i64.wrap (x_v21+1)) x_v22 x_v23 K))))
    else
    K (x_v20,x_v22,x_v23))
def DZ (n:Nat) (r_:Af) (spans:E0 Int Rg) (Q:Oz→Prop):Prop :=
  (AI n r_ ([r_.fr]:List Int) spans.l (fun s_59 =>
  (AK n r_ spans s_59 s_59.1 0 r_.fr 0 (fun s_170 =>
  Q (Oz.mk s_170.2.1 s_170.2.2)))))
def Ax (m to_:Int) (l:List (Int×Rg)):Int:=l.foldl (fun e p=>if p.2.lo>m then min e p.2.hi else e) to_
def DF (r:Af) (l:List (Int×Rg)):List Int:=r.fr::(l.filter fun p=>decide (r.fr≤p.2.lo) && decide (p.2.lo≤r.to_)).map fun p=>p.2.lo
def B3 (n:Nat) (r_:Af) (spans:E0 Int Rg):Option Int :=
  if 2*spans.l.length+20≤n∧spans.l.length<1000000 then some ((DF r_ spans.l).foldl (fun b m=>max b (IntKind.i64.wrap (Ax m r_.to_ spans.l-m))) 0) else none
def AY:Nat→(List (Option (List (Int×Rg))))→(List (Option (List (Int×Rg))))→Int→Option (List (Option (List (Int×Rg))))
  | 0,_,_,_=>none
  | n+1,x18,x_v10,x_v11 =>
    (bif decide (x_v11<((x18.length:Nat):Int)) then
    ((Cq x_v10 x_v11).bind fun x27 =>
    ((upd x_v10 x_v11 (some ([]:List (Int×Rg)))).bind fun u_114 =>
    AY n x18 u_114 (IntKind.i64.wrap (x_v11+1))))
    else
    some x_v10)
def AZ:Nat→AE→((List AR)×(List Ay))→((List AR)×(List Ay))→(List (Option (List (Int×Rg))))→Int→Option (List (Option (List (Int×Rg))))
  | 0,_,_,_,_,_=>none
  | n+1,w_,x35,x44,x_v20,x_v21 =>
    (bif decide (x_v21<((x35.1.length:Nat):Int)) then
    ((Cq x35.1 x_v21).bind fun x52 =>
    ((Cq x35.2 x_v21).bind fun x59 =>
    ((B2 n w_.route x52 x59).bind fun x61 =>
    ((AH n (fun(s:List (Option (List (Int×Rg))))(x62:Int)(x63:Int)=>((((Cq s x62).bind fun x66 =>
    (x66.bind fun m_359 =>
    ((upd s x62 (some (EM m_359 x_v21 (Rg.mk x63 x63)))).bind fun u_366 =>
    some u_366))):Option (List (Option (List (Int×Rg))))).bind fun s1=>some (s1,true))) x_v20 x61.1 x61.2.1 x61.2.2).bind fun o_315 =>
    ((Cq x44.1 x_v21).bind fun x76 =>
    ((Cq x44.2 x_v21).bind fun x80 =>
    ((B2 n w_.route x76 x80).bind fun x82 =>
    ((AH n (fun(s:List (Option (List (Int×Rg))))(x83:Int)(x84:Int)=>((((Cq s x83).bind fun x87 =>
    ((Cq s x83).bind fun x92 =>
    (x92.bind fun m_514 =>
    ((some (FE m_514 x_v21 ((Rg.mk 0 0):Rg))).bind fun x95 =>
    (x87.bind fun m_527 =>
    ((upd s x83 (some (EM m_527 x_v21 (Rg.mk x95.1.lo x84)))).bind fun u_534 =>
    some u_534)))))):Option (List (Option (List (Int×Rg))))).bind fun s1=>some (s1,true))) o_315 x82.1 x82.2.1 x82.2.2).bind fun o_456 =>
    AZ n w_ x35 x44 o_456 (IntKind.i64.wrap (x_v21+1))))))))))
    else
    some x_v20)
def BK (n:Nat) (w_:AE):Option (List (E0 Int Rg)) :=
  ((AU n w_.route).bind fun x17 =>
  ((mk x17 (none:Option (List (Int×Rg)))).bind fun x18 =>
  ((AY n x18 x18 0).bind fun o_76 =>
  ((Ca n w_.route (Pm.mk (fun(y0:Rg)=>BN n y0))).bind fun x34 =>
  ((B1 n w_ x34).bind fun x35 =>
  ((Ca n w_.route (Pm.mk (fun(y0:Rg)=>BI n y0))).bind fun x43 =>
  ((B1 n w_ x43).bind fun x44 =>
  ((AZ n w_ x35 x44 o_76 0).bind fun o_227 =>
  ((List.mapM id o_227).bind fun l_579 =>
  some (l_579.map E0.mk))))))))))
def Ba:Nat→AE→(List (E0 Int Rg))→(List Int)→Int→Option (List Int)
  | 0,_,_,_,_=>none
  | n+1,w_,x6,x_v10,x_v11 =>
    (bif decide (x_v11<((x6.length:Nat):Int)) then
    ((Cq x6 x_v11).bind fun x10 =>
    ((B3 n w_.route x10).bind fun x16 =>
    ((I5 x_v10 ([x16]:List Int)).bind fun x19 =>
    Ba n w_ x6 x19 (IntKind.i64.wrap (x_v11+1)))))
    else
    some x_v10)
def BL (n:Nat) (w_:AE):Option (List Int) :=
  ((BK n w_).bind fun x6 =>
  ((Ba n w_ x6 ([]:List Int) 0).bind fun o_52 =>
  some o_52))
def BO:Nat→Af→Int→(List (E0 Int Rg))→Int→Option Bool
  | 0,_,_,_,_=>none
  | n+1,r_,most,x17,x_v10 =>
    (bif decide (x_v10<((x17.length:Nat):Int)) then
    ((Cq x17 x_v10).bind fun x21 =>
    ((B3 n r_ x21).bind fun x25 =>
    (bif decide (x25>most) then
    some false
    else
    BO n r_ most x17 (IntKind.i64.wrap (x_v10+1)))))
    else
    some true)
def Ea (n:Nat) (r_:Af) (d:Au) (most:Int):Option Bool :=
  ((Cw n d r_).bind fun x14 =>
  ((BK n (AE.mk r_ x14)).bind fun x17 =>
  ((BO n r_ most x17 0).bind fun o_65 =>
  some o_65)))
mutual
def BB {σ:Type}:Nat→(σ→Au→BV→Option σ)→Au→BV→Int→Int→Af→Int→Bo→σ→Option (Bo×σ)
  | 0,_,_,_,_,_,_,_,_,_=>none
  | n+1,see_,d,c,at_,buses,r_,x_v10,x_v11,x_v12 =>
    (bif decide (x_v10<3) then
    ((SL 4 at_).bind fun x27 =>
    ((Bo.setI x_v11 at_ x_v10).bind fun u_57 =>
    ((control_Route_every_1 n see_ (Au.mk u_57 d.turns d.spares) (BV.mk (IntKind.i64.wrap (c.number+(if 1<x_v10 then 1 else x_v10))) (IntKind.i64.wrap (c.sum+x_v10))) (IntKind.i64.wrap (at_+1)) buses r_ x_v12).bind fun x42 =>
    BB n see_ d c at_ buses r_ (IntKind.i64.wrap (x_v10+1)) u_57 x42)))
    else
    some (x_v11,x_v12))
def Bm {σ:Type}:Nat→(σ→Au→BV→Option σ)→Au→BV→Int→Int→Af→Int→Bo→σ→Option (Bo×σ)
  | 0,_,_,_,_,_,_,_,_,_=>none
  | n+1,see_,d,c,at_,buses,r_,x_v20,x_v21,x_v22 =>
    ((B0 n r_).bind fun x51 =>
    (bif decide (x_v20<x51) then
    ((Cq r_.buses (IntKind.i64.wrap (at_-buses))).bind fun x61 =>
    ((BU n r_ x61 x_v20).bind fun x64 =>
    (bif x64 then
    ((SL 4 (IntKind.i64.wrap (at_-buses))).bind fun x70 =>
    ((Bo.setI x_v21 (IntKind.i64.wrap (at_-buses)) x_v20).bind fun u_165 =>
    ((control_Route_every_1 n see_ (Au.mk d.holds u_165 d.spares) (BV.mk (IntKind.i64.wrap (c.number+(if 1<(IntKind.i64.wrap (x_v20+1)) then 1 else(IntKind.i64.wrap (x_v20+1))))) c.sum) (IntKind.i64.wrap (at_+1)) buses r_ x_v22).bind fun x84 =>
    Bm n see_ d c at_ buses r_ (IntKind.i64.wrap (x_v20+1)) u_165 x84)))
    else
    Bm n see_ d c at_ buses r_ (IntKind.i64.wrap (x_v20+1)) x_v21 x_v22)))
    else
    some (x_v21,x_v22)))
def BC {σ:Type}:Nat→(σ→Au→BV→Option σ)→Au→BV→Int→Int→Af→Int→Bz→σ→Option (Bz×σ)
  | 0,_,_,_,_,_,_,_,_,_=>none
  | n+1,see_,d,c,at_,buses,r_,x_v30,x_v31,x_v32 =>
    (bif decide (x_v30<2) then
    ((SL 2 (IntKind.i64.wrap (at_-(IntKind.i64.wrap (2*buses))))).bind fun x104 =>
    ((Bz.setI x_v31 (IntKind.i64.wrap (at_-(IntKind.i64.wrap (2*buses)))) (x_v30 == 1)).bind fun u_241 =>
    ((control_Route_every_1 n see_ (Au.mk d.holds d.turns u_241) (BV.mk (IntKind.i64.wrap (c.number+x_v30)) c.sum) (IntKind.i64.wrap (at_+1)) buses r_ x_v32).bind fun x116 =>
    BC n see_ d c at_ buses r_ (IntKind.i64.wrap (x_v30+1)) u_241 x116)))
    else
    some (x_v31,x_v32))
def control_Route_every_1 {σ:Type}:Nat→(σ→Au→BV→Option σ)→Au→BV→Int→Int→Af→σ→Option σ
  | 0,_,_,_,_,_,_,_=>none
  | n+1,see_,d,c,at_,buses,r_,s =>
    (bif decide (at_<buses) then
    ((BB n see_ d c at_ buses r_ 0 d.holds s).bind fun o_33 =>
    some o_33.2)
    else
    (bif decide (at_<(IntKind.i64.wrap (2*buses))) then
    ((Bm n see_ d c at_ buses r_ (-1) d.turns s).bind fun o_107 =>
    some o_107.2)
    else
    (bif decide (at_<(IntKind.i64.wrap ((IntKind.i64.wrap (2*buses))+((r_.spares.length:Nat):Int)))) then
    ((BC n see_ d c at_ buses r_ 0 d.spares s).bind fun o_217 =>
    some o_217.2)
    else
    ((see_ s d c).bind fun x16 =>
    some x16))))
end
def CS {σ:Type} (n:Nat) (see_:σ→Au→BV→Option σ) (r_:Af) (s:σ):Option σ :=
  ((control_Route_every_1 n see_ (Au.mk (Bo.mk 0 0 0 0) (Bo.mk 0 0 0 0) (Bz.mk false false)) (BV.mk 0 0) 0 ((r_.buses.length:Nat):Int) r_ s).bind fun x13 =>
  some x13)
def DG (n:Nat) (d:Au) (c:BV) (found:Bool) (least:BV) (best:Au) (r_:Af):Option (Bool×BV×Au) :=
  (((bif found then
  (bif ((c.number == least.number) && ((c.sum == least.sum) && true)) then
  some true
  else
  (bif decide (c.number>least.number) then
  some true
  else
  (bif (c.number == least.number) then
  some (decide (c.sum>least.sum))
  else
  some false)))
  else
  some false):Option Bool).bind fun o_21 =>
  (bif o_21 then
  some (found,least,best)
  else
  ((Ea n r_ d r_.gap).bind fun x39 =>
  (bif x39 then
  some (true,c,d)
  else
  some (found,least,best)))))
def D5 (h0:Ae) (b_found b_least b_best:Nat) (s:Bool×BV×Au) (F:Fr) (h:Ae):Prop:=Ae.le h0 h∧(b_found≠b_least∧b_found≠b_best∧b_least≠b_best∧True)∧(F.X b_found=some (.cells ([.bool s.1]:List Value).toArray 4 (0,0))∧∀ o,F.h b_found o=none)∧(F.X b_least=some (.cells ([.int .i64 s.2.1.number,.int .i64 s.2.1.sum]:List Value).toArray 107 (0,0))∧∀ o,F.h b_least o=none)∧(F.X b_best=some (.cells ([.int .i64 s.2.2.holds.a0,.int .i64 s.2.2.holds.a1,.int .i64 s.2.2.holds.a2,.int .i64 s.2.2.holds.a3,.int .i64 s.2.2.turns.a0,.int .i64 s.2.2.turns.a1,.int .i64 s.2.2.turns.a2,.int .i64 s.2.2.turns.a3,.bool s.2.2.spares.a0,.bool s.2.2.spares.a1]:List Value).toArray 105 (0,0))∧∀ o,F.h b_best o=none)∧True
def Fa (b_found b_least b_best:Nat) (b:Nat):Prop:=b=b_found∨b=b_least∨b=b_best
def GY (n:Nat) (r_:Af):Option (Av×Int) :=
  ((B8 n r_).bind fun x9 =>
  (bif (x9 != 0) then
  some ((Av.mk ([]:List Int) ([]:List Int) ([]:List Bool)),x9)
  else
  ((CS n (fun s y0 y1=>DG n y0 y1 s.1 s.2.1 s.2.2 r_) r_ (false,BV.mk 0 0,(Au.mk (Bo.mk 0 0 0 0) (Bo.mk 0 0 0 0) (Bz.mk false false)))).bind fun x16 =>
  (bif (!x16.1) then
  some ((Av.mk ([]:List Int) ([]:List Int) ([]:List Bool)),9)
  else
  ((Cw n x16.2.2 r_).bind fun x22 =>
  some (x22,0))))))
def Dy (n:Nat) (d:Au) (p1:BV) (least:Int) (tried:List (Au×Int)) (r_:Af):Option ((List (Au×Int))×Int) :=
  ((some (FE tried d (0:Int))).bind fun x12 =>
  (bif (!x12.2) then
  ((Cw n d r_).bind fun x22 =>
  ((BL n (AE.mk r_ x22)).bind fun x24 =>
  ((CW n x24).bind fun x25 =>
  ((some (FE (EM tried d x25) d (0:Int))).bind fun x29 =>
  ((BZ n ([least,x29.1]:List Int)).bind fun x31 =>
  some ((EM tried d x25),x31))))))
  else
  ((some (FE tried d (0:Int))).bind fun x29 =>
  ((BZ n ([least,x29.1]:List Int)).bind fun x31 =>
  some (tried,x31)))))
def Ds (h0:Ae) (b_least bm_tried:Nat) (s:(List (Au×Int))×Int) (F:Fr) (h:Ae):Prop:=Ae.le h0 h∧(b_least≠bm_tried∧True)∧∃ (es_137:Array MapEntry)(cl_138:Nat),(F.X b_least=some (.cells ([.int .i64 s.2]:List Value).toArray 3 (0,0))∧∀ o,F.h b_least o=none)∧F.X bm_tried=some (.map es_137 cl_138)∧Du h es_137.toList cl_138 s.1∧True
def E7 (b_least bm_tried:Nat) (b:Nat):Prop:=b=b_least∨b=bm_tried
def G2 (n:Nat) (r_:Af):Option (Int×Int) :=
  ((B8 n r_).bind fun x8 =>
  (bif (x8 != 0) then
  some (0,x8)
  else
  ((CS n (fun s y0 y1=>Dy n y0 y1 s.2 s.1 r_) r_ (([]:List (Au×Int)),IntKind.i64.wrap (r_.to_-r_.fr))).bind fun x20 =>
  some (x20.2,0))))
def CM (n:Nat) (r_:Af) (a:Av):Option ((List Int)×Int) :=
  ((BY n r_ a).bind fun x9 =>
  (bif (x9 != 0) then
  some (([]:List Int),x9)
  else
  ((BL n (AE.mk r_ a)).bind fun x16 =>
  some (x16,0))))
def FP (n:Nat)  : Option Bool :=
  ((HK n ).bind fun x8 =>
  ((LG n ).bind fun x9 =>
  ((CM n x8 x9).bind fun x10 =>
  ((HK n ).bind fun x14 =>
  ((GY n x14).bind fun x15 =>
  ((HK n ).bind fun x19 =>
  ((G2 n x19).bind fun x20 =>
  (bif (x10.2 == 0) then
  ((HJ n x10.1 ([40,30,30,37]:List Int)).bind fun x28 =>
  (bif x28 then
  (bif (x15.2 == 0) then
  ((LH n ).bind fun x36 =>
  ((LF n x15.1 x36).bind fun x37 =>
  (bif x37 then
  (bif (x20.2 == 0) then
  some (x20.1 == 35)
  else
  some false)
  else
  some false)))
  else
  some false)
  else
  some false))
  else
  some false))))))))
def Bb:Nat→AE→(List (List Int))→(List (List Int))→Int→Option (List (List Int))
  | 0,_,_,_,_=>none
  | n+1,w_,x18,x_v10,x_v11 =>
    (bif decide (x_v11<((x18.length:Nat):Int)) then
    ((Cq x_v10 x_v11).bind fun x36 =>
    ((upd x_v10 x_v11 ([w_.route.fr,w_.route.to_]:List Int)).bind fun u_137 =>
    Bb n w_ x18 u_137 (IntKind.i64.wrap (x_v11+1))))
    else
    some x_v10)
def Bc:Nat→AE→((List AR)×(List Ay))→(List (List Int))→Int→Option (List (List Int))
  | 0,_,_,_,_=>none
  | n+1,w_,x41,x_v20,x_v21 =>
    (bif decide (x_v21<((x41.1.length:Nat):Int)) then
    ((Cq x41.1 x_v21).bind fun x49 =>
    ((Cq x41.2 x_v21).bind fun x56 =>
    ((B2 n w_.route x49 x56).bind fun x58 =>
    ((AH n (fun(s:List (List Int))(x59:Int)(x60:Int)=>(((((fun(y0:Int)=>A1 n w_.route y0) x60).bind fun x63 =>
    (bif x63 then
    ((Cq s x59).bind fun x68 =>
    ((I5 x68 ([x60]:List Int)).bind fun x72 =>
    ((Cq s x59).bind fun x73 =>
    ((upd s x59 x72).bind fun u_376 =>
    some u_376))))
    else
    some s)):Option (List (List Int))).bind fun s1=>some (s1,true))) x_v20 x58.1 x58.2.1 x58.2.2).bind fun o_286 =>
    Bc n w_ x41 o_286 (IntKind.i64.wrap (x_v21+1))))))
    else
    some x_v20)
def Bd:Nat→(List (List Int))→(List (List Int))→Int→Option (List (List Int))
  | 0,_,_,_=>none
  | n+1,o_204,x_v30,x_v31 =>
    (bif decide (x_v31<((o_204.length:Nat):Int)) then
    ((Cq x_v30 x_v31).bind fun x82 =>
    ((ON x82).bind fun u_477 =>
    ((upd x_v30 x_v31 u_477).bind fun u_478 =>
    ((Cq u_478 x_v31).bind fun x89 =>
    ((OP x89).bind fun x91 =>
    ((Cq u_478 x_v31).bind fun x92 =>
    ((upd u_478 x_v31 x91).bind fun u_536 =>
    Bd n o_204 u_536 (IntKind.i64.wrap (x_v31+1)))))))))
    else
    some x_v30)
def Cg (n:Nat) (w_:AE) (t_:Aw):Option (List (List Int)) :=
  ((AU n w_.route).bind fun x17 =>
  ((mk x17 (([]:List Int):List Int)).bind fun x18 =>
  ((Bb n w_ x18 x18 0).bind fun o_95 =>
  ((B1 n w_ t_).bind fun x41 =>
  ((Bc n w_ x41 o_95 0).bind fun o_204 =>
  ((Bd n o_204 o_204 0).bind fun o_440 =>
  some o_440))))))
def D1 (n:Nat) (r_:Af) (a:Av) (t_:Aw):Option ((List (List Int))×Int) :=
  ((BY n r_ a).bind fun x11 =>
  (bif (x11 != 0) then
  some (([]:List (List Int)),x11)
  else
  ((Cn n r_ t_).bind fun x17 =>
  (bif (!x17) then
  some (([]:List (List Int)),2)
  else
  ((Cg n (AE.mk r_ a) t_).bind fun x23 =>
  some (x23,0))))))
def Cl:Nat→((List (List Int))×Int)→(List Int)→Int→Option (List Int)
  | 0,_,_,_=>none
  | n+1,x17,x_v10,x_v11 =>
    (bif decide (x_v11<((x17.1.length:Nat):Int)) then
    ((Cq x17.1 x_v11).bind fun x27 =>
    ((Fy n x27).bind fun x31 =>
    ((I5 x_v10 ([x31]:List Int)).bind fun x33 =>
    Cl n x17 x33 (IntKind.i64.wrap (x_v11+1)))))
    else
    some x_v10)
def DS (n:Nat) (r_:Af) (a:Av) (t_:Aw):Option ((List Int)×Int) :=
  ((D1 n r_ a t_).bind fun x17 =>
  (bif (x17.2 != 0) then
  some (([]:List Int),x17.2)
  else
  ((Cl n x17 ([]:List Int) 0).bind fun o_80 =>
  some (o_80,0))))
def By:Nat→((List Int)×Int)→((List Int)×Int)→((List Int)×Int)→((List Int)×Int)→Int→Option (Ex Bool Unit)
  | 0,_,_,_,_,_=>none
  | n+1,x56,x66,x74,x82,x_v10 =>
    (bif decide (x_v10<((x56.1.length:Nat):Int)) then
    ((Cq x66.1 x_v10).bind fun x128 =>
    ((Cq x56.1 x_v10).bind fun x132 =>
    (bif decide (x128>x132) then
    some (Ex.ret false)
    else
    ((Cq x82.1 x_v10).bind fun x138 =>
    ((Cq x74.1 x_v10).bind fun x142 =>
    (bif decide (x138>x142) then
    some (Ex.ret false)
    else
    By n x56 x66 x74 x82 (IntKind.i64.wrap (x_v10+1))))))))
    else
    some (Ex.go ()))
def Dt (n:Nat) (r_:Af) (a:Av) (words:List (IK .u16)) (from_:IK .u8) (end_:IK .u8):Option Bool :=
  ((GF n r_ a).bind fun x24 =>
  (bif (!x24) then
  ((FP n ).bind fun x26 =>
  some x26)
  else
  ((FX n r_ words).bind fun x48 =>
  ((Er n r_).bind fun x51 =>
  ((Fv n a).bind fun x53 =>
  ((EZ n x48).bind fun x55 =>
  ((DS n x51 x53 x55).bind fun x56 =>
  ((Er n (Af.mk r_.legs r_.turn r_.buses r_.spares r_.unit r_.gap (if (IntKind.i64.wrap (r_.fr+(IntKind.i64.wrap from_.n)))<r_.to_ then(IntKind.i64.wrap (r_.fr+(IntKind.i64.wrap from_.n))) else r_.to_) (if (IntKind.i64.wrap (r_.to_-(IntKind.i64.wrap end_.n)))>(if (IntKind.i64.wrap (r_.fr+(IntKind.i64.wrap from_.n)))<r_.to_ then(IntKind.i64.wrap (r_.fr+(IntKind.i64.wrap from_.n))) else r_.to_) then(IntKind.i64.wrap (r_.to_-(IntKind.i64.wrap end_.n))) else(if (IntKind.i64.wrap (r_.fr+(IntKind.i64.wrap from_.n)))<r_.to_ then(IntKind.i64.wrap (r_.fr+(IntKind.i64.wrap from_.n))) else r_.to_)))).bind fun x61 =>
  ((Fv n a).bind fun x63 =>
  ((EZ n x48).bind fun x65 =>
  ((DS n x61 x63 x65).bind fun x66 =>
  ((Er n r_).bind fun x71 =>
  ((Fv n a).bind fun x73 =>
  ((CM n x71 x73).bind fun x74 =>
  ((Er n (Af.mk r_.legs r_.turn r_.buses r_.spares r_.unit r_.gap (if (IntKind.i64.wrap (r_.fr+(IntKind.i64.wrap from_.n)))<r_.to_ then(IntKind.i64.wrap (r_.fr+(IntKind.i64.wrap from_.n))) else r_.to_) (if (IntKind.i64.wrap (r_.to_-(IntKind.i64.wrap end_.n)))>(if (IntKind.i64.wrap (r_.fr+(IntKind.i64.wrap from_.n)))<r_.to_ then(IntKind.i64.wrap (r_.fr+(IntKind.i64.wrap from_.n))) else r_.to_) then(IntKind.i64.wrap (r_.to_-(IntKind.i64.wrap end_.n))) else(if (IntKind.i64.wrap (r_.fr+(IntKind.i64.wrap from_.n)))<r_.to_ then(IntKind.i64.wrap (r_.fr+(IntKind.i64.wrap from_.n))) else r_.to_)))).bind fun x79 =>
  ((Fv n a).bind fun x81 =>
  ((CM n x79 x81).bind fun x82 =>
  (((bif (x56.2 != 0) then
  some true
  else
  (bif (x66.2 != 0) then
  some true
  else
  (bif (x74.2 != 0) then
  some true
  else
  (bif (x82.2 != 0) then
  some true
  else
  (bif (((x56.1.length:Nat):Int) != ((x66.1.length:Nat):Int)) then
  some true
  else
  (bif (((x74.1.length:Nat):Int) != ((x82.1.length:Nat):Int)) then
  some true
  else
  some (((x56.1.length:Nat):Int) != ((x74.1.length:Nat):Int)))))))):Option Bool).bind fun o_335 =>
  (bif o_335 then
  some false
  else
  ((By n x56 x66 x74 x82 0).bind fun o_392=>Ex.bind o_392 (fun r=>some r) fun s_393 =>
  ((FP n ).bind fun x146 =>
  some x146)))))))))))))))))))))
abbrev XZ:=@Option.some.inj
abbrev XY:=@Exists.intro
abbrev XX:=@Option.bind_some
abbrev XW:=@cond_true
abbrev XV:=@cond_false
abbrev XU:=@Ae.le_trans
abbrev XT:=@wp_seq
end Go.Proofs.YtokchpjijlebiaaGreat
