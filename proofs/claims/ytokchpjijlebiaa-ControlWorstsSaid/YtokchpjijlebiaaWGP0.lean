/- What the functions compute, in plain Lean. -/
import Derived.Test.YtokchpjijlebiaaWGS5
import Derived.Test.YtokchpjijlebiaaProg
set_option linter.all false
namespace Go.Proofs.Ytokchpjijlebiaa
open Go Go.RowKit
open Rep (rep)
open KRep (kv)
open VRep (rv)
structure Rg where
  lo:Int
  hi:Int
deriving DecidableEq,Inhabited
instance : Rep Rg:=Rep.via fun x=>(x.lo,x.hi)
instance : VRep Rg:=VRep.agg Rg
structure CG where
  stop:Int
  tm:Rg
deriving DecidableEq,Inhabited
instance : Rep CG:=Rep.via fun x=>(x.stop,x.tm)
instance : VRep CG:=VRep.agg CG
structure AG where
  stop:Int
  tm:Int
deriving DecidableEq,Inhabited
instance : Rep AG:=Rep.via fun x=>(x.stop,x.tm)
instance : VRep AG:=VRep.agg AG
structure Af where
  legs:List Rg
  turn:Rg
  buses:List CG
  spares:List AG
  unit:Int
  gap:Int
  fr:Int
  to_:Int
deriving DecidableEq,Inhabited
instance : Rep Af:=Rep.via fun x=>(x.legs,x.turn,x.buses,x.spares,x.unit,x.gap,x.fr,x.to_)
instance : VRep Af:=VRep.agg Af
structure Ao where
  holds:List Int
  turns:List Int
  spares:List Bool
deriving DecidableEq,Inhabited
instance : Rep Ao:=Rep.via fun x=>(x.holds,x.turns,x.spares)
instance : VRep Ao:=VRep.agg Ao
structure Ay where
  tm:List Int
  turns:List Int
  legs:List (List Int)
deriving DecidableEq,Inhabited
instance : Rep Ay:=Rep.via fun x=>(x.tm,x.turns,x.legs)
instance : VRep Ay:=VRep.agg Ay
structure Bm where
  route:Af
  acts:Ao
deriving DecidableEq,Inhabited
instance : Rep Bm:=Rep.via fun x=>(x.route,x.acts)
instance : VRep Bm:=VRep.agg Bm
structure Bd where
  stop:Int
  tm:Int
  turned:Int
deriving DecidableEq,Inhabited
instance : Rep Bd:=Rep.via fun x=>(x.stop,x.tm,x.turned)
instance : VRep Bd:=VRep.agg Bd
structure A9 where
  legs:List Int
  turn:Int
deriving DecidableEq,Inhabited
instance : Rep A9:=Rep.via fun x=>(x.legs,x.turn)
instance : VRep A9:=VRep.agg A9
def Su (h:Ae) (v:Value) (f:Rg→Option Bool):Prop:=∀ (h':Ae)(w':World),Ae.le h h'→CU h' w'→∀ (x0:Rg)(cs0:List Value)(_:rep h' x0 cs0)(r:Bool),f x0=some r→IN Try.prog v #[.agg cs0.toArray] w' (Da (fun h v=>v=.bool r) h' w')
theorem Su.mono {h h':Ae} {v:Value} {f:Rg→Option Bool} (H:Su h v f) (hle:Ae.le h h'):Su h' v f:=fun h2 w2 l=>H h2 w2 (Ae.le_trans hle l)
instance : Rep (Rg→Option Bool):=⟨1,fun h f cs=>∃ fn first cap,cs=[.func fn first cap]∧Su h (.func fn first cap) f,fun hle ⟨a,b,c,e,hr⟩=>⟨a,b,c,e,hr.mono hle⟩,fun⟨a,b,c,e,_⟩=>by subst e; rfl,fun⟨a,b,c,e,_⟩ v hv=>by subst e; simp at hv; subst hv; rfl⟩
def Sv (h:Ae) (v:Value) (f:CG→Option Bool):Prop:=∀ (h':Ae)(w':World),Ae.le h h'→CU h' w'→∀ (x0:CG)(cs0:List Value)(_:rep h' x0 cs0)(r:Bool),f x0=some r→IN Try.prog v #[.agg cs0.toArray] w' (Da (fun h v=>v=.bool r) h' w')
theorem Sv.mono {h h':Ae} {v:Value} {f:CG→Option Bool} (H:Sv h v f) (hle:Ae.le h h'):Sv h' v f:=fun h2 w2 l=>H h2 w2 (Ae.le_trans hle l)
instance : Rep (CG→Option Bool):=⟨1,fun h f cs=>∃ fn first cap,cs=[.func fn first cap]∧Sv h (.func fn first cap) f,fun hle ⟨a,b,c,e,hr⟩=>⟨a,b,c,e,hr.mono hle⟩,fun⟨a,b,c,e,_⟩=>by subst e; rfl,fun⟨a,b,c,e,_⟩ v hv=>by subst e; simp at hv; subst hv; rfl⟩
def Sw (h:Ae) (v:Value) (f:AG→Option Bool):Prop:=∀ (h':Ae)(w':World),Ae.le h h'→CU h' w'→∀ (x0:AG)(cs0:List Value)(_:rep h' x0 cs0)(r:Bool),f x0=some r→IN Try.prog v #[.agg cs0.toArray] w' (Da (fun h v=>v=.bool r) h' w')
theorem Sw.mono {h h':Ae} {v:Value} {f:AG→Option Bool} (H:Sw h v f) (hle:Ae.le h h'):Sw h' v f:=fun h2 w2 l=>H h2 w2 (Ae.le_trans hle l)
instance : Rep (AG→Option Bool):=⟨1,fun h f cs=>∃ fn first cap,cs=[.func fn first cap]∧Sw h (.func fn first cap) f,fun hle ⟨a,b,c,e,hr⟩=>⟨a,b,c,e,hr.mono hle⟩,fun⟨a,b,c,e,_⟩=>by subst e; rfl,fun⟨a,b,c,e,_⟩ v hv=>by subst e; simp at hv; subst hv; rfl⟩
def OW (h:Ae) (v:Value) (f:Rg→Option Int):Prop:=∀ (h':Ae)(w':World),Ae.le h h'→CU h' w'→∀ (x0:Rg)(cs0:List Value)(_:rep h' x0 cs0)(r:Int),f x0=some r→IN Try.prog v #[.agg cs0.toArray] w' (Da (fun h v=>v=.int .i64 r) h' w')
theorem OW.mono {h h':Ae} {v:Value} {f:Rg→Option Int} (H:OW h v f) (hle:Ae.le h h'):OW h' v f:=fun h2 w2 l=>H h2 w2 (Ae.le_trans hle l)
instance : Rep (Rg→Option Int):=⟨1,fun h f cs=>∃ fn first cap,cs=[.func fn first cap]∧OW h (.func fn first cap) f,fun hle ⟨a,b,c,e,hr⟩=>⟨a,b,c,e,hr.mono hle⟩,fun⟨a,b,c,e,_⟩=>by subst e; rfl,fun⟨a,b,c,e,_⟩ v hv=>by subst e; simp at hv; subst hv; rfl⟩
structure He where
  of_:Rg→Option Int
instance : Rep He:=Rep.via fun x=>(x.of_)
instance : VRep He:=VRep.agg He
structure By where
  a0:Int
  a1:Int
  a2:Int
  a3:Int
deriving DecidableEq,Inhabited
instance : Rep By:=Rep.via fun x=>(x.a0,x.a1,x.a2,x.a3)
instance : VRep By:=VRep.agg By
def By.toL (x:By):List Int:=[x.a0,x.a1,x.a2,x.a3]
def By.ofL:List Int→Option By
  | [a0,a1,a2,a3]=>some ⟨a0,a1,a2,a3⟩
  | _=>none
theorem By.ofL_some {l:List Int} {y:By} (h:By.ofL l=some y):y.toL=l:=by
  unfold By.ofL at h
  split at h
  · cases h; rfl
  · cases h
def By.setI (x:By) (i:Int) (v:Int):Option By:=(upd x.toL i v).bind By.ofL
theorem By.setI_some {x y:By} {i:Int} {v:Int} (h:x.setI i v=some y):0≤i∧i<4∧y.toL=x.toL.set i.toNat v:=by
  obtain⟨l,hl,h2⟩:=Aw h
  obtain⟨h0,h1,rfl⟩:=DJ hl
  exact⟨h0,h1,By.ofL_some h2⟩
structure BA where
  a0:Bool
  a1:Bool
deriving DecidableEq,Inhabited
instance : Rep BA:=Rep.via fun x=>(x.a0,x.a1)
instance : VRep BA:=VRep.agg BA
def BA.toL (x:BA):List Bool:=[x.a0,x.a1]
def BA.ofL:List Bool→Option BA
  | [a0,a1]=>some ⟨a0,a1⟩
  | _=>none
theorem BA.ofL_some {l:List Bool} {y:BA} (h:BA.ofL l=some y):y.toL=l:=by
  unfold BA.ofL at h
  split at h
  · cases h; rfl
  · cases h
def BA.setI (x:BA) (i:Int) (v:Bool):Option BA:=(upd x.toL i v).bind BA.ofL
theorem BA.setI_some {x y:BA} {i:Int} {v:Bool} (h:x.setI i v=some y):0≤i∧i<2∧y.toL=x.toL.set i.toNat v:=by
  obtain⟨l,hl,h2⟩:=Aw h
  obtain⟨h0,h1,rfl⟩:=DJ hl
  exact⟨h0,h1,BA.ofL_some h2⟩
structure A7 where
  holds:By
  turns:By
  spares:BA
deriving DecidableEq,Inhabited
instance : Rep A7:=Rep.via fun x=>(x.holds,x.turns,x.spares)
instance : VRep A7:=VRep.agg A7
structure JU where
  fr:Int
  long:Int
deriving DecidableEq,Inhabited
instance : Rep JU:=Rep.via fun x=>(x.fr,x.long)
instance : VRep JU:=VRep.agg JU
def Tj (h:Ae) (v:Value) (f:Int→Option Bool):Prop:=∀ (h':Ae)(w':World),Ae.le h h'→CU h' w'→∀ (x0:Int)(r:Bool),f x0=some r→IN Try.prog v #[.int .i64 x0] w' (Da (fun h v=>v=.bool r) h' w')
theorem Tj.mono {h h':Ae} {v:Value} {f:Int→Option Bool} (H:Tj h v f) (hle:Ae.le h h'):Tj h' v f:=fun h2 w2 l=>H h2 w2 (Ae.le_trans hle l)
instance : Rep (Int→Option Bool):=⟨1,fun h f cs=>∃ fn first cap,cs=[.func fn first cap]∧Tj h (.func fn first cap) f,fun hle ⟨a,b,c,e,hr⟩=>⟨a,b,c,e,hr.mono hle⟩,fun⟨a,b,c,e,_⟩=>by subst e; rfl,fun⟨a,b,c,e,_⟩ v hv=>by subst e; simp at hv; subst hv; rfl⟩
structure Cj where
  number:Int
  sum:Int
deriving DecidableEq,Inhabited
instance : Rep Cj:=Rep.via fun x=>(x.number,x.sum)
instance : VRep Cj:=VRep.agg Cj
def R6 {σ:Type} (XS:σ→Fr→Ae→Prop) (B:Nat→Prop) (v:Value) (f:σ→A7→Cj→Option σ):Prop:=∀ (s:σ)(F:Fr)(h:Ae)(w:World)(x0:A7)(cs0:List Value)(_:rep h x0 cs0)(x1:Cj)(cs1:List Value)(_:rep h x1 cs1)(s':σ),XS s F h→Ah F h [] [] [] w→f s x0 x1=some s'→IN Try.prog v #[.agg cs0.toArray,.agg cs1.toArray] w (S5 XS B F h s')
instance : KRep A7:=⟨fun x=>.agg #[.int .i64 x.holds.a0,.int .i64 x.holds.a1,.int .i64 x.holds.a2,.int .i64 x.holds.a3,.int .i64 x.turns.a0,.int .i64 x.turns.a1,.int .i64 x.turns.a2,.int .i64 x.turns.a3,.bool x.spares.a0,.bool x.spares.a1],fun {a b} h=>by
  rcases a with⟨⟨a0,a1,a2,a3⟩,⟨a4,a5,a6,a7⟩,⟨a8,a9⟩⟩
  rcases b with⟨⟨b0,b1,b2,b3⟩,⟨b4,b5,b6,b7⟩,⟨b8,b9⟩⟩
  simp_all⟩
def DP (n:Nat) (n_:Int) (low:Int) (high:Int):Option Bool :=
  (bif decide (n_≥low) then
  some (decide (n_≤high))
  else
  some false)
def E1 (n:Nat) (r_:Af):Option Int :=
  some (IntKind.i64.wrap (((r_.legs.length:Nat):Int)+1))
def F9 (n:Nat) (r_:Af):Option Int :=
  some (IntKind.i64.wrap (Int.tdiv (IntKind.i64.wrap (((r_.legs.length:Nat):Int)+1)) 2))
def G4 (n:Nat) (r_:Rg) (most:Int):Option Bool :=
  ((DP n r_.lo 0 r_.hi).bind fun x9 =>
  (bif x9 then
  some (decide (r_.hi≤most))
  else
  some false))
def HO (n:Nat) (r_:Rg) (high:Bool):Option Int :=
  (bif high then
  some r_.hi
  else
  some r_.lo)
def I7 (n:Nat) (r_:Rg):Option Rg :=
  some r_
def D4:Nat→Af→Int→Option (Ex Int Unit)
  | 0,_,_=>none
  | n+1,r_,x_v10 =>
    (bif decide (x_v10<((r_.legs.length:Nat):Int)) then
    ((Cd r_.legs x_v10).bind fun x68 =>
    ((G4 n x68 300).bind fun x70 =>
    (bif (!x70) then
    some (Ex.ret 1)
    else
    D4 n r_ (IntKind.i64.wrap (x_v10+1)))))
    else
    some (Ex.go ()))
def D5:Nat→Af→Int→Option (Ex Int Unit)
  | 0,_,_=>none
  | n+1,r_,x_v20 =>
    (bif decide (x_v20<((r_.buses.length:Nat):Int)) then
    ((Cd r_.buses x_v20).bind fun x82 =>
    ((E1 n r_).bind fun x86 =>
    ((DP n x82.stop 0 (IntKind.i64.wrap (x86-1))).bind fun x88 =>
    (bif (!x88) then
    some (Ex.ret 1)
    else
    ((Cd r_.buses x_v20).bind fun x94 =>
    ((G4 n x94.tm 2000).bind fun x97 =>
    (bif (!x97) then
    some (Ex.ret 1)
    else
    D5 n r_ (IntKind.i64.wrap (x_v20+1)))))))))
    else
    some (Ex.go ()))
def D6:Nat→Af→Int→Option (Ex Int Unit)
  | 0,_,_=>none
  | n+1,r_,x_v30 =>
    (bif decide (x_v30<((r_.spares.length:Nat):Int)) then
    ((Cd r_.spares x_v30).bind fun x110 =>
    ((E1 n r_).bind fun x114 =>
    ((DP n x110.stop 0 (IntKind.i64.wrap (x114-1))).bind fun x116 =>
    (bif (!x116) then
    some (Ex.ret 1)
    else
    ((Cd r_.spares x_v30).bind fun x122 =>
    ((DP n x122.tm 0 2000).bind fun x125 =>
    (bif (!x125) then
    some (Ex.ret 1)
    else
    D6 n r_ (IntKind.i64.wrap (x_v30+1)))))))))
    else
    some (Ex.go ()))
def Hv (n:Nat) (r_:Af):Option Int :=
  (((bif decide (((r_.buses.length:Nat):Int)>4) then
  some true
  else
  some (decide (((r_.spares.length:Nat):Int)>2))):Option Bool).bind fun o_17 =>
  (bif o_17 then
  some 3
  else
  (((bif ((Int.tmod ((r_.legs.length:Nat):Int) 2) == 0) then
  some true
  else
  (bif decide (((r_.legs.length:Nat):Int)>7) then
  some true
  else
  ((G4 n r_.turn 300).bind fun x30 =>
  (bif (!x30) then
  some true
  else
  ((DP n r_.unit 1 30).bind fun x36 =>
  (bif (!x36) then
  some true
  else
  ((DP n r_.gap 0 2000).bind fun x42 =>
  (bif (!x42) then
  some true
  else
  ((DP n r_.fr 0 r_.to_).bind fun x50 =>
  (bif (!x50) then
  some true
  else
  some (decide (r_.to_>2000)))))))))))):Option Bool).bind fun o_36 =>
  (bif o_36 then
  some 1
  else
  ((D4 n r_ 0).bind fun o_133=>Ex.bind o_133 (fun r=>some r) fun s_134 =>
  ((D5 n r_ 0).bind fun o_188=>Ex.bind o_188 (fun r=>some r) fun s_189 =>
  ((D6 n r_ 0).bind fun o_286=>Ex.bind o_286 (fun r=>some r) fun s_287 =>
  some 0)))))))
def G5 (n:Nat) (r_:Af):Option Bool :=
  (bif decide (((r_.legs.length:Nat):Int)≤10) then
  (bif decide (((r_.buses.length:Nat):Int)≤6) then
  some (decide (((r_.spares.length:Nat):Int)≤4))
  else
  some false)
  else
  some false)
def FU:Nat→(List Int)→(List Int)→Int→Option (Ex Bool Unit)
  | 0,_,_,_=>none
  | n+1,a,b,x_v10 =>
    (bif decide (x_v10<((a.length:Nat):Int)) then
    ((Cd a x_v10).bind fun x19 =>
    ((Cd b x_v10).bind fun x23 =>
    (bif (x19 != x23) then
    some (Ex.ret false)
    else
    FU n a b (IntKind.i64.wrap (x_v10+1)))))
    else
    some (Ex.go ()))
def I8 (n:Nat) (a:List Int) (b:List Int):Option Bool :=
  (bif (((a.length:Nat):Int) != ((b.length:Nat):Int)) then
  some false
  else
  ((FU n a b 0).bind fun o_11=>Ex.bind o_11 (fun r=>some r) fun s_12 =>
  some true))
def Fc (n:Nat) (l:List Int):Option (List Int) :=
  ((Jz ([]:List Int) l).bind fun x4 =>
  some x4)
def Hw (n:Nat) (a:Ao):Option Ao :=
  ((Fc n a.holds).bind fun x5 =>
  ((Fc n a.turns).bind fun x8 =>
  ((Jz ([]:List Bool) a.spares).bind fun x11 =>
  some (Ao.mk x5 x8 x11))))
def FV:Nat→Ao→Ao→Int→Option (Ex Bool Unit)
  | 0,_,_,_=>none
  | n+1,a,b,x_v10 =>
    (bif decide (x_v10<((a.spares.length:Nat):Int)) then
    ((Cd a.spares x_v10).bind fun x39 =>
    ((Cd b.spares x_v10).bind fun x44 =>
    (bif (!(x39 == x44)) then
    some (Ex.ret false)
    else
    FV n a b (IntKind.i64.wrap (x_v10+1)))))
    else
    some (Ex.go ()))
def MJ (n:Nat) (a:Ao) (b:Ao):Option Bool :=
  ((((I8 n a.holds b.holds).bind fun x10 =>
  (bif (!x10) then
  some true
  else
  ((I8 n a.turns b.turns).bind fun x17 =>
  (bif (!x17) then
  some true
  else
  some (((a.spares.length:Nat):Int) != ((b.spares.length:Nat):Int)))))):Option Bool).bind fun o_31 =>
  (bif o_31 then
  some false
  else
  ((FV n a b 0).bind fun o_80=>Ex.bind o_80 (fun r=>some r) fun s_81 =>
  some true)))
def Cy:Nat→Af→Ao→Int→Option (Ex Bool Unit)
  | 0,_,_,_=>none
  | n+1,r_,a,x_v10 =>
    (bif decide (x_v10<((r_.buses.length:Nat):Int)) then
    ((Cd a.holds x_v10).bind fun x41 =>
    ((DP n x41 0 2).bind fun x43 =>
    (bif (!x43) then
    some (Ex.ret false)
    else
    ((Cd a.turns x_v10).bind fun x49 =>
    (bif (x49 != (-1)) then
    ((Cd a.turns x_v10).bind fun x56 =>
    ((Cd r_.buses x_v10).bind fun x61 =>
    ((F9 n r_).bind fun x65 =>
    ((DP n x56 x61.stop (IntKind.i64.wrap (x65-2))).bind fun x67 =>
    (bif (!x67) then
    some (Ex.ret false)
    else
    Cy n r_ a (IntKind.i64.wrap (x_v10+1)))))))
    else
    Cy n r_ a (IntKind.i64.wrap (x_v10+1)))))))
    else
    some (Ex.go ()))
def FW (n:Nat) (r_:Af) (a:Ao):Option Bool :=
  (((bif (((a.holds.length:Nat):Int) != ((r_.buses.length:Nat):Int)) then
  some true
  else
  (bif (((a.turns.length:Nat):Int) != ((r_.buses.length:Nat):Int)) then
  some true
  else
  some (((a.spares.length:Nat):Int) != ((r_.spares.length:Nat):Int)))):Option Bool).bind fun o_31 =>
  (bif o_31 then
  some false
  else
  ((Cy n r_ a 0).bind fun o_60=>Ex.bind o_60 (fun r=>some r) fun s_61 =>
  some true)))
def I9 (n:Nat)  : Option Af :=
  some (Af.mk ([Rg.mk 10 10,Rg.mk 5 15,Rg.mk 10 12]:List Rg) (Rg.mk 0 4) ([CG.mk 0 (Rg.mk 0 0),CG.mk 0 (Rg.mk 10 20)]:List CG) ([AG.mk 2 40]:List AG) 5 37 0 50)
def MK (n:Nat)  : Option Ao :=
  some (Ao.mk ([0,0]:List Int) ([(-1),(-1)]:List Int) ([false]:List Bool))
def ML (n:Nat)  : Option Ao :=
  some (Ao.mk ([0,1]:List Int) ([(-1),(-1)]:List Int) ([false]:List Bool))
def Df:Nat→(List Int)→Int→Option (List Int)
  | 0,_,_=>none
  | n+1,x_v10,x_v11 =>
    (bif decide (x_v11<((x_v10.length:Nat):Int)) then
    ((Cd x_v10 x_v11).bind fun x27 =>
    ((upd x_v10 x_v11 (-1)).bind fun u_81 =>
    Df n  u_81 (IntKind.i64.wrap (x_v11+1))))
    else
    some x_v10)
def Cc:Nat→Af→Int→Int→(List Int)→(List Int)→Int→Int→Option (List Int)
  | 0,_,_,_,_,_,_,_=>none
  | n+1,r_,turned,turn,legs,x_v20,x_v21,x_v22 =>
    (bif decide (x_v21<((x_v20.length:Nat):Int)) then
    ((Cd x_v20 x_v21).bind fun x36 =>
    ((upd x_v20 x_v21 x_v22).bind fun u_141 =>
    (bif (x_v21 == turned) then
    ((F9 n r_).bind fun x41 =>
    Cc n r_ turned turn legs u_141 (IntKind.i64.wrap ((IntKind.i64.wrap ((IntKind.i64.wrap (2*x41))-1))-x_v21)) (IntKind.i64.wrap (x_v22+turn)))
    else
    (bif decide (x_v21<((legs.length:Nat):Int)) then
    ((Cd legs x_v21).bind fun x56 =>
    Cc n r_ turned turn legs u_141 (IntKind.i64.wrap (x_v21+1)) (IntKind.i64.wrap (x_v22+x56)))
    else
    Cc n r_ turned turn legs u_141 (IntKind.i64.wrap (x_v21+1)) x_v22))))
    else
    some x_v20)
def FA (n:Nat) (r_:Af) (stop:Int) (at_:Int) (turned:Int) (turn:Int) (legs:List Int):Option (List Int) :=
  ((E1 n r_).bind fun x17 =>
  ((mk x17 (0:Int)).bind fun x18 =>
  ((Df n  x18 0).bind fun o_50 =>
  ((Cc n r_ turned turn legs o_50 stop at_).bind fun o_110 =>
  some o_110))))
def EJ:Nat→Af→Ao→Ay→(List (List Int))→Int→Option (List (List Int))
  | 0,_,_,_,_,_=>none
  | n+1,r_,a,t_,x_v10,x_v11 =>
    (bif decide (x_v11<((r_.buses.length:Nat):Int)) then
    ((Cd r_.buses x_v11).bind fun x22 =>
    ((Cd t_.tm x_v11).bind fun x28 =>
    ((Cd a.holds x_v11).bind fun x33 =>
    ((Cd a.turns x_v11).bind fun x42 =>
    ((Cd t_.turns x_v11).bind fun x47 =>
    ((Cd t_.legs x_v11).bind fun x52 =>
    ((FA n r_ x22.stop (IntKind.i64.wrap (x28+(IntKind.i64.wrap (x33*r_.unit)))) x42 x47 x52).bind fun x54 =>
    ((Jz x_v10 ([x54]:List (List Int))).bind fun x56 =>
    EJ n r_ a t_ x56 (IntKind.i64.wrap (x_v11+1))))))))))
    else
    some x_v10)
def Ee:Nat→Af→Ao→Ay→(List (List Int))→Int→Option (List (List Int))
  | 0,_,_,_,_,_=>none
  | n+1,r_,a,t_,x_v20,x_v21 =>
    (bif decide (x_v21<((r_.spares.length:Nat):Int)) then
    ((Cd a.spares x_v21).bind fun x67 =>
    (bif x67 then
    ((Cd r_.spares x_v21).bind fun x74 =>
    ((Cd r_.spares x_v21).bind fun x80 =>
    ((Cd t_.legs (IntKind.i64.wrap (((r_.buses.length:Nat):Int)+x_v21))).bind fun x90 =>
    ((FA n r_ x74.stop x80.tm (-1) 0 x90).bind fun x92 =>
    ((Jz x_v20 ([x92]:List (List Int))).bind fun x94 =>
    Ee n r_ a t_ x94 (IntKind.i64.wrap (x_v21+1)))))))
    else
    Ee n r_ a t_ x_v20 (IntKind.i64.wrap (x_v21+1))))
    else
    some x_v20)
def Ky (n:Nat) (r_:Af) (a:Ao) (t_:Ay):Option (List (List Int)) :=
  ((EJ n r_ a t_ ([]:List (List Int)) 0).bind fun o_60 =>
  ((Ee n r_ a t_ o_60 0).bind fun o_213 =>
  some o_213))
def D7:Nat→Af→(List Rg)→Int→Option (List Rg)
  | 0,_,_,_=>none
  | n+1,r_,x_v10,x_v11 =>
    (bif decide (x_v11<((r_.legs.length:Nat):Int)) then
    ((Cd r_.legs x_v11).bind fun x31 =>
    ((I7 n x31).bind fun x33 =>
    ((Jz x_v10 ([x33]:List Rg)).bind fun x35 =>
    D7 n r_ x35 (IntKind.i64.wrap (x_v11+1)))))
    else
    some x_v10)
def D8:Nat→Af→(List CG)→Int→Option (List CG)
  | 0,_,_,_=>none
  | n+1,r_,x_v20,x_v21 =>
    (bif decide (x_v21<((r_.buses.length:Nat):Int)) then
    ((Cd r_.buses x_v21).bind fun x49 =>
    ((Cd r_.buses x_v21).bind fun x55 =>
    ((I7 n x55.tm).bind fun x58 =>
    ((Jz x_v20 ([CG.mk x49.stop x58]:List CG)).bind fun x61 =>
    D8 n r_ x61 (IntKind.i64.wrap (x_v21+1))))))
    else
    some x_v20)
def D9:Nat→Af→(List AG)→Int→Option (List AG)
  | 0,_,_,_=>none
  | n+1,r_,x_v30,x_v31 =>
    (bif decide (x_v31<((r_.spares.length:Nat):Int)) then
    ((Cd r_.spares x_v31).bind fun x75 =>
    ((Cd r_.spares x_v31).bind fun x81 =>
    ((Jz x_v30 ([AG.mk x75.stop x81.tm]:List AG)).bind fun x86 =>
    D9 n r_ x86 (IntKind.i64.wrap (x_v31+1)))))
    else
    some x_v30)
def Gy (n:Nat) (r_:Af):Option Af :=
  ((I7 n r_.turn).bind fun x9 =>
  ((D7 n r_ ([]:List Rg) 0).bind fun o_50 =>
  ((D8 n r_ ([]:List CG) 0).bind fun o_133 =>
  ((D9 n r_ ([]:List AG) 0).bind fun o_232 =>
  some (Af.mk o_50 x9 o_133 o_232 r_.unit r_.gap r_.fr r_.to_)))))
def Ef:Nat→Ay→(List (List Int))→Int→Option (List (List Int))
  | 0,_,_,_=>none
  | n+1,t_,x_v10,x_v11 =>
    (bif decide (x_v11<((t_.legs.length:Nat):Int)) then
    ((Cd t_.legs x_v11).bind fun x24 =>
    ((Fc n x24).bind fun x26 =>
    ((Jz x_v10 ([x26]:List (List Int))).bind fun x28 =>
    Ef n t_ x28 (IntKind.i64.wrap (x_v11+1)))))
    else
    some x_v10)
def IA (n:Nat) (t_:Ay):Option Ay :=
  ((Fc n t_.tm).bind fun x7 =>
  ((Fc n t_.turns).bind fun x10 =>
  ((Ef n t_ ([]:List (List Int)) 0).bind fun o_56 =>
  some (Ay.mk x7 x10 o_56))))
def E2:Nat→Ay→Int→Option (Ex Bool Unit)
  | 0,_,_=>none
  | n+1,t_,x_v10 =>
    (((bif decide (x_v10<((t_.legs.length:Nat):Int)) then
    some (decide (x_v10<9))
    else
    some false):Option Bool).bind fun o_48 =>
    (bif o_48 then
    ((Cd t_.legs x_v10).bind fun x20 =>
    (bif decide (((x20.length:Nat):Int)>10) then
    some (Ex.ret false)
    else
    E2 n t_ (IntKind.i64.wrap (x_v10+1))))
    else
    some (Ex.go ())))
def Hx (n:Nat) (a:Ao) (t_:Ay):Option Bool :=
  ((E2 n t_ 0).bind fun o_34=>Ex.bind o_34 (fun r=>some r) fun s_35 =>
  (bif decide (((a.holds.length:Nat):Int)≤8) then
  (bif decide (((a.turns.length:Nat):Int)≤8) then
  (bif decide (((a.spares.length:Nat):Int)≤8) then
  (bif decide (((t_.tm.length:Nat):Int)≤8) then
  (bif decide (((t_.turns.length:Nat):Int)≤8) then
  some (decide (((t_.legs.length:Nat):Int)≤8))
  else
  some false)
  else
  some false)
  else
  some false)
  else
  some false)
  else
  some false))
def Hy (n:Nat) (r_:Af) (a:Ao):Option Int :=
  ((Hv n r_).bind fun x7 =>
  (bif (x7 != 0) then
  some x7
  else
  ((FW n r_ a).bind fun x13 =>
  (bif (!x13) then
  some 2
  else
  some 0))))
def Eg:Nat→Af→Int→Int→(List Int)→Int→Option (List Int)
  | 0,_,_,_,_,_=>none
  | n+1,r_,late,x_v13,x_v20,x_v21 =>
    (bif decide (x_v21<((r_.legs.length:Nat):Int)) then
    ((Cd r_.legs x_v21).bind fun x38 =>
    ((HO n x38 ((Int.tmod (Int.fdiv late (2 ^ (min (IntKind.u64.wrap x_v13:Int).toNat 64))) 2) == 1)).bind fun x41 =>
    ((Jz x_v20 ([x41]:List Int)).bind fun x43 =>
    Eg n r_ late x_v13 x43 (IntKind.i64.wrap (x_v21+1)))))
    else
    some x_v20)
def Dx:Nat→Af→Int→(List Int)→(List Int)→(List (List Int))→Int→Option ((List Int)×(List Int)×(List (List Int)))
  | 0,_,_,_,_,_,_=>none
  | n+1,r_,late,x_v10,x_v11,x_v12,x_v13 =>
    (bif decide (x_v13<(IntKind.i64.wrap (((r_.buses.length:Nat):Int)+((r_.spares.length:Nat):Int)))) then
    ((SG (IntKind.u64.wrap x_v13)).bind fun x24 =>
    ((Eg n r_ late x_v13 ([]:List Int) 0).bind fun o_96 =>
    ((Jz x_v12 ([o_96]:List (List Int))).bind fun x48 =>
    (bif decide (x_v13<((r_.buses.length:Nat):Int)) then
    ((Cd r_.buses x_v13).bind fun x60 =>
    ((HO n x60.tm ((Int.tmod (Int.fdiv late (2 ^ (min (IntKind.u64.wrap x_v13:Int).toNat 64))) 2) == 1)).bind fun x64 =>
    ((Jz x_v10 ([x64]:List Int)).bind fun x66 =>
    ((HO n r_.turn ((Int.tmod (Int.fdiv late (2 ^ (min (IntKind.u64.wrap x_v13:Int).toNat 64))) 2) == 1)).bind fun x72 =>
    ((Jz x_v11 ([x72]:List Int)).bind fun x74 =>
    Dx n r_ late x66 x74 x48 (IntKind.i64.wrap (x_v13+1)))))))
    else
    Dx n r_ late x_v10 x_v11 x48 (IntKind.i64.wrap (x_v13+1))))))
    else
    some (x_v10,x_v11,x_v12))
def IB (n:Nat) (r_:Af) (late:Int):Option Ay :=
  ((Dx n r_ late ([]:List Int) ([]:List Int) ([]:List (List Int)) 0).bind fun o_59 =>
  some (Ay.mk o_59.1 o_59.2.1 o_59.2.2))
def CW:Nat→Af→Int→(List (List Int))→(List Int)→Int→Option (List Int)
  | 0,_,_,_,_,_=>none
  | n+1,r_,stop,x26,x_v10,x_v11 =>
    (bif decide (x_v11<((x26.length:Nat):Int)) then
    ((Cd x26 x_v11).bind fun x35 =>
    ((Cd x35 stop).bind fun x38 =>
    ((DP n x38 r_.fr r_.to_).bind fun x45 =>
    (bif x45 then
    ((Jz x_v10 ([x38]:List Int)).bind fun x49 =>
    CW n r_ stop x26 x49 (IntKind.i64.wrap (x_v11+1)))
    else
    CW n r_ stop x26 x_v10 (IntKind.i64.wrap (x_v11+1))))))
    else
    some x_v10)
def CX:Nat→(List Int)→(List Int)→Int→Int→Bool→Option Bool
  | 0,_,_,_,_,_=>none
  | n+1,o_81,x_v20,x_v21,x_v30,x_v31 =>
    (bif decide (x_v30<((x_v20.length:Nat):Int)) then
    (bif x_v31 then
    CX n o_81 x_v20 x_v21 (IntKind.i64.wrap (x_v30+1)) true
    else
    ((Cd x_v20 x_v30).bind fun x66 =>
    ((Cd o_81 x_v21).bind fun x70 =>
    CX n o_81 x_v20 x_v21 (IntKind.i64.wrap (x_v30+1)) (x66 == x70))))
    else
    some x_v31)
def CY:Nat→(List Int)→Int→Option (List Int)
  | 0,_,_=>none
  | n+1,x_v40,x_v41 =>
    (((bif decide (x_v41>0) then
    ((Cd x_v40 x_v41).bind fun x90 =>
    ((Cd x_v40 (IntKind.i64.wrap (x_v41-1))).bind fun x95 =>
    some (decide (x90<x95))))
    else
    some false):Option Bool).bind fun o_337 =>
    (bif o_337 then
    ((Cd x_v40 (IntKind.i64.wrap (x_v41-1))).bind fun x109 =>
    ((Cd x_v40 x_v41).bind fun x113 =>
    ((Cd x_v40 x_v41).bind fun x115 =>
    ((upd x_v40 x_v41 x109).bind fun u_429 =>
    ((Cd u_429 (IntKind.i64.wrap (x_v41-1))).bind fun x116 =>
    ((upd u_429 (IntKind.i64.wrap (x_v41-1)) x113).bind fun u_453 =>
    CY n  u_453 (IntKind.i64.wrap (x_v41-1))))))))
    else
    some x_v40))
def CZ:Nat→(List Int)→(List Int)→Int→Option (List Int)
  | 0,_,_,_=>none
  | n+1,o_81,x_v20,x_v21 =>
    (bif decide (x_v21<((o_81.length:Nat):Int)) then
    ((CX n o_81 x_v20 x_v21 0 false).bind fun o_208 =>
    (bif o_208 then
    CZ n o_81 x_v20 (IntKind.i64.wrap (x_v21+1))
    else
    ((Cd o_81 x_v21).bind fun x78 =>
    ((Jz x_v20 ([x78]:List Int)).bind fun x81 =>
    ((CY n  x81 (IntKind.i64.wrap (((x81.length:Nat):Int)-1))).bind fun o_324 =>
    CZ n o_81 o_324 (IntKind.i64.wrap (x_v21+1)))))))
    else
    some x_v20)
def Hz (n:Nat) (r_:Af) (a:Ao) (t_:Ay) (stop:Int):Option (List Int) :=
  ((Ky n r_ a t_).bind fun x26 =>
  ((CW n r_ stop x26 ([r_.fr,r_.to_]:List Int) 0).bind fun o_81 =>
  ((CZ n o_81 ([]:List Int) 0).bind fun o_187 =>
  some o_187)))
def EK:Nat→(List Int)→Int→Int→Option Int
  | 0,_,_,_=>none
  | n+1,x16,x_v10,x_v11 =>
    (bif decide (x_v10<((x16.length:Nat):Int)) then
    ((Cd x16 x_v10).bind fun x26 =>
    ((Cd x16 (IntKind.i64.wrap (x_v10-1))).bind fun x31 =>
    EK n x16 (IntKind.i64.wrap (x_v10+1)) (if (IntKind.i64.wrap (x26-x31))>x_v11 then(IntKind.i64.wrap (x26-x31)) else x_v11)))
    else
    some x_v11)
def Jt (n:Nat) (r_:Af) (a:Ao) (t_:Ay) (stop:Int):Option Int :=
  ((Hz n r_ a t_ stop).bind fun x16 =>
  ((EK n x16 1 0).bind fun o_65 =>
  some o_65))
def DA:Nat→Af→Ao→Int→Int→Int→Option Int
  | 0,_,_,_,_,_=>none
  | n+1,r_,a,stop,x_v10,x_v11 =>
    ((SG (IntKind.u64.wrap (IntKind.i64.wrap (((r_.buses.length:Nat):Int)+((r_.spares.length:Nat):Int))))).bind fun x18 =>
    (bif decide (x_v10<(IntKind.i64.wrap (1*2 ^ (min (IntKind.u64.wrap (IntKind.i64.wrap (((r_.buses.length:Nat):Int)+((r_.spares.length:Nat):Int))):Int).toNat 64)))) then
    ((IB n r_ x_v10).bind fun x27 =>
    ((Jt n r_ a x27 stop).bind fun x29 =>
    DA n r_ a stop (IntKind.i64.wrap (x_v10+1)) (if x29>x_v11 then x29 else x_v11)))
    else
    some x_v11))
def H0 (n:Nat) (r_:Af) (a:Ao) (stop:Int):Option Int :=
  ((DA n r_ a stop 0 0).bind fun o_36 =>
  some o_36)
def Bu (n:Nat) (n_:Int) (low:Int) (high:Int):Option Bool :=
  (bif decide (low≤n_) then
  some (decide (n_≤high))
  else
  some false)
def Cz (n:Nat) (n_:Int):Option Bool :=
  ((Bu n n_ 0 2000).bind fun x4 =>
  some x4)
def AF (n:Nat) (r_:Af):Option Int :=
  some (IntKind.i64.wrap (((r_.legs.length:Nat):Int)+1))
def BB (n:Nat) (r_:Af):Option Int :=
  ((AF n r_).bind fun x4 =>
  some (IntKind.i64.wrap (Int.tdiv x4 2)))
def AL (n:Nat) (r_:Af) (n_:Int):Option Bool :=
  ((AF n r_).bind fun x7 =>
  ((Bu n n_ 0 (IntKind.i64.wrap (x7-1))).bind fun x9 =>
  some x9))
def Cs (n:Nat) (r_:Rg) (most:Int):Option Bool :=
  (bif decide (0≤r_.lo) then
  (bif decide (r_.lo≤r_.hi) then
  some (decide (r_.hi≤most))
  else
  some false)
  else
  some false)
def Bz (n:Nat) (r_:Rg):Option Bool :=
  ((Cs n r_ 300).bind fun x4 =>
  some x4)
def Al (n:Nat) (r_:Rg):Option Int :=
  some r_.lo
def As (n:Nat) (r_:Rg):Option Int :=
  some r_.hi
def BV (n:Nat) (r_:Af) (n_:Int):Option Bool :=
  ((Bu n n_ r_.fr r_.to_).bind fun x10 =>
  some x10)
def Ci (n:Nat) (r_:Af) (b:CG) (at_:Int):Option Bool :=
  (bif (at_ == (-1)) then
  some true
  else
  ((BB n r_).bind fun x14 =>
  ((Bu n at_ b.stop (IntKind.i64.wrap (x14-2))).bind fun x16 =>
  some x16)))
def Bg:Nat→Bm→Ay→(List Bd)→(List A9)→Int→Option ((List Bd)×(List A9))
  | 0,_,_,_,_,_=>none
  | n+1,w_,t_,x_v10,x_v11,x_v12 =>
    (bif decide (x_v12<((w_.route.buses.length:Nat):Int)) then
    ((Cd w_.route.buses x_v12).bind fun x17 =>
    ((Cd t_.tm x_v12).bind fun x25 =>
    ((Cd w_.acts.holds x_v12).bind fun x31 =>
    ((Cd w_.acts.turns x_v12).bind fun x42 =>
    ((Jz x_v10 ([Bd.mk x17.stop (IntKind.i64.wrap (x25+(IntKind.i64.wrap (x31*w_.route.unit)))) x42]:List Bd)).bind fun x46 =>
    ((Cd t_.legs x_v12).bind fun x51 =>
    ((Cd t_.turns x_v12).bind fun x56 =>
    ((Jz x_v11 ([A9.mk x51 x56]:List A9)).bind fun x60 =>
    Bg n w_ t_ x46 x60 (IntKind.i64.wrap (x_v12+1))))))))))
    else
    some (x_v10,x_v11))
def AY:Nat→Bm→Ay→(List Bd)→(List A9)→Int→Option ((List Bd)×(List A9))
  | 0,_,_,_,_,_=>none
  | n+1,w_,t_,x_v20,x_v21,x_v22 =>
    (bif decide (x_v22<((w_.route.spares.length:Nat):Int)) then
    ((Cd w_.route.spares x_v22).bind fun x69 =>
    ((Cd w_.acts.spares x_v22).bind fun x75 =>
    (bif x75 then
    ((Jz x_v20 ([Bd.mk x69.stop x69.tm (-1)]:List Bd)).bind fun x84 =>
    ((Cd t_.legs (IntKind.i64.wrap (((w_.route.buses.length:Nat):Int)+x_v22))).bind fun x94 =>
    ((Jz x_v21 ([A9.mk x94 0]:List A9)).bind fun x98 =>
    AY n w_ t_ x84 x98 (IntKind.i64.wrap (x_v22+1)))))
    else
    AY n w_ t_ x_v20 x_v21 (IntKind.i64.wrap (x_v22+1)))))
    else
    some (x_v20,x_v21))
def BW (n:Nat) (w_:Bm) (t_:Ay):Option ((List Bd)×(List A9)) :=
  ((Bg n w_ t_ ([]:List Bd) ([]:List A9) 0).bind fun o_63 =>
  ((AY n w_ t_ o_63.1 o_63.2 0).bind fun o_248 =>
  some (o_248.1,o_248.2)))
def B0 (n:Nat) (b:CG) (q0:Af):Option Bool :=
  ((AL n q0 b.stop).bind fun x7 =>
  (bif x7 then
  ((Cs n b.tm 2000).bind fun x11 =>
  some x11)
  else
  some false))
def B1 (n:Nat) (s:AG) (q0:Af):Option Bool :=
  ((AL n q0 s.stop).bind fun x7 =>
  (bif x7 then
  ((Cz n s.tm).bind fun x11 =>
  some x11)
  else
  some false))
def Ap:Nat→(List Rg)→(Rg→Option Bool)→Int→Option (Ex Int Unit)
  | 0,_,_,_=>none
  | n+1,s,f,x_v10 =>
    (bif decide (x_v10<((s.length:Nat):Int)) then
    ((Cd s x_v10).bind fun x14 =>
    ((f x14).bind fun x16 =>
    (bif x16 then
    some (Ex.ret x_v10)
    else
    Ap n s f (IntKind.i64.wrap (x_v10+1)))))
    else
    some (Ex.go ()))
def AJ (n:Nat) (s:List Rg) (f:Rg→Option Bool):Option Int :=
  ((Ap n s f 0).bind fun o_6=>Ex.bind o_6 (fun r=>some r) fun s_7 =>
  some (-1))
def Ax:Nat→(List CG)→(CG→Option Bool)→Int→Option (Ex Int Unit)
  | 0,_,_,_=>none
  | n+1,s,f,x_v10 =>
    (bif decide (x_v10<((s.length:Nat):Int)) then
    ((Cd s x_v10).bind fun x14 =>
    ((f x14).bind fun x16 =>
    (bif x16 then
    some (Ex.ret x_v10)
    else
    Ax n s f (IntKind.i64.wrap (x_v10+1)))))
    else
    some (Ex.go ()))
def AW (n:Nat) (s:List CG) (f:CG→Option Bool):Option Int :=
  ((Ax n s f 0).bind fun o_6=>Ex.bind o_6 (fun r=>some r) fun s_7 =>
  some (-1))
def Aq:Nat→(List AG)→(AG→Option Bool)→Int→Option (Ex Int Unit)
  | 0,_,_,_=>none
  | n+1,s,f,x_v10 =>
    (bif decide (x_v10<((s.length:Nat):Int)) then
    ((Cd s x_v10).bind fun x14 =>
    ((f x14).bind fun x16 =>
    (bif x16 then
    some (Ex.ret x_v10)
    else
    Aq n s f (IntKind.i64.wrap (x_v10+1)))))
    else
    some (Ex.go ()))
def AK (n:Nat) (s:List AG) (f:AG→Option Bool):Option Int :=
  ((Aq n s f 0).bind fun o_6=>Ex.bind o_6 (fun r=>some r) fun s_7 =>
  some (-1))
def AC (n:Nat) (s:List Rg) (f:Rg→Option Bool):Option Bool :=
  ((AJ n s f).bind fun x7 =>
  some (decide (x7≥0)))
def AO (n:Nat) (s:List CG) (f:CG→Option Bool):Option Bool :=
  ((AW n s f).bind fun x7 =>
  some (decide (x7≥0)))
def AD (n:Nat) (s:List AG) (f:AG→Option Bool):Option Bool :=
  ((AK n s f).bind fun x7 =>
  some (decide (x7≥0)))
def AP (n:Nat) (x:Rg) (q0:Rg→Option Bool):Option Bool :=
  ((q0 x).bind fun x6 =>
  some (!x6))
def Ba (n:Nat) (x:CG) (q0:CG→Option Bool):Option Bool :=
  ((q0 x).bind fun x6 =>
  some (!x6))
def AQ (n:Nat) (x:AG) (q0:AG→Option Bool):Option Bool :=
  ((q0 x).bind fun x6 =>
  some (!x6))
def BF (n:Nat) (l:List Rg) (right:Rg→Option Bool):Option Bool :=
  ((AC n l (fun(y0:Rg)=>AP n y0 right)).bind fun x7 =>
  some (!x7))
def BX (n:Nat) (l:List CG) (right:CG→Option Bool):Option Bool :=
  ((AO n l (fun(y0:CG)=>Ba n y0 right)).bind fun x7 =>
  some (!x7))
def BG (n:Nat) (l:List AG) (right:AG→Option Bool):Option Bool :=
  ((AD n l (fun(y0:AG)=>AQ n y0 right)).bind fun x7 =>
  some (!x7))
def BH (n:Nat) (r_:Af):Option Int :=
  (((bif decide (((r_.buses.length:Nat):Int)>4) then
  some true
  else
  some (decide (((r_.spares.length:Nat):Int)>2))):Option Bool).bind fun o_31 =>
  (bif o_31 then
  some 3
  else
  (((bif ((Int.tmod ((r_.legs.length:Nat):Int) 2) == 0) then
  some true
  else
  ((BB n r_).bind fun x26 =>
  (bif decide (x26>4) then
  some true
  else
  ((BF n r_.legs (fun(y0:Rg)=>Bz n y0)).bind fun x32 =>
  (bif (!x32) then
  some true
  else
  ((Bz n r_.turn).bind fun x38 =>
  (bif (!x38) then
  some true
  else
  ((BX n r_.buses (fun(y0:CG)=>B0 n y0 r_)).bind fun x45 =>
  (bif (!x45) then
  some true
  else
  ((BG n r_.spares (fun(y0:AG)=>B1 n y0 r_)).bind fun x52 =>
  some (!x52))))))))))):Option Bool).bind fun o_50 =>
  (bif o_50 then
  some 1
  else
  ((Bu n r_.unit 1 30).bind fun x58 =>
  (bif (!x58) then
  some 1
  else
  ((Cz n r_.gap).bind fun x63 =>
  (bif (!x63) then
  some 1
  else
  ((Cz n r_.fr).bind fun x69 =>
  (bif (!x69) then
  some 1
  else
  ((Cz n r_.to_).bind fun x75 =>
  (bif (!x75) then
  some 1
  else
  (bif decide (r_.fr>r_.to_) then
  some 1
  else
  some 0)))))))))))))
def B2:Nat→Af→Ao→Int→Option (Ex Int Unit)
  | 0,_,_,_=>none
  | n+1,r_,a,x_v10 =>
    (bif decide (x_v10<((r_.buses.length:Nat):Int)) then
    ((Cd r_.buses x_v10).bind fun x44 =>
    ((Cd a.holds x_v10).bind fun x49 =>
    ((Bu n x49 0 2).bind fun x51 =>
    (bif (!x51) then
    some (Ex.ret 2)
    else
    ((Cd a.turns x_v10).bind fun x59 =>
    ((Ci n r_ x44 x59).bind fun x61 =>
    (bif (!x61) then
    some (Ex.ret 2)
    else
    B2 n r_ a (IntKind.i64.wrap (x_v10+1)))))))))
    else
    some (Ex.go ()))
def Ct (n:Nat) (r_:Af) (a:Ao):Option Int :=
  ((BH n r_).bind fun x9 =>
  (bif (x9 != 0) then
  some x9
  else
  (((bif (((a.holds.length:Nat):Int) != ((r_.buses.length:Nat):Int)) then
  some true
  else
  (bif (((a.turns.length:Nat):Int) != ((r_.buses.length:Nat):Int)) then
  some true
  else
  some (((a.spares.length:Nat):Int) != ((r_.spares.length:Nat):Int)))):Option Bool).bind fun o_48 =>
  (bif o_48 then
  some 2
  else
  ((B2 n r_ a 0).bind fun o_77=>Ex.bind o_77 (fun r=>some r) fun s_78 =>
  some 0)))))
def Bo (n:Nat) (s:List Int):Option (List Int) :=
  ((Jz ([]:List Int) s).bind fun x7 =>
  some x7)
def DB (n:Nat) (s:List Bool):Option (List Bool) :=
  ((Jz ([]:List Bool) s).bind fun x7 =>
  some x7)
def Cp:Nat→(List Int)→Int→Int→Option Int
  | 0,_,_,_=>none
  | n+1,x,x_v10,x_v11 =>
    (bif decide (x_v10<((x.length:Nat):Int)) then
    ((Cd x x_v10).bind fun x21 =>
    Cp n x (IntKind.i64.wrap (x_v10+1)) (if x21>x_v11 then x21 else x_v11))
    else
    some x_v11)
def EL (n:Nat) (x:List Int):Option Int :=
  (bif decide (((x.length:Nat):Int)<1) then
  none
  else
  ((Cd x 0).bind fun x10 =>
  ((Cp n x 1 x10).bind fun o_25 =>
  some o_25)))
def BM:Nat→(List Int)→Int→Int→Option Int
  | 0,_,_,_=>none
  | n+1,x,x_v10,x_v11 =>
    (bif decide (x_v10<((x.length:Nat):Int)) then
    ((Cd x x_v10).bind fun x21 =>
    BM n x (IntKind.i64.wrap (x_v10+1)) (if x21<x_v11 then x21 else x_v11))
    else
    some x_v11)
def DC (n:Nat) (x:List Int):Option Int :=
  (bif decide (((x.length:Nat):Int)<1) then
  none
  else
  ((Cd x 0).bind fun x10 =>
  ((BM n x 1 x10).bind fun o_25 =>
  some o_25)))
def G6 (n:Nat) (l:List Int):Option Int :=
  ((EL n l).bind fun x4 =>
  some x4)
def Cu (n:Nat) (l:List Int):Option Int :=
  ((DC n l).bind fun x4 =>
  some x4)
def B3:Nat→Af→He→(List Int)→Int→Option (List Int)
  | 0,_,_,_,_=>none
  | n+1,r_,e,x_v10,x_v11 =>
    (bif decide (x_v11<((r_.legs.length:Nat):Int)) then
    ((Cd r_.legs x_v11).bind fun x15 =>
    ((e.of_ x15).bind fun x21 =>
    ((Jz x_v10 ([x21]:List Int)).bind fun x23 =>
    B3 n r_ e x23 (IntKind.i64.wrap (x_v11+1)))))
    else
    some x_v10)
def B4:Nat→Af→He→(List Int)→(List Int)→(List Int)→(List (List Int))→Int→Option ((List Int)×(List Int)×(List Int)×(List (List Int)))
  | 0,_,_,_,_,_,_,_=>none
  | n+1,r_,e,x_v20,x_v21,x_v22,x_v23,x_v24 =>
    (bif decide (x_v24<((r_.buses.length:Nat):Int)) then
    ((Cd r_.buses x_v24).bind fun x30 =>
    ((e.of_ x30.tm).bind fun x38 =>
    ((Jz x_v21 ([x38]:List Int)).bind fun x40 =>
    ((e.of_ r_.turn).bind fun x47 =>
    ((Jz x_v22 ([x47]:List Int)).bind fun x49 =>
    ((Bo n x_v20).bind fun x53 =>
    ((Jz x_v23 ([x53]:List (List Int))).bind fun x55 =>
    B4 n r_ e x_v20 x40 x49 x55 (IntKind.i64.wrap (x_v24+1)))))))))
    else
    some (x_v20,x_v21,x_v22,x_v23))
def B5:Nat→Af→(List Int)→(List (List Int))→Int→Option ((List Int)×(List (List Int)))
  | 0,_,_,_,_=>none
  | n+1,r_,x_v30,x_v31,x_v32 =>
    (bif decide (x_v32<((r_.spares.length:Nat):Int)) then
    ((Bo n x_v30).bind fun x68 =>
    ((Jz x_v31 ([x68]:List (List Int))).bind fun x70 =>
    B5 n r_ x_v30 x70 (IntKind.i64.wrap (x_v32+1))))
    else
    some (x_v30,x_v31))
def Bs (n:Nat) (r_:Af) (e:He):Option Ay :=
  ((B3 n r_ e ([]:List Int) 0).bind fun o_45 =>
  ((B4 n r_ e o_45 ([]:List Int) ([]:List Int) ([]:List (List Int)) 0).bind fun o_163 =>
  ((B5 n r_ o_163.1 o_163.2.2.2 0).bind fun o_561 =>
  some (Ay.mk o_163.2.1 o_163.2.2.1 o_561.2))))
def AM {σ:Type}:Nat→(σ→Int→Int→Option (σ×Bool))→Bd→Af→A9→Int→Int→σ→Option (Ex σ σ)
  | 0,_,_,_,_,_,_,_=>none
  | n+1,yield_,q0,q1,q2,x_v10,x_v11,x_v12 =>
    ((((AL n q1 x_v11).bind fun x13 =>
    (bif x13 then
    ((yield_ x_v12 x_v11 x_v10).bind fun x18 =>
    some (x18.2,x18.1))
    else
    some (false,x_v12))):Option (Bool×σ)).bind fun o_36 =>
    (bif o_36.1 then
    (bif (x_v11 == q0.turned) then
    ((AF n q1).bind fun x26 =>
    AM n yield_ q0 q1 q2 (IntKind.i64.wrap (x_v10+q2.turn)) (IntKind.i64.wrap ((IntKind.i64.wrap (x26-1))-x_v11)) o_36.2)
    else
    (bif decide (x_v11<((q2.legs.length:Nat):Int)) then
    ((Cd q2.legs x_v11).bind fun x44 =>
    AM n yield_ q0 q1 q2 (IntKind.i64.wrap (x_v10+x44)) (IntKind.i64.wrap (x_v11+1)) o_36.2)
    else
    some (Ex.ret o_36.2)))
    else
    some (Ex.go o_36.2)))
def Bt {σ:Type} (n:Nat) (yield_:σ→Int→Int→Option (σ×Bool)) (s:σ) (q0:Bd) (q1:Af) (q2:A9):Option σ :=
  ((AM n yield_ q0 q1 q2 q0.tm q0.stop s).bind fun o_22=>Ex.bind o_22 (fun r=>some r) fun s_23 =>
  some s_23)
def CH (n:Nat) (d:A7) (r_:Af):Option Ao :=
  ((P0 ([d.holds.a0,d.holds.a1,d.holds.a2,d.holds.a3]:List Int) ((r_.buses.length:Nat):Int)).bind fun x9 =>
  ((P0 ([d.turns.a0,d.turns.a1,d.turns.a2,d.turns.a3]:List Int) ((r_.buses.length:Nat):Int)).bind fun x15 =>
  ((P0 ([d.spares.a0,d.spares.a1]:List Bool) ((r_.spares.length:Nat):Int)).bind fun x21 =>
  ((Bo n x9).bind fun x10 =>
  ((Bo n x15).bind fun x16 =>
  ((DB n x21).bind fun x22 =>
  some (Ao.mk x10 x16 x22)))))))
def C0 (n:Nat) (r_:Af) (x:Bd) (t_:A9):Option (Bd×Af×A9) :=
  some (x,r_,t_)
def AR:Nat→Af→(List Int)→(List (Int×Rg))→(((List Int)×(List (Int×Rg)))→Prop)→Prop
  | 0,_,_,_,_=>False
  | n+1,r_,x_v10,x_v11,K =>
    ((x_v11=[] →
    K (x_v10,x_v11))∧(∀ k_79 x_80 rem_82,List.Perm x_v11 ((k_79,x_80)::rem_82) →
    (∃ x29,((fun(y0:Int)=>BV n r_ y0) x_80.lo)=some x29 ∧
    (bif x29 then
    (∃ x34,(Jz x_v10 ([x_80.lo]:List Int))=some x34 ∧
    AR n r_ x34 rem_82 K)
    else
    AR n r_ x_v10 rem_82 K))))
def AS:Nat→Int→Int→(List (Int×Rg))→((Int×(List (Int×Rg)))→Prop)→Prop
  | 0,_,_,_,_=>False
  | n+1,x42,x_v30,x_v31,K =>
    ((x_v31=[] →
    K (x_v30,x_v31))∧(∀ k_242 x_243 rem_245,List.Perm x_v31 ((k_242,x_243)::rem_245) →
    (bif decide (x_243.lo>x42) then
    (∃ x60,(Cu n ([x_v30,x_243.hi]:List Int))=some x60 ∧
    AS n x42 x60 rem_245 K)
    else
    AS n x42 x_v30 rem_245 K)))
def AB:Nat→Af→(DQ Int Rg)→((List Int)×(List (Int×Rg)))→(List Int)→Int→Int→Int→(((List Int)×Int×Int)→Prop)→Prop
  | 0,_,_,_,_,_,_,_,_=>False
  | n+1,r_,spans,s_59,x_v20,x_v21,x_v22,x_v23,K =>
    (bif decide (x_v21<((s_59.1.length:Nat):Int)) then
    (∃ x42,(Cd x_v20 x_v21)=some x42 ∧
    (AS n x42 r_.to_ spans.l (fun s_222 =>
    (bif decide ((IntKind.i64.wrap (s_222.1-x42))>x_v23) then
    AB n r_ spans s_59 x_v20 (IntKind.i64.wrap (x_v21+1)) x42 (IntKind.i64.wrap (s_222.1-x42)) K
    else
    AB n r_ spans s_59 x_v20 (IntKind.i64.wrap (x_v21+1)) x_v22 x_v23 K))))
    else
    K (x_v20,x_v22,x_v23))
def C9 (n:Nat) (r_:Af) (spans:DQ Int Rg) (Q:JU→Prop):Prop :=
  (AR n r_ ([r_.fr]:List Int) spans.l (fun s_59 =>
  (AB n r_ spans s_59 s_59.1 0 r_.fr 0 (fun s_170 =>
  Q (JU.mk s_170.2.1 s_170.2.2)))))
def A0 (m to_:Int) (l:List (Int×Rg)):Int:=l.foldl (fun e p=>if p.2.lo>m then min e p.2.hi else e) to_
def Bp (r:Af) (l:List (Int×Rg)):List Int:=r.fr::(l.filter fun p=>decide (r.fr≤p.2.lo) && decide (p.2.lo≤r.to_)).map fun p=>p.2.lo
def BC (n:Nat) (r_:Af) (spans:DQ Int Rg):Option Int :=
  if 2*spans.l.length+20≤n∧spans.l.length<1000000 then some ((Bp r_ spans.l).foldl (fun b m=>max b (IntKind.i64.wrap (A0 m r_.to_ spans.l-m))) 0) else none
def Bh:Nat→(List (Option (List (Int×Rg))))→(List (Option (List (Int×Rg))))→Int→Option (List (Option (List (Int×Rg))))
  | 0,_,_,_=>none
  | n+1,x18,x_v10,x_v11 =>
    (bif decide (x_v11<((x18.length:Nat):Int)) then
    ((Cd x_v10 x_v11).bind fun x27 =>
    ((upd x_v10 x_v11 (some ([]:List (Int×Rg)))).bind fun u_114 =>
    Bh n x18 u_114 (IntKind.i64.wrap (x_v11+1))))
    else
    some x_v10)
def Bi:Nat→Bm→((List Bd)×(List A9))→((List Bd)×(List A9))→(List (Option (List (Int×Rg))))→Int→Option (List (Option (List (Int×Rg))))
  | 0,_,_,_,_,_=>none
  | n+1,w_,x35,x44,x_v20,x_v21 =>
    (bif decide (x_v21<((x35.1.length:Nat):Int)) then
    ((Cd x35.1 x_v21).bind fun x52 =>
    ((Cd x35.2 x_v21).bind fun x59 =>
    ((C0 n w_.route x52 x59).bind fun x61 =>
    ((Bt n (fun(s:List (Option (List (Int×Rg))))(x62:Int)(x63:Int)=>((((Cd s x62).bind fun x66 =>
    (x66.bind fun m_359 =>
    ((upd s x62 (some (Fx m_359 x_v21 (Rg.mk x63 x63)))).bind fun u_366 =>
    some u_366))):Option (List (Option (List (Int×Rg))))).bind fun s1=>some (s1,true))) x_v20 x61.1 x61.2.1 x61.2.2).bind fun o_315 =>
    ((Cd x44.1 x_v21).bind fun x76 =>
    ((Cd x44.2 x_v21).bind fun x80 =>
    ((C0 n w_.route x76 x80).bind fun x82 =>
    ((Bt n (fun(s:List (Option (List (Int×Rg))))(x83:Int)(x84:Int)=>((((Cd s x83).bind fun x87 =>
    ((Cd s x83).bind fun x92 =>
    (x92.bind fun m_514 =>
    ((some (E5 m_514 x_v21 ((Rg.mk 0 0):Rg))).bind fun x95 =>
    (x87.bind fun m_527 =>
    ((upd s x83 (some (Fx m_527 x_v21 (Rg.mk x95.1.lo x84)))).bind fun u_534 =>
    some u_534)))))):Option (List (Option (List (Int×Rg))))).bind fun s1=>some (s1,true))) o_315 x82.1 x82.2.1 x82.2.2).bind fun o_456 =>
    Bi n w_ x35 x44 o_456 (IntKind.i64.wrap (x_v21+1))))))))))
    else
    some x_v20)
def BD (n:Nat) (w_:Bm):Option (List (DQ Int Rg)) :=
  ((AF n w_.route).bind fun x17 =>
  ((mk x17 (none:Option (List (Int×Rg)))).bind fun x18 =>
  ((Bh n x18 x18 0).bind fun o_76 =>
  ((Bs n w_.route (He.mk (fun(y0:Rg)=>Al n y0))).bind fun x34 =>
  ((BW n w_ x34).bind fun x35 =>
  ((Bs n w_.route (He.mk (fun(y0:Rg)=>As n y0))).bind fun x43 =>
  ((BW n w_ x43).bind fun x44 =>
  ((Bi n w_ x35 x44 o_76 0).bind fun o_227 =>
  ((List.mapM id o_227).bind fun l_579 =>
  some (l_579.map DQ.mk))))))))))
def Bj:Nat→Bm→(List (DQ Int Rg))→(List Int)→Int→Option (List Int)
  | 0,_,_,_,_=>none
  | n+1,w_,x6,x_v10,x_v11 =>
    (bif decide (x_v11<((x6.length:Nat):Int)) then
    ((Cd x6 x_v11).bind fun x10 =>
    ((BC n w_.route x10).bind fun x16 =>
    ((Jz x_v10 ([x16]:List Int)).bind fun x19 =>
    Bj n w_ x6 x19 (IntKind.i64.wrap (x_v11+1)))))
    else
    some x_v10)
def BY (n:Nat) (w_:Bm):Option (List Int) :=
  ((BD n w_).bind fun x6 =>
  ((Bj n w_ x6 ([]:List Int) 0).bind fun o_52 =>
  some o_52))
def Cf:Nat→Af→Int→(List (DQ Int Rg))→Int→Option Bool
  | 0,_,_,_,_=>none
  | n+1,r_,most,x17,x_v10 =>
    (bif decide (x_v10<((x17.length:Nat):Int)) then
    ((Cd x17 x_v10).bind fun x21 =>
    ((BC n r_ x21).bind fun x25 =>
    (bif decide (x25>most) then
    some false
    else
    Cf n r_ most x17 (IntKind.i64.wrap (x_v10+1)))))
    else
    some true)
def EA (n:Nat) (r_:Af) (d:A7) (most:Int):Option Bool :=
  ((CH n d r_).bind fun x14 =>
  ((BD n (Bm.mk r_ x14)).bind fun x17 =>
  ((Cf n r_ most x17 0).bind fun o_65 =>
  some o_65)))
mutual
def BO {σ:Type}:Nat→(σ→A7→Cj→Option σ)→A7→Cj→Int→Int→Af→Int→By→σ→Option (By×σ)
  | 0,_,_,_,_,_,_,_,_,_=>none
  | n+1,see_,d,c,at_,buses,r_,x_v10,x_v11,x_v12 =>
    (bif decide (x_v10<3) then
    ((Tn 4 at_).bind fun x27 =>
    ((By.setI x_v11 at_ x_v10).bind fun u_57 =>
    ((control_Route_every_1 n see_ (A7.mk u_57 d.turns d.spares) (Cj.mk (IntKind.i64.wrap (c.number+(if 1<x_v10 then 1 else x_v10))) (IntKind.i64.wrap (c.sum+x_v10))) (IntKind.i64.wrap (at_+1)) buses r_ x_v12).bind fun x42 =>
    BO n see_ d c at_ buses r_ (IntKind.i64.wrap (x_v10+1)) u_57 x42)))
    else
    some (x_v11,x_v12))
def Bv {σ:Type}:Nat→(σ→A7→Cj→Option σ)→A7→Cj→Int→Int→Af→Int→By→σ→Option (By×σ)
  | 0,_,_,_,_,_,_,_,_,_=>none
  | n+1,see_,d,c,at_,buses,r_,x_v20,x_v21,x_v22 =>
    ((BB n r_).bind fun x51 =>
    (bif decide (x_v20<x51) then
    ((Cd r_.buses (IntKind.i64.wrap (at_-buses))).bind fun x61 =>
    ((Ci n r_ x61 x_v20).bind fun x64 =>
    (bif x64 then
    ((Tn 4 (IntKind.i64.wrap (at_-buses))).bind fun x70 =>
    ((By.setI x_v21 (IntKind.i64.wrap (at_-buses)) x_v20).bind fun u_165 =>
    ((control_Route_every_1 n see_ (A7.mk d.holds u_165 d.spares) (Cj.mk (IntKind.i64.wrap (c.number+(if 1<(IntKind.i64.wrap (x_v20+1)) then 1 else(IntKind.i64.wrap (x_v20+1))))) c.sum) (IntKind.i64.wrap (at_+1)) buses r_ x_v22).bind fun x84 =>
    Bv n see_ d c at_ buses r_ (IntKind.i64.wrap (x_v20+1)) u_165 x84)))
    else
    Bv n see_ d c at_ buses r_ (IntKind.i64.wrap (x_v20+1)) x_v21 x_v22)))
    else
    some (x_v21,x_v22)))
def BP {σ:Type}:Nat→(σ→A7→Cj→Option σ)→A7→Cj→Int→Int→Af→Int→BA→σ→Option (BA×σ)
  | 0,_,_,_,_,_,_,_,_,_=>none
  | n+1,see_,d,c,at_,buses,r_,x_v30,x_v31,x_v32 =>
    (bif decide (x_v30<2) then
    ((Tn 2 (IntKind.i64.wrap (at_-(IntKind.i64.wrap (2*buses))))).bind fun x104 =>
    ((BA.setI x_v31 (IntKind.i64.wrap (at_-(IntKind.i64.wrap (2*buses)))) (x_v30 == 1)).bind fun u_241 =>
    ((control_Route_every_1 n see_ (A7.mk d.holds d.turns u_241) (Cj.mk (IntKind.i64.wrap (c.number+x_v30)) c.sum) (IntKind.i64.wrap (at_+1)) buses r_ x_v32).bind fun x116 =>
    BP n see_ d c at_ buses r_ (IntKind.i64.wrap (x_v30+1)) u_241 x116)))
    else
    some (x_v31,x_v32))
def control_Route_every_1 {σ:Type}:Nat→(σ→A7→Cj→Option σ)→A7→Cj→Int→Int→Af→σ→Option σ
  | 0,_,_,_,_,_,_,_=>none
  | n+1,see_,d,c,at_,buses,r_,s =>
    (bif decide (at_<buses) then
    ((BO n see_ d c at_ buses r_ 0 d.holds s).bind fun o_33 =>
    some o_33.2)
    else
    (bif decide (at_<(IntKind.i64.wrap (2*buses))) then
    ((Bv n see_ d c at_ buses r_ (-1) d.turns s).bind fun o_107 =>
    some o_107.2)
    else
    (bif decide (at_<(IntKind.i64.wrap ((IntKind.i64.wrap (2*buses))+((r_.spares.length:Nat):Int)))) then
    ((BP n see_ d c at_ buses r_ 0 d.spares s).bind fun o_217 =>
    some o_217.2)
    else
    ((see_ s d c).bind fun x16 =>
    some x16))))
end
def Dm {σ:Type} (n:Nat) (see_:σ→A7→Cj→Option σ) (r_:Af) (s:σ):Option σ :=
  ((control_Route_every_1 n see_ (A7.mk (By.mk 0 0 0 0) (By.mk 0 0 0 0) (BA.mk false false)) (Cj.mk 0 0) 0 ((r_.buses.length:Nat):Int) r_ s).bind fun x13 =>
  some x13)
def Eh (n:Nat) (d:A7) (c:Cj) (found:Bool) (least:Cj) (best:A7) (r_:Af):Option (Bool×Cj×A7) :=
  (((bif found then
  (bif ((c.number == least.number) && ((c.sum == least.sum) && true)) then
  some true
  else
  (bif decide (c.number>least.number) then
  some true
  else
  (bif (c.number == least.number) then
  some (decide (c.sum>least.sum))
  else
  some false)))
  else
  some false):Option Bool).bind fun o_21 =>
  (bif o_21 then
  some (found,least,best)
  else
  ((EA n r_ d r_.gap).bind fun x39 =>
  (bif x39 then
  some (true,c,d)
  else
  some (found,least,best)))))
def DW (h0:Ae) (b_found b_least b_best:Nat) (s:Bool×Cj×A7) (F:Fr) (h:Ae):Prop:=Ae.le h0 h∧(b_found≠b_least∧b_found≠b_best∧b_least≠b_best∧True)∧(F.X b_found=some (.cells ([.bool s.1]:List Value).toArray 4 (0,0))∧∀ o,F.h b_found o=none)∧(F.X b_least=some (.cells ([.int .i64 s.2.1.number,.int .i64 s.2.1.sum]:List Value).toArray 104 (0,0))∧∀ o,F.h b_least o=none)∧(F.X b_best=some (.cells ([.int .i64 s.2.2.holds.a0,.int .i64 s.2.2.holds.a1,.int .i64 s.2.2.holds.a2,.int .i64 s.2.2.holds.a3,.int .i64 s.2.2.turns.a0,.int .i64 s.2.2.turns.a1,.int .i64 s.2.2.turns.a2,.int .i64 s.2.2.turns.a3,.bool s.2.2.spares.a0,.bool s.2.2.spares.a1]:List Value).toArray 102 (0,0))∧∀ o,F.h b_best o=none)∧True
def FB (b_found b_least b_best:Nat) (b:Nat):Prop:=b=b_found∨b=b_least∨b=b_best
def HP (n:Nat) (r_:Af):Option (Ao×Int) :=
  ((BH n r_).bind fun x9 =>
  (bif (x9 != 0) then
  some ((Ao.mk ([]:List Int) ([]:List Int) ([]:List Bool)),x9)
  else
  ((Dm n (fun s y0 y1=>Eh n y0 y1 s.1 s.2.1 s.2.2 r_) r_ (false,Cj.mk 0 0,(A7.mk (By.mk 0 0 0 0) (By.mk 0 0 0 0) (BA.mk false false)))).bind fun x16 =>
  (bif (!x16.1) then
  some ((Ao.mk ([]:List Int) ([]:List Int) ([]:List Bool)),9)
  else
  ((CH n x16.2.2 r_).bind fun x22 =>
  some (x22,0))))))
def DI (n:Nat) (d:A7) (p1:Cj) (least:Int) (tried:List (A7×Int)) (r_:Af):Option ((List (A7×Int))×Int) :=
  ((some (E5 tried d (0:Int))).bind fun x12 =>
  (bif (!x12.2) then
  ((CH n d r_).bind fun x22 =>
  ((BY n (Bm.mk r_ x22)).bind fun x24 =>
  ((G6 n x24).bind fun x25 =>
  ((some (E5 (Fx tried d x25) d (0:Int))).bind fun x29 =>
  ((Cu n ([least,x29.1]:List Int)).bind fun x31 =>
  some ((Fx tried d x25),x31))))))
  else
  ((some (E5 tried d (0:Int))).bind fun x29 =>
  ((Cu n ([least,x29.1]:List Int)).bind fun x31 =>
  some (tried,x31)))))
def DD (h0:Ae) (b_least bm_tried:Nat) (s:(List (A7×Int))×Int) (F:Fr) (h:Ae):Prop:=Ae.le h0 h∧(b_least≠bm_tried∧True)∧∃ (es_137:Array MapEntry)(cl_138:Nat),(F.X b_least=some (.cells ([.int .i64 s.2]:List Value).toArray 3 (0,0))∧∀ o,F.h b_least o=none)∧F.X bm_tried=some (.map es_137 cl_138)∧DE h es_137.toList cl_138 s.1∧True
def Fd (b_least bm_tried:Nat) (b:Nat):Prop:=b=b_least∨b=bm_tried
def Hf (n:Nat) (r_:Af):Option (Int×Int) :=
  ((BH n r_).bind fun x8 =>
  (bif (x8 != 0) then
  some (0,x8)
  else
  ((Dm n (fun s y0 y1=>DI n y0 y1 s.2 s.1 r_) r_ (([]:List (A7×Int)),IntKind.i64.wrap (r_.to_-r_.fr))).bind fun x20 =>
  some (x20.2,0))))
def CE (n:Nat) (r_:Af) (a:Ao):Option ((List Int)×Int) :=
  ((Ct n r_ a).bind fun x9 =>
  (bif (x9 != 0) then
  some (([]:List Int),x9)
  else
  ((BY n (Bm.mk r_ a)).bind fun x16 =>
  some (x16,0))))
def DN (n:Nat)  : Option Bool :=
  ((I9 n ).bind fun x8 =>
  ((MK n ).bind fun x9 =>
  ((CE n x8 x9).bind fun x10 =>
  ((I9 n ).bind fun x14 =>
  ((HP n x14).bind fun x15 =>
  ((I9 n ).bind fun x19 =>
  ((Hf n x19).bind fun x20 =>
  (bif (x10.2 == 0) then
  ((I8 n x10.1 ([40,30,30,37]:List Int)).bind fun x28 =>
  (bif x28 then
  (bif (x15.2 == 0) then
  ((ML n ).bind fun x36 =>
  ((MJ n x15.1 x36).bind fun x37 =>
  (bif x37 then
  (bif (x20.2 == 0) then
  some (x20.1 == 35)
  else
  some false)
  else
  some false)))
  else
  some false)
  else
  some false))
  else
  some false))))))))
def Ei:Nat→Af→Ay→Int→Option (Ex Bool Unit)
  | 0,_,_,_=>none
  | n+1,r_,t_,x_v10 =>
    (bif decide (x_v10<((r_.buses.length:Nat):Int)) then
    ((Cd t_.tm x_v10).bind fun x47 =>
    ((Cd r_.buses x_v10).bind fun x52 =>
    ((Cd r_.buses x_v10).bind fun x59 =>
    ((DP n x47 x52.tm.lo x59.tm.hi).bind fun x63 =>
    (bif (!x63) then
    some (Ex.ret false)
    else
    ((Cd t_.turns x_v10).bind fun x69 =>
    ((DP n x69 r_.turn.lo r_.turn.hi).bind fun x77 =>
    (bif (!x77) then
    some (Ex.ret false)
    else
    Ei n r_ t_ (IntKind.i64.wrap (x_v10+1))))))))))
    else
    some (Ex.go ()))
def Ej:Nat→Af→Ay→Int→Int→Option (Ex Bool Unit)
  | 0,_,_,_,_=>none
  | n+1,r_,t_,x_v20,x_v30 =>
    (bif decide (x_v30<((r_.legs.length:Nat):Int)) then
    ((Cd t_.legs x_v20).bind fun x107 =>
    ((Cd x107 x_v30).bind fun x110 =>
    ((Cd r_.legs x_v30).bind fun x115 =>
    ((Cd r_.legs x_v30).bind fun x121 =>
    ((DP n x110 x115.lo x121.hi).bind fun x124 =>
    (bif (!x124) then
    some (Ex.ret false)
    else
    Ej n r_ t_ x_v20 (IntKind.i64.wrap (x_v30+1))))))))
    else
    some (Ex.go ()))
def Ek:Nat→Af→Ay→Int→Option (Ex Bool Unit)
  | 0,_,_,_=>none
  | n+1,r_,t_,x_v20 =>
    (bif decide (x_v20<((t_.legs.length:Nat):Int)) then
    ((Cd t_.legs x_v20).bind fun x90 =>
    (bif (((x90.length:Nat):Int) != ((r_.legs.length:Nat):Int)) then
    some (Ex.ret false)
    else
    ((Ej n r_ t_ x_v20 0).bind fun o_218=>Ex.bind o_218 (fun r=>some (Ex.ret r)) fun s_219 =>
    Ek n r_ t_ (IntKind.i64.wrap (x_v20+1)))))
    else
    some (Ex.go ()))
def IC (n:Nat) (r_:Af) (t_:Ay):Option Bool :=
  (((bif (((t_.tm.length:Nat):Int) != ((r_.buses.length:Nat):Int)) then
  some true
  else
  (bif (((t_.turns.length:Nat):Int) != ((r_.buses.length:Nat):Int)) then
  some true
  else
  some (((t_.legs.length:Nat):Int) != (IntKind.i64.wrap (((r_.buses.length:Nat):Int)+((r_.spares.length:Nat):Int)))))):Option Bool).bind fun o_31 =>
  (bif o_31 then
  some false
  else
  ((Ei n r_ t_ 0).bind fun o_60=>Ex.bind o_60 (fun r=>some r) fun s_61 =>
  ((Ek n r_ t_ 0).bind fun o_176=>Ex.bind o_176 (fun r=>some r) fun s_177 =>
  some true))))
def Bk:Nat→Af→Ao→(DQ Int Rg)→JU→Ay→(List Int)→(List Int)→(List (List Int))→Int→Int→(((List Int)×(List Int)×(List (List Int)))→Prop)→Prop
  | 0,_,_,_,_,_,_,_,_,_,_,_=>False
  | n+1,r_,a,x37,x41,x48,x_v10,x_v11,x_v12,x_v13,x_v14,K =>
    (bif decide (x_v13<(IntKind.i64.wrap (((r_.buses.length:Nat):Int)+((r_.spares.length:Nat):Int)))) then
    (∃ o_230,((bif (!(decide (x_v13<((r_.buses.length:Nat):Int)))) then
    ((Cd a.spares (IntKind.i64.wrap (x_v13-((r_.buses.length:Nat):Int)))).bind fun x74 =>
    some (!x74))
    else
    some false):Option Bool)=some o_230 ∧
    (bif o_230 then
    Bk n r_ a x37 x41 x48 x_v10 x_v11 x_v12 (IntKind.i64.wrap (x_v13+1)) x_v14 K
    else
    (∃ x81,(some (E5 x37.l x_v14 ((Rg.mk 0 0):Rg)))=some x81 ∧
    (∃ o_281,((bif x81.2 then
    some (decide (x81.1.lo>x41.fr))
    else
    some false):Option Bool)=some o_281 ∧
    (bif o_281 then
    (∃ x97,(Cd x48.legs x_v13)=some x97 ∧
    (∃ x99,(Cd x_v12 x_v13)=some x99 ∧
    (∃ u_334,(upd x_v12 x_v13 x97)=some u_334 ∧
    (bif decide (x_v13<((r_.buses.length:Nat):Int)) then
    (∃ x110,(Cd x48.tm x_v13)=some x110 ∧
    (∃ x115,(Cd x48.turns x_v13)=some x115 ∧
    (∃ x117,(Cd x_v10 x_v13)=some x117 ∧
    (∃ u_394,(upd x_v10 x_v13 x110)=some u_394 ∧
    (∃ x118,(Cd x_v11 x_v13)=some x118 ∧
    (∃ u_418,(upd x_v11 x_v13 x115)=some u_418 ∧
    Bk n r_ a x37 x41 x48 u_394 u_418 u_334 (IntKind.i64.wrap (x_v13+1)) (IntKind.i64.wrap (x_v14+1)) K))))))
    else
    Bk n r_ a x37 x41 x48 x_v10 x_v11 u_334 (IntKind.i64.wrap (x_v13+1)) (IntKind.i64.wrap (x_v14+1)) K))))
    else
    Bk n r_ a x37 x41 x48 x_v10 x_v11 x_v12 (IntKind.i64.wrap (x_v13+1)) (IntKind.i64.wrap (x_v14+1)) K)))))
    else
    K (x_v10,x_v11,x_v12))
def CF (n:Nat) (r_:Af) (a:Ao) (stop:Int) (Q:(Ay×Int)→Prop):Prop :=
  (∃ x21,(Ct n r_ a)=some x21 ∧
  (bif (x21 != 0) then
  Q ((Ay.mk ([]:List Int) ([]:List Int) ([]:List (List Int))),x21)
  else
  (∃ x28,(AL n r_ stop)=some x28 ∧
  (bif (!x28) then
  Q ((Ay.mk ([]:List Int) ([]:List Int) ([]:List (List Int))),2)
  else
  (∃ x35,(BD n (Bm.mk r_ a))=some x35 ∧
  (∃ x37,(Cd x35 stop)=some x37 ∧
  (C9 n r_ x37 (fun x41 =>
  (∃ x45,(Bs n r_ (He.mk (fun(y0:Rg)=>Al n y0)))=some x45 ∧
  (∃ x48,(Bs n r_ (He.mk (fun(y0:Rg)=>As n y0)))=some x48 ∧
  (Bk n r_ a x37 x41 x48 x45.tm x45.turns x45.legs 0 0 (fun s_209 =>
  Q ((Ay.mk s_209.1 s_209.2.1 s_209.2.2),0)))))))))))))
def Bq:Nat→Af→Ao→(Bool→Prop)→((List Int)×Int)→Int→(Unit→Prop)→Prop
  | 0,_,_,_,_,_,_=>False
  | n+1,r_,a,Q,x29,x_v10,K =>
    (bif decide (x_v10<((x29.1.length:Nat):Int)) then
    (∃ x91,(Cd x29.1 x_v10)=some x91 ∧
    (∃ x96,(H0 n r_ a x_v10)=some x96 ∧
    (bif (x91 != x96) then
    Q false
    else
    Bq n r_ a Q x29 (IntKind.i64.wrap (x_v10+1)) K)))
    else
    K ())
def DX (n:Nat) (r_:Af) (a:Ao) (stop:Int) (Q:Bool→Prop):Prop :=
  (∃ x15,(G5 n r_)=some x15 ∧
  (bif (!x15) then
  (∃ x23,(DN n )=some x23 ∧
  Q x23)
  else
  (∃ x20,(Hx n a (Ay.mk ([]:List Int) ([]:List Int) ([]:List (List Int))))=some x20 ∧
  (bif (!x20) then
  (∃ x23,(DN n )=some x23 ∧
  Q x23)
  else
  (∃ x26,(Gy n r_)=some x26 ∧
  (∃ x28,(Hw n a)=some x28 ∧
  (∃ x29,(CE n x26 x28)=some x29 ∧
  (∃ x34,(Gy n r_)=some x34 ∧
  (∃ x36,(Hw n a)=some x36 ∧
  (CF n x34 x36 stop (fun x38 =>
  (∃ x43,(Hy n r_ a)=some x43 ∧
  (bif (x43 != 0) then
  (bif (x29.2 == x43) then
  (bif (x38.2 == x43) then
  (bif ((IntKind.i64.wrap ((IntKind.i64.wrap ((IntKind.i64.wrap (((x29.1.length:Nat):Int)+((x38.1.tm.length:Nat):Int)))+((x38.1.turns.length:Nat):Int)))+((x38.1.legs.length:Nat):Int))) == 0) then
  (∃ x72,(DN n )=some x72 ∧
  Q x72)
  else
  Q false)
  else
  Q false)
  else
  Q false)
  else
  (bif (x29.2 != 0) then
  Q false
  else
  (∃ x80,(E1 n r_)=some x80 ∧
  (bif (((x29.1.length:Nat):Int) != x80) then
  Q false
  else
  (Bq n r_ a Q x29 0 (fun s_231 =>
  (∃ x100,(E1 n r_)=some x100 ∧
  (∃ x102,(DP n stop 0 (IntKind.i64.wrap (x100-1)))=some x102 ∧
  (bif (!x102) then
  (bif (x38.2 == 2) then
  (bif ((IntKind.i64.wrap ((IntKind.i64.wrap (((x38.1.tm.length:Nat):Int)+((x38.1.turns.length:Nat):Int)))+((x38.1.legs.length:Nat):Int))) == 0) then
  (∃ x121,(DN n )=some x121 ∧
  Q x121)
  else
  Q false)
  else
  Q false)
  else
  (∃ x124,(IA n x38.1)=some x124 ∧
  (bif (x38.2 == 0) then
  (∃ x130,(IC n r_ x124)=some x130 ∧
  (bif x130 then
  (∃ x140,(Cd x29.1 stop)=some x140 ∧
  (∃ x137,(Jt n r_ a x124 stop)=some x137 ∧
  (bif (x137 == x140) then
  (∃ x145,(DN n )=some x145 ∧
  Q x145)
  else
  Q false)))
  else
  Q false))
  else
  Q false)))))))))))))))))))))))
abbrev XZ:=@Option.some.inj
abbrev XY:=@Exists.intro
abbrev XX:=@Option.bind_some
abbrev XW:=@cond_true
abbrev XV:=@cond_false
abbrev XU:=@Ae.le_trans
abbrev XT:=@wp_seq
end Go.Proofs.Ytokchpjijlebiaa
