/- What the functions compute, in plain Lean. -/
import Derived.Test.YtokchpjijlebiaaLQS7
import Derived.Test.YtokchpjijlebiaaProg
set_option linter.all false
namespace Go.Proofs.Ytokchpjijlebiaa
open Go Go.RowKit
open Rep (rep)
open KRep (kv)
open VRep (rv)
structure Rg where
  lo:Int
  hi:Int
deriving DecidableEq,Inhabited
instance : Rep Rg:=Rep.via fun x=>(x.lo,x.hi)
instance : VRep Rg:=VRep.agg Rg
structure Ce where
  stop:Int
  tm:Rg
deriving DecidableEq,Inhabited
instance : Rep Ce:=Rep.via fun x=>(x.stop,x.tm)
instance : VRep Ce:=VRep.agg Ce
structure Az where
  stop:Int
  tm:Int
deriving DecidableEq,Inhabited
instance : Rep Az:=Rep.via fun x=>(x.stop,x.tm)
instance : VRep Az:=VRep.agg Az
structure Af where
  legs:List Rg
  turn:Rg
  buses:List Ce
  spares:List Az
  unit:Int
  gap:Int
  fr:Int
  to_:Int
deriving DecidableEq,Inhabited
instance : Rep Af:=Rep.via fun x=>(x.legs,x.turn,x.buses,x.spares,x.unit,x.gap,x.fr,x.to_)
instance : VRep Af:=VRep.agg Af
structure As where
  holds:List Int
  turns:List Int
  spares:List Bool
deriving DecidableEq,Inhabited
instance : Rep As:=Rep.via fun x=>(x.holds,x.turns,x.spares)
instance : VRep As:=VRep.agg As
structure Av where
  tm:List Int
  turns:List Int
  legs:List (List Int)
deriving DecidableEq,Inhabited
instance : Rep Av:=Rep.via fun x=>(x.tm,x.turns,x.legs)
instance : VRep Av:=VRep.agg Av
structure AL where
  route:Af
  acts:As
deriving DecidableEq,Inhabited
instance : Rep AL:=Rep.via fun x=>(x.route,x.acts)
instance : VRep AL:=VRep.agg AL
structure AX where
  stop:Int
  tm:Int
  turned:Int
deriving DecidableEq,Inhabited
instance : Rep AX:=Rep.via fun x=>(x.stop,x.tm,x.turned)
instance : VRep AX:=VRep.agg AX
structure Ax where
  legs:List Int
  turn:Int
deriving DecidableEq,Inhabited
instance : Rep Ax:=Rep.via fun x=>(x.legs,x.turn)
instance : VRep Ax:=VRep.agg Ax
def Ua (h:Ad) (v:Value) (f:Rg→Option Bool):Prop:=∀ (h':Ad)(w':World),Ad.le h h'→Dk h' w'→∀ (x0:Rg)(cs0:List Value)(_:rep h' x0 cs0)(r:Bool),f x0=some r→IW Try.prog v #[.agg cs0.toArray] w' (Dq (fun h v=>v=.bool r) h' w')
theorem Ua.mono {h h':Ad} {v:Value} {f:Rg→Option Bool} (H:Ua h v f) (hle:Ad.le h h'):Ua h' v f:=fun h2 w2 l=>H h2 w2 (Ad.le_trans hle l)
instance : Rep (Rg→Option Bool):=⟨1,fun h f cs=>∃ fn first cap,cs=[.func fn first cap]∧Ua h (.func fn first cap) f,fun hle ⟨a,b,c,e,hr⟩=>⟨a,b,c,e,hr.mono hle⟩,fun⟨a,b,c,e,_⟩=>by subst e; rfl,fun⟨a,b,c,e,_⟩ v hv=>by subst e; simp at hv; subst hv; rfl⟩
def Ub (h:Ad) (v:Value) (f:Ce→Option Bool):Prop:=∀ (h':Ad)(w':World),Ad.le h h'→Dk h' w'→∀ (x0:Ce)(cs0:List Value)(_:rep h' x0 cs0)(r:Bool),f x0=some r→IW Try.prog v #[.agg cs0.toArray] w' (Dq (fun h v=>v=.bool r) h' w')
theorem Ub.mono {h h':Ad} {v:Value} {f:Ce→Option Bool} (H:Ub h v f) (hle:Ad.le h h'):Ub h' v f:=fun h2 w2 l=>H h2 w2 (Ad.le_trans hle l)
instance : Rep (Ce→Option Bool):=⟨1,fun h f cs=>∃ fn first cap,cs=[.func fn first cap]∧Ub h (.func fn first cap) f,fun hle ⟨a,b,c,e,hr⟩=>⟨a,b,c,e,hr.mono hle⟩,fun⟨a,b,c,e,_⟩=>by subst e; rfl,fun⟨a,b,c,e,_⟩ v hv=>by subst e; simp at hv; subst hv; rfl⟩
def Uc (h:Ad) (v:Value) (f:Az→Option Bool):Prop:=∀ (h':Ad)(w':World),Ad.le h h'→Dk h' w'→∀ (x0:Az)(cs0:List Value)(_:rep h' x0 cs0)(r:Bool),f x0=some r→IW Try.prog v #[.agg cs0.toArray] w' (Dq (fun h v=>v=.bool r) h' w')
theorem Uc.mono {h h':Ad} {v:Value} {f:Az→Option Bool} (H:Uc h v f) (hle:Ad.le h h'):Uc h' v f:=fun h2 w2 l=>H h2 w2 (Ad.le_trans hle l)
instance : Rep (Az→Option Bool):=⟨1,fun h f cs=>∃ fn first cap,cs=[.func fn first cap]∧Uc h (.func fn first cap) f,fun hle ⟨a,b,c,e,hr⟩=>⟨a,b,c,e,hr.mono hle⟩,fun⟨a,b,c,e,_⟩=>by subst e; rfl,fun⟨a,b,c,e,_⟩ v hv=>by subst e; simp at hv; subst hv; rfl⟩
def US (h:Ad) (v:Value) (f:Rg→Option Int):Prop:=∀ (h':Ad)(w':World),Ad.le h h'→Dk h' w'→∀ (x0:Rg)(cs0:List Value)(_:rep h' x0 cs0)(r:Int),f x0=some r→IW Try.prog v #[.agg cs0.toArray] w' (Dq (fun h v=>v=.int .i64 r) h' w')
theorem US.mono {h h':Ad} {v:Value} {f:Rg→Option Int} (H:US h v f) (hle:Ad.le h h'):US h' v f:=fun h2 w2 l=>H h2 w2 (Ad.le_trans hle l)
instance : Rep (Rg→Option Int):=⟨1,fun h f cs=>∃ fn first cap,cs=[.func fn first cap]∧US h (.func fn first cap) f,fun hle ⟨a,b,c,e,hr⟩=>⟨a,b,c,e,hr.mono hle⟩,fun⟨a,b,c,e,_⟩=>by subst e; rfl,fun⟨a,b,c,e,_⟩ v hv=>by subst e; simp at hv; subst hv; rfl⟩
structure Rj where
  of_:Rg→Option Int
instance : Rep Rj:=Rep.via fun x=>(x.of_)
instance : VRep Rj:=VRep.agg Rj
structure AK where
  a0:Int
  a1:Int
  a2:Int
  a3:Int
deriving DecidableEq,Inhabited
instance : Rep AK:=Rep.via fun x=>(x.a0,x.a1,x.a2,x.a3)
instance : VRep AK:=VRep.agg AK
def AK.toL (x:AK):List Int:=[x.a0,x.a1,x.a2,x.a3]
def AK.ofL:List Int→Option AK
  | [a0,a1,a2,a3]=>some ⟨a0,a1,a2,a3⟩
  | _=>none
theorem AK.ofL_some {l:List Int} {y:AK} (h:AK.ofL l=some y):y.toL=l:=by
  unfold AK.ofL at h
  split at h
  · cases h; rfl
  · cases h
def AK.setI (x:AK) (i:Int) (v:Int):Option AK:=(upd x.toL i v).bind AK.ofL
theorem AK.setI_some {x y:AK} {i:Int} {v:Int} (h:x.setI i v=some y):0≤i∧i<4∧y.toL=x.toL.set i.toNat v:=by
  obtain⟨l,hl,h2⟩:=Ao h
  obtain⟨h0,h1,rfl⟩:=DK hl
  exact⟨h0,h1,AK.ofL_some h2⟩
structure AU where
  a0:Bool
  a1:Bool
deriving DecidableEq,Inhabited
instance : Rep AU:=Rep.via fun x=>(x.a0,x.a1)
instance : VRep AU:=VRep.agg AU
def AU.toL (x:AU):List Bool:=[x.a0,x.a1]
def AU.ofL:List Bool→Option AU
  | [a0,a1]=>some ⟨a0,a1⟩
  | _=>none
theorem AU.ofL_some {l:List Bool} {y:AU} (h:AU.ofL l=some y):y.toL=l:=by
  unfold AU.ofL at h
  split at h
  · cases h; rfl
  · cases h
def AU.setI (x:AU) (i:Int) (v:Bool):Option AU:=(upd x.toL i v).bind AU.ofL
theorem AU.setI_some {x y:AU} {i:Int} {v:Bool} (h:x.setI i v=some y):0≤i∧i<2∧y.toL=x.toL.set i.toNat v:=by
  obtain⟨l,hl,h2⟩:=Ao h
  obtain⟨h0,h1,rfl⟩:=DK hl
  exact⟨h0,h1,AU.ofL_some h2⟩
structure An where
  holds:AK
  turns:AK
  spares:AU
deriving DecidableEq,Inhabited
instance : Rep An:=Rep.via fun x=>(x.holds,x.turns,x.spares)
instance : VRep An:=VRep.agg An
structure Qw where
  fr:Int
  long:Int
deriving DecidableEq,Inhabited
instance : Rep Qw:=Rep.via fun x=>(x.fr,x.long)
instance : VRep Qw:=VRep.agg Qw
def UT (h:Ad) (v:Value) (f:Int→Option Bool):Prop:=∀ (h':Ad)(w':World),Ad.le h h'→Dk h' w'→∀ (x0:Int)(r:Bool),f x0=some r→IW Try.prog v #[.int .i64 x0] w' (Dq (fun h v=>v=.bool r) h' w')
theorem UT.mono {h h':Ad} {v:Value} {f:Int→Option Bool} (H:UT h v f) (hle:Ad.le h h'):UT h' v f:=fun h2 w2 l=>H h2 w2 (Ad.le_trans hle l)
instance : Rep (Int→Option Bool):=⟨1,fun h f cs=>∃ fn first cap,cs=[.func fn first cap]∧UT h (.func fn first cap) f,fun hle ⟨a,b,c,e,hr⟩=>⟨a,b,c,e,hr.mono hle⟩,fun⟨a,b,c,e,_⟩=>by subst e; rfl,fun⟨a,b,c,e,_⟩ v hv=>by subst e; simp at hv; subst hv; rfl⟩
structure Bd where
  number:Int
  sum:Int
deriving DecidableEq,Inhabited
instance : Rep Bd:=Rep.via fun x=>(x.number,x.sum)
instance : VRep Bd:=VRep.agg Bd
def Th {σ:Type} (XS:σ→Fr→Ad→Prop) (B:Nat→Prop) (v:Value) (f:σ→An→Bd→Option σ):Prop:=∀ (s:σ)(F:Fr)(h:Ad)(w:World)(x0:An)(cs0:List Value)(_:rep h x0 cs0)(x1:Bd)(cs1:List Value)(_:rep h x1 cs1)(s':σ),XS s F h→Ah F h [] [] [] w→f s x0 x1=some s'→IW Try.prog v #[.agg cs0.toArray,.agg cs1.toArray] w (Ul XS B F h s')
instance : KRep An:=⟨fun x=>.agg #[.int .i64 x.holds.a0,.int .i64 x.holds.a1,.int .i64 x.holds.a2,.int .i64 x.holds.a3,.int .i64 x.turns.a0,.int .i64 x.turns.a1,.int .i64 x.turns.a2,.int .i64 x.turns.a3,.bool x.spares.a0,.bool x.spares.a1],fun {a b} h=>by
  rcases a with⟨⟨a0,a1,a2,a3⟩,⟨a4,a5,a6,a7⟩,⟨a8,a9⟩⟩
  rcases b with⟨⟨b0,b1,b2,b3⟩,⟨b4,b5,b6,b7⟩,⟨b8,b9⟩⟩
  simp_all⟩
def F5 (n:Nat) (n_:Int) (low:Int) (high:Int):Option Bool :=
  (bif decide (n_≥low) then
  some (decide (n_≤high))
  else
  some false)
def Gx (n:Nat) (r_:Af):Option Int :=
  some (IntKind.i64.wrap (((r_.legs.length:Nat):Int)+1))
def G7 (n:Nat) (r_:Af):Option Int :=
  some (IntKind.i64.wrap (Int.tdiv (IntKind.i64.wrap (((r_.legs.length:Nat):Int)+1)) 2))
def G8 (n:Nat) (r_:Rg) (most:Int):Option Bool :=
  ((F5 n r_.lo 0 r_.hi).bind fun x9 =>
  (bif x9 then
  some (decide (r_.hi≤most))
  else
  some false))
def IF (n:Nat) (r_:Rg):Option Rg :=
  some r_
def D7:Nat→Af→Int→Option (Ex Int Unit)
  | 0,_,_=>none
  | n+1,r_,x_v10 =>
    (bif decide (x_v10<((r_.legs.length:Nat):Int)) then
    ((Cr r_.legs x_v10).bind fun x68 =>
    ((G8 n x68 300).bind fun x70 =>
    (bif (!x70) then
    some (Ex.ret 1)
    else
    D7 n r_ (IntKind.i64.wrap (x_v10+1)))))
    else
    some (Ex.go ()))
def D8:Nat→Af→Int→Option (Ex Int Unit)
  | 0,_,_=>none
  | n+1,r_,x_v20 =>
    (bif decide (x_v20<((r_.buses.length:Nat):Int)) then
    ((Cr r_.buses x_v20).bind fun x82 =>
    ((Gx n r_).bind fun x86 =>
    ((F5 n x82.stop 0 (IntKind.i64.wrap (x86-1))).bind fun x88 =>
    (bif (!x88) then
    some (Ex.ret 1)
    else
    ((Cr r_.buses x_v20).bind fun x94 =>
    ((G8 n x94.tm 2000).bind fun x97 =>
    (bif (!x97) then
    some (Ex.ret 1)
    else
    D8 n r_ (IntKind.i64.wrap (x_v20+1)))))))))
    else
    some (Ex.go ()))
def D9:Nat→Af→Int→Option (Ex Int Unit)
  | 0,_,_=>none
  | n+1,r_,x_v30 =>
    (bif decide (x_v30<((r_.spares.length:Nat):Int)) then
    ((Cr r_.spares x_v30).bind fun x110 =>
    ((Gx n r_).bind fun x114 =>
    ((F5 n x110.stop 0 (IntKind.i64.wrap (x114-1))).bind fun x116 =>
    (bif (!x116) then
    some (Ex.ret 1)
    else
    ((Cr r_.spares x_v30).bind fun x122 =>
    ((F5 n x122.tm 0 2000).bind fun x125 =>
    (bif (!x125) then
    some (Ex.ret 1)
    else
    D9 n r_ (IntKind.i64.wrap (x_v30+1)))))))))
    else
    some (Ex.go ()))
def Gy (n:Nat) (r_:Af):Option Int :=
  (((bif decide (((r_.buses.length:Nat):Int)>4) then
  some true
  else
  some (decide (((r_.spares.length:Nat):Int)>2))):Option Bool).bind fun o_17 =>
  (bif o_17 then
  some 3
  else
  (((bif ((Int.tmod ((r_.legs.length:Nat):Int) 2) == 0) then
  some true
  else
  (bif decide (((r_.legs.length:Nat):Int)>7) then
  some true
  else
  ((G8 n r_.turn 300).bind fun x30 =>
  (bif (!x30) then
  some true
  else
  ((F5 n r_.unit 1 30).bind fun x36 =>
  (bif (!x36) then
  some true
  else
  ((F5 n r_.gap 0 2000).bind fun x42 =>
  (bif (!x42) then
  some true
  else
  ((F5 n r_.fr 0 r_.to_).bind fun x50 =>
  (bif (!x50) then
  some true
  else
  some (decide (r_.to_>2000)))))))))))):Option Bool).bind fun o_36 =>
  (bif o_36 then
  some 1
  else
  ((D7 n r_ 0).bind fun o_133=>Ex.bind o_133 (fun r=>some r) fun s_134 =>
  ((D8 n r_ 0).bind fun o_188=>Ex.bind o_188 (fun r=>some r) fun s_189 =>
  ((D9 n r_ 0).bind fun o_286=>Ex.bind o_286 (fun r=>some r) fun s_287 =>
  some 0)))))))
def KB (n:Nat) (r_:Af):Option Bool :=
  (bif decide (((r_.legs.length:Nat):Int)≤10) then
  (bif decide (((r_.buses.length:Nat):Int)≤6) then
  some (decide (((r_.spares.length:Nat):Int)≤4))
  else
  some false)
  else
  some false)
def Ed:Nat→(List Int)→(List Int)→Int→Option (Ex Bool Unit)
  | 0,_,_,_=>none
  | n+1,a,b,x_v10 =>
    (bif decide (x_v10<((a.length:Nat):Int)) then
    ((Cr a x_v10).bind fun x19 =>
    ((Cr b x_v10).bind fun x23 =>
    (bif (x19 != x23) then
    some (Ex.ret false)
    else
    Ed n a b (IntKind.i64.wrap (x_v10+1)))))
    else
    some (Ex.go ()))
def FQ (n:Nat) (a:List Int) (b:List Int):Option Bool :=
  (bif (((a.length:Nat):Int) != ((b.length:Nat):Int)) then
  some false
  else
  ((Ed n a b 0).bind fun o_11=>Ex.bind o_11 (fun r=>some r) fun s_12 =>
  some true))
def Fc (n:Nat) (l:List Int):Option (List Int) :=
  ((IU ([]:List Int) l).bind fun x4 =>
  some x4)
def FR (n:Nat) (a:As):Option As :=
  ((Fc n a.holds).bind fun x5 =>
  ((Fc n a.turns).bind fun x8 =>
  ((IU ([]:List Bool) a.spares).bind fun x11 =>
  some (As.mk x5 x8 x11))))
def Ee:Nat→As→As→Int→Option (Ex Bool Unit)
  | 0,_,_,_=>none
  | n+1,a,b,x_v10 =>
    (bif decide (x_v10<((a.spares.length:Nat):Int)) then
    ((Cr a.spares x_v10).bind fun x39 =>
    ((Cr b.spares x_v10).bind fun x44 =>
    (bif (!(x39 == x44)) then
    some (Ex.ret false)
    else
    Ee n a b (IntKind.i64.wrap (x_v10+1)))))
    else
    some (Ex.go ()))
def Hw (n:Nat) (a:As) (b:As):Option Bool :=
  ((((FQ n a.holds b.holds).bind fun x10 =>
  (bif (!x10) then
  some true
  else
  ((FQ n a.turns b.turns).bind fun x17 =>
  (bif (!x17) then
  some true
  else
  some (((a.spares.length:Nat):Int) != ((b.spares.length:Nat):Int)))))):Option Bool).bind fun o_31 =>
  (bif o_31 then
  some false
  else
  ((Ee n a b 0).bind fun o_80=>Ex.bind o_80 (fun r=>some r) fun s_81 =>
  some true)))
def C4:Nat→Af→As→Int→Option (Ex Bool Unit)
  | 0,_,_,_=>none
  | n+1,r_,a,x_v10 =>
    (bif decide (x_v10<((r_.buses.length:Nat):Int)) then
    ((Cr a.holds x_v10).bind fun x41 =>
    ((F5 n x41 0 2).bind fun x43 =>
    (bif (!x43) then
    some (Ex.ret false)
    else
    ((Cr a.turns x_v10).bind fun x49 =>
    (bif (x49 != (-1)) then
    ((Cr a.turns x_v10).bind fun x56 =>
    ((Cr r_.buses x_v10).bind fun x61 =>
    ((G7 n r_).bind fun x65 =>
    ((F5 n x56 x61.stop (IntKind.i64.wrap (x65-2))).bind fun x67 =>
    (bif (!x67) then
    some (Ex.ret false)
    else
    C4 n r_ a (IntKind.i64.wrap (x_v10+1)))))))
    else
    C4 n r_ a (IntKind.i64.wrap (x_v10+1)))))))
    else
    some (Ex.go ()))
def FT (n:Nat) (r_:Af) (a:As):Option Bool :=
  (((bif (((a.holds.length:Nat):Int) != ((r_.buses.length:Nat):Int)) then
  some true
  else
  (bif (((a.turns.length:Nat):Int) != ((r_.buses.length:Nat):Int)) then
  some true
  else
  some (((a.spares.length:Nat):Int) != ((r_.spares.length:Nat):Int)))):Option Bool).bind fun o_31 =>
  (bif o_31 then
  some false
  else
  ((C4 n r_ a 0).bind fun o_60=>Ex.bind o_60 (fun r=>some r) fun s_61 =>
  some true)))
def IG (n:Nat)  : Option Af :=
  some (Af.mk ([Rg.mk 10 10,Rg.mk 5 15,Rg.mk 10 12]:List Rg) (Rg.mk 0 4) ([Ce.mk 0 (Rg.mk 0 0),Ce.mk 0 (Rg.mk 10 20)]:List Ce) ([Az.mk 2 40]:List Az) 5 37 0 50)
def No (n:Nat)  : Option As :=
  some (As.mk ([0,0]:List Int) ([(-1),(-1)]:List Int) ([false]:List Bool))
def Np (n:Nat)  : Option As :=
  some (As.mk ([0,1]:List Int) ([(-1),(-1)]:List Int) ([false]:List Bool))
def DA:Nat→Af→(List Rg)→Int→Option (List Rg)
  | 0,_,_,_=>none
  | n+1,r_,x_v10,x_v11 =>
    (bif decide (x_v11<((r_.legs.length:Nat):Int)) then
    ((Cr r_.legs x_v11).bind fun x31 =>
    ((IF n x31).bind fun x33 =>
    ((IU x_v10 ([x33]:List Rg)).bind fun x35 =>
    DA n r_ x35 (IntKind.i64.wrap (x_v11+1)))))
    else
    some x_v10)
def DB:Nat→Af→(List Ce)→Int→Option (List Ce)
  | 0,_,_,_=>none
  | n+1,r_,x_v20,x_v21 =>
    (bif decide (x_v21<((r_.buses.length:Nat):Int)) then
    ((Cr r_.buses x_v21).bind fun x49 =>
    ((Cr r_.buses x_v21).bind fun x55 =>
    ((IF n x55.tm).bind fun x58 =>
    ((IU x_v20 ([Ce.mk x49.stop x58]:List Ce)).bind fun x61 =>
    DB n r_ x61 (IntKind.i64.wrap (x_v21+1))))))
    else
    some x_v20)
def DC:Nat→Af→(List Az)→Int→Option (List Az)
  | 0,_,_,_=>none
  | n+1,r_,x_v30,x_v31 =>
    (bif decide (x_v31<((r_.spares.length:Nat):Int)) then
    ((Cr r_.spares x_v31).bind fun x75 =>
    ((Cr r_.spares x_v31).bind fun x81 =>
    ((IU x_v30 ([Az.mk x75.stop x81.tm]:List Az)).bind fun x86 =>
    DC n r_ x86 (IntKind.i64.wrap (x_v31+1)))))
    else
    some x_v30)
def DP (n:Nat) (r_:Af):Option Af :=
  ((IF n r_.turn).bind fun x9 =>
  ((DA n r_ ([]:List Rg) 0).bind fun o_50 =>
  ((DB n r_ ([]:List Ce) 0).bind fun o_133 =>
  ((DC n r_ ([]:List Az) 0).bind fun o_232 =>
  some (Af.mk o_50 x9 o_133 o_232 r_.unit r_.gap r_.fr r_.to_)))))
def DD:Nat→Av→(List (List Int))→Int→Option (List (List Int))
  | 0,_,_,_=>none
  | n+1,t_,x_v10,x_v11 =>
    (bif decide (x_v11<((t_.legs.length:Nat):Int)) then
    ((Cr t_.legs x_v11).bind fun x24 =>
    ((Fc n x24).bind fun x26 =>
    ((IU x_v10 ([x26]:List (List Int))).bind fun x28 =>
    DD n t_ x28 (IntKind.i64.wrap (x_v11+1)))))
    else
    some x_v10)
def ES (n:Nat) (t_:Av):Option Av :=
  ((Fc n t_.tm).bind fun x7 =>
  ((Fc n t_.turns).bind fun x10 =>
  ((DD n t_ ([]:List (List Int)) 0).bind fun o_56 =>
  some (Av.mk x7 x10 o_56))))
def Er:Nat→Av→Int→Option (Ex Bool Unit)
  | 0,_,_=>none
  | n+1,t_,x_v10 =>
    (((bif decide (x_v10<((t_.legs.length:Nat):Int)) then
    some (decide (x_v10<9))
    else
    some false):Option Bool).bind fun o_48 =>
    (bif o_48 then
    ((Cr t_.legs x_v10).bind fun x20 =>
    (bif decide (((x20.length:Nat):Int)>10) then
    some (Ex.ret false)
    else
    Er n t_ (IntKind.i64.wrap (x_v10+1))))
    else
    some (Ex.go ())))
def J2 (n:Nat) (a:As) (t_:Av):Option Bool :=
  ((Er n t_ 0).bind fun o_34=>Ex.bind o_34 (fun r=>some r) fun s_35 =>
  (bif decide (((a.holds.length:Nat):Int)≤8) then
  (bif decide (((a.turns.length:Nat):Int)≤8) then
  (bif decide (((a.spares.length:Nat):Int)≤8) then
  (bif decide (((t_.tm.length:Nat):Int)≤8) then
  (bif decide (((t_.turns.length:Nat):Int)≤8) then
  some (decide (((t_.legs.length:Nat):Int)≤8))
  else
  some false)
  else
  some false)
  else
  some false)
  else
  some false)
  else
  some false))
def J3 (n:Nat) (r_:Af) (a:As):Option Int :=
  ((Gy n r_).bind fun x7 =>
  (bif (x7 != 0) then
  some x7
  else
  ((FT n r_ a).bind fun x13 =>
  (bif (!x13) then
  some 2
  else
  some 0))))
def Hx (n:Nat) (r_:Af) (a:As):Option Bool :=
  ((KB n r_).bind fun x6 =>
  (bif x6 then
  ((J2 n a (Av.mk ([]:List Int) ([]:List Int) ([]:List (List Int)))).bind fun x10 =>
  (bif x10 then
  ((J3 n r_ a).bind fun x15 =>
  some (x15 == 0))
  else
  some false))
  else
  some false))
def G9 (n:Nat) (r_:Rg) (words:List (IK .u16)) (at_:Int):Option Int :=
  (bif (((words.length:Nat):Int) == 0) then
  some r_.hi
  else
  ((nz ((words.length:Nat):Int)).bind fun x17 =>
  ((Cr words (Int.tmod at_ ((words.length:Nat):Int))).bind fun x18 =>
  (bif ((Int.tmod (IntKind.i64.wrap x18.n) 4) == 0) then
  some r_.lo
  else
  (bif ((Int.tmod (IntKind.i64.wrap x18.n) 4) == 1) then
  some r_.hi
  else
  ((nz (IntKind.i64.wrap ((IntKind.i64.wrap (r_.hi-r_.lo))+1))).bind fun x40 =>
  some (IntKind.i64.wrap (r_.lo+(Int.tmod (IntKind.i64.wrap x18.n) (IntKind.i64.wrap ((IntKind.i64.wrap (r_.hi-r_.lo))+1)))))))))))
def Dh:Nat→Af→(List (IK .u16))→Int→(List Int)→Int→Option (List Int)
  | 0,_,_,_,_,_=>none
  | n+1,r_,words,x_v13,x_v20,x_v21 =>
    (bif decide (x_v21<((r_.legs.length:Nat):Int)) then
    ((Cr r_.legs x_v21).bind fun x31 =>
    ((G9 n x31 words (IntKind.i64.wrap ((IntKind.i64.wrap (9*x_v13))+x_v21))).bind fun x38 =>
    ((IU x_v20 ([x38]:List Int)).bind fun x40 =>
    Dh n r_ words x_v13 x40 (IntKind.i64.wrap (x_v21+1)))))
    else
    some x_v20)
def CM:Nat→Af→(List (IK .u16))→(List Int)→(List Int)→(List (List Int))→Int→Option ((List Int)×(List Int)×(List (List Int)))
  | 0,_,_,_,_,_,_=>none
  | n+1,r_,words,x_v10,x_v11,x_v12,x_v13 =>
    (bif decide (x_v13<(IntKind.i64.wrap (((r_.buses.length:Nat):Int)+((r_.spares.length:Nat):Int)))) then
    ((Dh n r_ words x_v13 ([]:List Int) 0).bind fun o_90 =>
    ((IU x_v12 ([o_90]:List (List Int))).bind fun x45 =>
    (bif decide (x_v13<((r_.buses.length:Nat):Int)) then
    ((Cr r_.buses x_v13).bind fun x57 =>
    ((G9 n x57.tm words (IntKind.i64.wrap ((IntKind.i64.wrap (9*x_v13))+7))).bind fun x64 =>
    ((IU x_v10 ([x64]:List Int)).bind fun x66 =>
    ((G9 n r_.turn words (IntKind.i64.wrap ((IntKind.i64.wrap (9*x_v13))+8))).bind fun x75 =>
    ((IU x_v11 ([x75]:List Int)).bind fun x77 =>
    CM n r_ words x66 x77 x45 (IntKind.i64.wrap (x_v13+1)))))))
    else
    CM n r_ words x_v10 x_v11 x45 (IntKind.i64.wrap (x_v13+1)))))
    else
    some (x_v10,x_v11,x_v12))
def F6 (n:Nat) (r_:Af) (words:List (IK .u16)):Option Av :=
  ((CM n r_ words ([]:List Int) ([]:List Int) ([]:List (List Int)) 0).bind fun o_59 =>
  some (Av.mk o_59.1 o_59.2.1 o_59.2.2))
def Bh (n:Nat) (n_:Int) (low:Int) (high:Int):Option Bool :=
  (bif decide (low≤n_) then
  some (decide (n_≤high))
  else
  some false)
def C5 (n:Nat) (n_:Int):Option Bool :=
  ((Bh n n_ 0 2000).bind fun x4 =>
  some x4)
def Bg (n:Nat) (r_:Af):Option Int :=
  some (IntKind.i64.wrap (((r_.legs.length:Nat):Int)+1))
def BD (n:Nat) (r_:Af):Option Int :=
  ((Bg n r_).bind fun x4 =>
  some (IntKind.i64.wrap (Int.tdiv x4 2)))
def BS (n:Nat) (r_:Af) (n_:Int):Option Bool :=
  ((Bg n r_).bind fun x7 =>
  ((Bh n n_ 0 (IntKind.i64.wrap (x7-1))).bind fun x9 =>
  some x9))
def Ct (n:Nat) (r_:Rg) (most:Int):Option Bool :=
  (bif decide (0≤r_.lo) then
  (bif decide (r_.lo≤r_.hi) then
  some (decide (r_.hi≤most))
  else
  some false)
  else
  some false)
def B0 (n:Nat) (r_:Rg):Option Bool :=
  ((Ct n r_ 300).bind fun x4 =>
  some x4)
def Cg (n:Nat) (r_:Rg) (n_:Int):Option Bool :=
  ((Bh n n_ r_.lo r_.hi).bind fun x10 =>
  some x10)
def Ch (n:Nat) (r_:Rg):Option Int :=
  some r_.lo
def BT (n:Nat) (r_:Rg):Option Int :=
  some r_.hi
def A4 (n:Nat) (r_:Af) (n_:Int):Option Bool :=
  ((Bh n n_ r_.fr r_.to_).bind fun x10 =>
  some x10)
def Cp (n:Nat) (r_:Af) (b:Ce) (at_:Int):Option Bool :=
  (bif (at_ == (-1)) then
  some true
  else
  ((BD n r_).bind fun x14 =>
  ((Bh n at_ b.stop (IntKind.i64.wrap (x14-2))).bind fun x16 =>
  some x16)))
def Bs:Nat→Af→Av→Int→Option (Ex Bool Unit)
  | 0,_,_,_=>none
  | n+1,r_,t_,x_v10 =>
    (bif decide (x_v10<((r_.buses.length:Nat):Int)) then
    ((Cr r_.buses x_v10).bind fun x46 =>
    ((Cr t_.tm x_v10).bind fun x53 =>
    ((Cg n x46.tm x53).bind fun x55 =>
    (bif (!x55) then
    some (Ex.ret false)
    else
    ((Cr t_.turns x_v10).bind fun x63 =>
    ((Cg n r_.turn x63).bind fun x65 =>
    (bif (!x65) then
    some (Ex.ret false)
    else
    Bs n r_ t_ (IntKind.i64.wrap (x_v10+1)))))))))
    else
    some (Ex.go ()))
def Bt:Nat→Af→(List Int)→Int→Option (Ex Bool Unit)
  | 0,_,_,_=>none
  | n+1,r_,x74,x_v30 =>
    (bif decide (x_v30<((x74.length:Nat):Int)) then
    ((Cr x74 x_v30).bind fun x87 =>
    ((Cr r_.legs x_v30).bind fun x92 =>
    ((Cg n x92 x87).bind fun x95 =>
    (bif (!x95) then
    some (Ex.ret false)
    else
    Bt n r_ x74 (IntKind.i64.wrap (x_v30+1))))))
    else
    some (Ex.go ()))
def Bu:Nat→Af→Av→Int→Option (Ex Bool Unit)
  | 0,_,_,_=>none
  | n+1,r_,t_,x_v20 =>
    (bif decide (x_v20<((t_.legs.length:Nat):Int)) then
    ((Cr t_.legs x_v20).bind fun x74 =>
    (bif (((x74.length:Nat):Int) != ((r_.legs.length:Nat):Int)) then
    some (Ex.ret false)
    else
    ((Bt n r_ x74 0).bind fun o_217=>Ex.bind o_217 (fun r=>some (Ex.ret r)) fun s_218 =>
    Bu n r_ t_ (IntKind.i64.wrap (x_v20+1)))))
    else
    some (Ex.go ()))
def CF (n:Nat) (r_:Af) (t_:Av):Option Bool :=
  (((bif (((t_.tm.length:Nat):Int) != ((r_.buses.length:Nat):Int)) then
  some true
  else
  (bif (((t_.turns.length:Nat):Int) != ((r_.buses.length:Nat):Int)) then
  some true
  else
  some (((t_.legs.length:Nat):Int) != (IntKind.i64.wrap (((r_.buses.length:Nat):Int)+((r_.spares.length:Nat):Int)))))):Option Bool).bind fun o_31 =>
  (bif o_31 then
  some false
  else
  ((Bs n r_ t_ 0).bind fun o_60=>Ex.bind o_60 (fun r=>some r) fun s_61 =>
  ((Bu n r_ t_ 0).bind fun o_175=>Ex.bind o_175 (fun r=>some r) fun s_176 =>
  some true))))
def Bi:Nat→AL→Av→(List AX)→(List Ax)→Int→Option ((List AX)×(List Ax))
  | 0,_,_,_,_,_=>none
  | n+1,w_,t_,x_v10,x_v11,x_v12 =>
    (bif decide (x_v12<((w_.route.buses.length:Nat):Int)) then
    ((Cr w_.route.buses x_v12).bind fun x17 =>
    ((Cr t_.tm x_v12).bind fun x25 =>
    ((Cr w_.acts.holds x_v12).bind fun x31 =>
    ((Cr w_.acts.turns x_v12).bind fun x42 =>
    ((IU x_v10 ([AX.mk x17.stop (IntKind.i64.wrap (x25+(IntKind.i64.wrap (x31*w_.route.unit)))) x42]:List AX)).bind fun x46 =>
    ((Cr t_.legs x_v12).bind fun x51 =>
    ((Cr t_.turns x_v12).bind fun x56 =>
    ((IU x_v11 ([Ax.mk x51 x56]:List Ax)).bind fun x60 =>
    Bi n w_ t_ x46 x60 (IntKind.i64.wrap (x_v12+1))))))))))
    else
    some (x_v10,x_v11))
def AZ:Nat→AL→Av→(List AX)→(List Ax)→Int→Option ((List AX)×(List Ax))
  | 0,_,_,_,_,_=>none
  | n+1,w_,t_,x_v20,x_v21,x_v22 =>
    (bif decide (x_v22<((w_.route.spares.length:Nat):Int)) then
    ((Cr w_.route.spares x_v22).bind fun x69 =>
    ((Cr w_.acts.spares x_v22).bind fun x75 =>
    (bif x75 then
    ((IU x_v20 ([AX.mk x69.stop x69.tm (-1)]:List AX)).bind fun x84 =>
    ((Cr t_.legs (IntKind.i64.wrap (((w_.route.buses.length:Nat):Int)+x_v22))).bind fun x94 =>
    ((IU x_v21 ([Ax.mk x94 0]:List Ax)).bind fun x98 =>
    AZ n w_ t_ x84 x98 (IntKind.i64.wrap (x_v22+1)))))
    else
    AZ n w_ t_ x_v20 x_v21 (IntKind.i64.wrap (x_v22+1)))))
    else
    some (x_v20,x_v21))
def BE (n:Nat) (w_:AL) (t_:Av):Option ((List AX)×(List Ax)) :=
  ((Bi n w_ t_ ([]:List AX) ([]:List Ax) 0).bind fun o_63 =>
  ((AZ n w_ t_ o_63.1 o_63.2 0).bind fun o_248 =>
  some (o_248.1,o_248.2)))
def B4 (n:Nat) (b:Ce) (q0:Af):Option Bool :=
  ((BS n q0 b.stop).bind fun x7 =>
  (bif x7 then
  ((Ct n b.tm 2000).bind fun x11 =>
  some x11)
  else
  some false))
def B5 (n:Nat) (s:Az) (q0:Af):Option Bool :=
  ((BS n q0 s.stop).bind fun x7 =>
  (bif x7 then
  ((C5 n s.tm).bind fun x11 =>
  some x11)
  else
  some false))
def Aq:Nat→(List Rg)→(Rg→Option Bool)→Int→Option (Ex Int Unit)
  | 0,_,_,_=>none
  | n+1,s,f,x_v10 =>
    (bif decide (x_v10<((s.length:Nat):Int)) then
    ((Cr s x_v10).bind fun x14 =>
    ((f x14).bind fun x16 =>
    (bif x16 then
    some (Ex.ret x_v10)
    else
    Aq n s f (IntKind.i64.wrap (x_v10+1)))))
    else
    some (Ex.go ()))
def AE (n:Nat) (s:List Rg) (f:Rg→Option Bool):Option Int :=
  ((Aq n s f 0).bind fun o_6=>Ex.bind o_6 (fun r=>some r) fun s_7 =>
  some (-1))
def At:Nat→(List Ce)→(Ce→Option Bool)→Int→Option (Ex Int Unit)
  | 0,_,_,_=>none
  | n+1,s,f,x_v10 =>
    (bif decide (x_v10<((s.length:Nat):Int)) then
    ((Cr s x_v10).bind fun x14 =>
    ((f x14).bind fun x16 =>
    (bif x16 then
    some (Ex.ret x_v10)
    else
    At n s f (IntKind.i64.wrap (x_v10+1)))))
    else
    some (Ex.go ()))
def AY (n:Nat) (s:List Ce) (f:Ce→Option Bool):Option Int :=
  ((At n s f 0).bind fun o_6=>Ex.bind o_6 (fun r=>some r) fun s_7 =>
  some (-1))
def Ar:Nat→(List Az)→(Az→Option Bool)→Int→Option (Ex Int Unit)
  | 0,_,_,_=>none
  | n+1,s,f,x_v10 =>
    (bif decide (x_v10<((s.length:Nat):Int)) then
    ((Cr s x_v10).bind fun x14 =>
    ((f x14).bind fun x16 =>
    (bif x16 then
    some (Ex.ret x_v10)
    else
    Ar n s f (IntKind.i64.wrap (x_v10+1)))))
    else
    some (Ex.go ()))
def AF (n:Nat) (s:List Az) (f:Az→Option Bool):Option Int :=
  ((Ar n s f 0).bind fun o_6=>Ex.bind o_6 (fun r=>some r) fun s_7 =>
  some (-1))
def A8 (n:Nat) (s:List Rg) (f:Rg→Option Bool):Option Bool :=
  ((AE n s f).bind fun x7 =>
  some (decide (x7≥0)))
def AJ (n:Nat) (s:List Ce) (f:Ce→Option Bool):Option Bool :=
  ((AY n s f).bind fun x7 =>
  some (decide (x7≥0)))
def A9 (n:Nat) (s:List Az) (f:Az→Option Bool):Option Bool :=
  ((AF n s f).bind fun x7 =>
  some (decide (x7≥0)))
def AM (n:Nat) (x:Rg) (q0:Rg→Option Bool):Option Bool :=
  ((q0 x).bind fun x6 =>
  some (!x6))
def Bc (n:Nat) (x:Ce) (q0:Ce→Option Bool):Option Bool :=
  ((q0 x).bind fun x6 =>
  some (!x6))
def AN (n:Nat) (x:Az) (q0:Az→Option Bool):Option Bool :=
  ((q0 x).bind fun x6 =>
  some (!x6))
def BJ (n:Nat) (l:List Rg) (right:Rg→Option Bool):Option Bool :=
  ((A8 n l (fun(y0:Rg)=>AM n y0 right)).bind fun x7 =>
  some (!x7))
def BW (n:Nat) (l:List Ce) (right:Ce→Option Bool):Option Bool :=
  ((AJ n l (fun(y0:Ce)=>Bc n y0 right)).bind fun x7 =>
  some (!x7))
def BK (n:Nat) (l:List Az) (right:Az→Option Bool):Option Bool :=
  ((A9 n l (fun(y0:Az)=>AN n y0 right)).bind fun x7 =>
  some (!x7))
def BL (n:Nat) (r_:Af):Option Int :=
  (((bif decide (((r_.buses.length:Nat):Int)>4) then
  some true
  else
  some (decide (((r_.spares.length:Nat):Int)>2))):Option Bool).bind fun o_31 =>
  (bif o_31 then
  some 3
  else
  (((bif ((Int.tmod ((r_.legs.length:Nat):Int) 2) == 0) then
  some true
  else
  ((BD n r_).bind fun x26 =>
  (bif decide (x26>4) then
  some true
  else
  ((BJ n r_.legs (fun(y0:Rg)=>B0 n y0)).bind fun x32 =>
  (bif (!x32) then
  some true
  else
  ((B0 n r_.turn).bind fun x38 =>
  (bif (!x38) then
  some true
  else
  ((BW n r_.buses (fun(y0:Ce)=>B4 n y0 r_)).bind fun x45 =>
  (bif (!x45) then
  some true
  else
  ((BK n r_.spares (fun(y0:Az)=>B5 n y0 r_)).bind fun x52 =>
  some (!x52))))))))))):Option Bool).bind fun o_50 =>
  (bif o_50 then
  some 1
  else
  ((Bh n r_.unit 1 30).bind fun x58 =>
  (bif (!x58) then
  some 1
  else
  ((C5 n r_.gap).bind fun x63 =>
  (bif (!x63) then
  some 1
  else
  ((C5 n r_.fr).bind fun x69 =>
  (bif (!x69) then
  some 1
  else
  ((C5 n r_.to_).bind fun x75 =>
  (bif (!x75) then
  some 1
  else
  (bif decide (r_.fr>r_.to_) then
  some 1
  else
  some 0)))))))))))))
def B6:Nat→Af→As→Int→Option (Ex Int Unit)
  | 0,_,_,_=>none
  | n+1,r_,a,x_v10 =>
    (bif decide (x_v10<((r_.buses.length:Nat):Int)) then
    ((Cr r_.buses x_v10).bind fun x44 =>
    ((Cr a.holds x_v10).bind fun x49 =>
    ((Bh n x49 0 2).bind fun x51 =>
    (bif (!x51) then
    some (Ex.ret 2)
    else
    ((Cr a.turns x_v10).bind fun x59 =>
    ((Cp n r_ x44 x59).bind fun x61 =>
    (bif (!x61) then
    some (Ex.ret 2)
    else
    B6 n r_ a (IntKind.i64.wrap (x_v10+1)))))))))
    else
    some (Ex.go ()))
def Cu (n:Nat) (r_:Af) (a:As):Option Int :=
  ((BL n r_).bind fun x9 =>
  (bif (x9 != 0) then
  some x9
  else
  (((bif (((a.holds.length:Nat):Int) != ((r_.buses.length:Nat):Int)) then
  some true
  else
  (bif (((a.turns.length:Nat):Int) != ((r_.buses.length:Nat):Int)) then
  some true
  else
  some (((a.spares.length:Nat):Int) != ((r_.spares.length:Nat):Int)))):Option Bool).bind fun o_48 =>
  (bif o_48 then
  some 2
  else
  ((B6 n r_ a 0).bind fun o_77=>Ex.bind o_77 (fun r=>some r) fun s_78 =>
  some 0)))))
def Bp (n:Nat) (s:List Int):Option (List Int) :=
  ((IU ([]:List Int) s).bind fun x7 =>
  some x7)
def Ci (n:Nat) (s:List Bool):Option (List Bool) :=
  ((IU ([]:List Bool) s).bind fun x7 =>
  some x7)
def Cs:Nat→(List Int)→Int→Int→Option Int
  | 0,_,_,_=>none
  | n+1,x,x_v10,x_v11 =>
    (bif decide (x_v10<((x.length:Nat):Int)) then
    ((Cr x x_v10).bind fun x21 =>
    Cs n x (IntKind.i64.wrap (x_v10+1)) (if x21>x_v11 then x21 else x_v11))
    else
    some x_v11)
def EJ (n:Nat) (x:List Int):Option Int :=
  (bif decide (((x.length:Nat):Int)<1) then
  none
  else
  ((Cr x 0).bind fun x10 =>
  ((Cs n x 1 x10).bind fun o_25 =>
  some o_25)))
def BP:Nat→(List Int)→Int→Int→Option Int
  | 0,_,_,_=>none
  | n+1,x,x_v10,x_v11 =>
    (bif decide (x_v10<((x.length:Nat):Int)) then
    ((Cr x x_v10).bind fun x21 =>
    BP n x (IntKind.i64.wrap (x_v10+1)) (if x21<x_v11 then x21 else x_v11))
    else
    some x_v11)
def DE (n:Nat) (x:List Int):Option Int :=
  (bif decide (((x.length:Nat):Int)<1) then
  none
  else
  ((Cr x 0).bind fun x10 =>
  ((BP n x 1 x10).bind fun o_25 =>
  some o_25)))
def GA (n:Nat) (l:List Int):Option Int :=
  ((EJ n l).bind fun x4 =>
  some x4)
def Cv (n:Nat) (l:List Int):Option Int :=
  ((DE n l).bind fun x4 =>
  some x4)
def B7:Nat→Af→Rj→(List Int)→Int→Option (List Int)
  | 0,_,_,_,_=>none
  | n+1,r_,e,x_v10,x_v11 =>
    (bif decide (x_v11<((r_.legs.length:Nat):Int)) then
    ((Cr r_.legs x_v11).bind fun x15 =>
    ((e.of_ x15).bind fun x21 =>
    ((IU x_v10 ([x21]:List Int)).bind fun x23 =>
    B7 n r_ e x23 (IntKind.i64.wrap (x_v11+1)))))
    else
    some x_v10)
def B8:Nat→Af→Rj→(List Int)→(List Int)→(List Int)→(List (List Int))→Int→Option ((List Int)×(List Int)×(List Int)×(List (List Int)))
  | 0,_,_,_,_,_,_,_=>none
  | n+1,r_,e,x_v20,x_v21,x_v22,x_v23,x_v24 =>
    (bif decide (x_v24<((r_.buses.length:Nat):Int)) then
    ((Cr r_.buses x_v24).bind fun x30 =>
    ((e.of_ x30.tm).bind fun x38 =>
    ((IU x_v21 ([x38]:List Int)).bind fun x40 =>
    ((e.of_ r_.turn).bind fun x47 =>
    ((IU x_v22 ([x47]:List Int)).bind fun x49 =>
    ((Bp n x_v20).bind fun x53 =>
    ((IU x_v23 ([x53]:List (List Int))).bind fun x55 =>
    B8 n r_ e x_v20 x40 x49 x55 (IntKind.i64.wrap (x_v24+1)))))))))
    else
    some (x_v20,x_v21,x_v22,x_v23))
def B9:Nat→Af→(List Int)→(List (List Int))→Int→Option ((List Int)×(List (List Int)))
  | 0,_,_,_,_=>none
  | n+1,r_,x_v30,x_v31,x_v32 =>
    (bif decide (x_v32<((r_.spares.length:Nat):Int)) then
    ((Bp n x_v30).bind fun x68 =>
    ((IU x_v31 ([x68]:List (List Int))).bind fun x70 =>
    B9 n r_ x_v30 x70 (IntKind.i64.wrap (x_v32+1))))
    else
    some (x_v30,x_v31))
def Cw (n:Nat) (r_:Af) (e:Rj):Option Av :=
  ((B7 n r_ e ([]:List Int) 0).bind fun o_45 =>
  ((B8 n r_ e o_45 ([]:List Int) ([]:List Int) ([]:List (List Int)) 0).bind fun o_163 =>
  ((B9 n r_ o_163.1 o_163.2.2.2 0).bind fun o_561 =>
  some (Av.mk o_163.2.1 o_163.2.2.1 o_561.2))))
def AH {σ:Type}:Nat→(σ→Int→Int→Option (σ×Bool))→AX→Af→Ax→Int→Int→σ→Option (Ex σ σ)
  | 0,_,_,_,_,_,_,_=>none
  | n+1,yield_,q0,q1,q2,x_v10,x_v11,x_v12 =>
    ((((BS n q1 x_v11).bind fun x13 =>
    (bif x13 then
    ((yield_ x_v12 x_v11 x_v10).bind fun x18 =>
    some (x18.2,x18.1))
    else
    some (false,x_v12))):Option (Bool×σ)).bind fun o_36 =>
    (bif o_36.1 then
    (bif (x_v11 == q0.turned) then
    ((Bg n q1).bind fun x26 =>
    AH n yield_ q0 q1 q2 (IntKind.i64.wrap (x_v10+q2.turn)) (IntKind.i64.wrap ((IntKind.i64.wrap (x26-1))-x_v11)) o_36.2)
    else
    (bif decide (x_v11<((q2.legs.length:Nat):Int)) then
    ((Cr q2.legs x_v11).bind fun x44 =>
    AH n yield_ q0 q1 q2 (IntKind.i64.wrap (x_v10+x44)) (IntKind.i64.wrap (x_v11+1)) o_36.2)
    else
    some (Ex.ret o_36.2)))
    else
    some (Ex.go o_36.2)))
def AO {σ:Type} (n:Nat) (yield_:σ→Int→Int→Option (σ×Bool)) (s:σ) (q0:AX) (q1:Af) (q2:Ax):Option σ :=
  ((AH n yield_ q0 q1 q2 q0.tm q0.stop s).bind fun o_22=>Ex.bind o_22 (fun r=>some r) fun s_23 =>
  some s_23)
def BU (n:Nat) (d:An) (r_:Af):Option As :=
  ((N6 ([d.holds.a0,d.holds.a1,d.holds.a2,d.holds.a3]:List Int) ((r_.buses.length:Nat):Int)).bind fun x9 =>
  ((N6 ([d.turns.a0,d.turns.a1,d.turns.a2,d.turns.a3]:List Int) ((r_.buses.length:Nat):Int)).bind fun x15 =>
  ((N6 ([d.spares.a0,d.spares.a1]:List Bool) ((r_.spares.length:Nat):Int)).bind fun x21 =>
  ((Bp n x9).bind fun x10 =>
  ((Bp n x15).bind fun x16 =>
  ((Ci n x21).bind fun x22 =>
  some (As.mk x10 x16 x22)))))))
def BF (n:Nat) (r_:Af) (x:AX) (t_:Ax):Option (AX×Af×Ax) :=
  some (x,r_,t_)
def AP:Nat→Af→(List Int)→(List (Int×Rg))→(((List Int)×(List (Int×Rg)))→Prop)→Prop
  | 0,_,_,_,_=>False
  | n+1,r_,x_v10,x_v11,K =>
    ((x_v11=[] →
    K (x_v10,x_v11))∧(∀ k_79 x_80 rem_82,List.Perm x_v11 ((k_79,x_80)::rem_82) →
    (∃ x29,((fun(y0:Int)=>A4 n r_ y0) x_80.lo)=some x29 ∧
    (bif x29 then
    (∃ x34,(IU x_v10 ([x_80.lo]:List Int))=some x34 ∧
    AP n r_ x34 rem_82 K)
    else
    AP n r_ x_v10 rem_82 K))))
def AQ:Nat→Int→Int→(List (Int×Rg))→((Int×(List (Int×Rg)))→Prop)→Prop
  | 0,_,_,_,_=>False
  | n+1,x42,x_v30,x_v31,K =>
    ((x_v31=[] →
    K (x_v30,x_v31))∧(∀ k_242 x_243 rem_245,List.Perm x_v31 ((k_242,x_243)::rem_245) →
    (bif decide (x_243.lo>x42) then
    (∃ x60,(Cv n ([x_v30,x_243.hi]:List Int))=some x60 ∧
    AQ n x42 x60 rem_245 K)
    else
    AQ n x42 x_v30 rem_245 K)))
def AR:Nat→Af→(E5 Int Rg)→((List Int)×(List (Int×Rg)))→(List Int)→Int→Int→Int→(((List Int)×Int×Int)→Prop)→Prop
  | 0,_,_,_,_,_,_,_,_=>False
  | n+1,r_,spans,s_59,x_v20,x_v21,x_v22,x_v23,K =>
    (bif decide (x_v21<((s_59.1.length:Nat):Int)) then
    (∃ x42,(Cr x_v20 x_v21)=some x42 ∧
    (AQ n x42 r_.to_ spans.l (fun s_222 =>
    (bif decide ((IntKind.i64.wrap (s_222.1-x42))>x_v23) then
    AR n r_ spans s_59 x_v20 (IntKind.i64.wrap (x_v21+1)) x42 (IntKind.i64.wrap (s_222.1-x42)) K
    else
    AR n r_ spans s_59 x_v20 (IntKind.i64.wrap (x_v21+1)) x_v22 x_v23 K))))
    else
    K (x_v20,x_v22,x_v23))
def E4 (n:Nat) (r_:Af) (spans:E5 Int Rg) (Q:Qw→Prop):Prop :=
  (AP n r_ ([r_.fr]:List Int) spans.l (fun s_59 =>
  (AR n r_ spans s_59 s_59.1 0 r_.fr 0 (fun s_170 =>
  Q (Qw.mk s_170.2.1 s_170.2.2)))))
def Ay (m to_:Int) (l:List (Int×Rg)):Int:=l.foldl (fun e p=>if p.2.lo>m then min e p.2.hi else e) to_
def Ef (r:Af) (l:List (Int×Rg)):List Int:=r.fr::(l.filter fun p=>decide (r.fr≤p.2.lo) && decide (p.2.lo≤r.to_)).map fun p=>p.2.lo
def BG (n:Nat) (r_:Af) (spans:E5 Int Rg):Option Int :=
  if 2*spans.l.length+20≤n∧spans.l.length<1000000 then some ((Ef r_ spans.l).foldl (fun b m=>max b (IntKind.i64.wrap (Ay m r_.to_ spans.l-m))) 0) else none
def Bj:Nat→(List (Option (List (Int×Rg))))→(List (Option (List (Int×Rg))))→Int→Option (List (Option (List (Int×Rg))))
  | 0,_,_,_=>none
  | n+1,x18,x_v10,x_v11 =>
    (bif decide (x_v11<((x18.length:Nat):Int)) then
    ((Cr x_v10 x_v11).bind fun x27 =>
    ((upd x_v10 x_v11 (some ([]:List (Int×Rg)))).bind fun u_114 =>
    Bj n x18 u_114 (IntKind.i64.wrap (x_v11+1))))
    else
    some x_v10)
def Bk:Nat→AL→((List AX)×(List Ax))→((List AX)×(List Ax))→(List (Option (List (Int×Rg))))→Int→Option (List (Option (List (Int×Rg))))
  | 0,_,_,_,_,_=>none
  | n+1,w_,x35,x44,x_v20,x_v21 =>
    (bif decide (x_v21<((x35.1.length:Nat):Int)) then
    ((Cr x35.1 x_v21).bind fun x52 =>
    ((Cr x35.2 x_v21).bind fun x59 =>
    ((BF n w_.route x52 x59).bind fun x61 =>
    ((AO n (fun(s:List (Option (List (Int×Rg))))(x62:Int)(x63:Int)=>((((Cr s x62).bind fun x66 =>
    (x66.bind fun m_359 =>
    ((upd s x62 (some (Fu m_359 x_v21 (Rg.mk x63 x63)))).bind fun u_366 =>
    some u_366))):Option (List (Option (List (Int×Rg))))).bind fun s1=>some (s1,true))) x_v20 x61.1 x61.2.1 x61.2.2).bind fun o_315 =>
    ((Cr x44.1 x_v21).bind fun x76 =>
    ((Cr x44.2 x_v21).bind fun x80 =>
    ((BF n w_.route x76 x80).bind fun x82 =>
    ((AO n (fun(s:List (Option (List (Int×Rg))))(x83:Int)(x84:Int)=>((((Cr s x83).bind fun x87 =>
    ((Cr s x83).bind fun x92 =>
    (x92.bind fun m_514 =>
    ((some (Gl m_514 x_v21 ((Rg.mk 0 0):Rg))).bind fun x95 =>
    (x87.bind fun m_527 =>
    ((upd s x83 (some (Fu m_527 x_v21 (Rg.mk x95.1.lo x84)))).bind fun u_534 =>
    some u_534)))))):Option (List (Option (List (Int×Rg))))).bind fun s1=>some (s1,true))) o_315 x82.1 x82.2.1 x82.2.2).bind fun o_456 =>
    Bk n w_ x35 x44 o_456 (IntKind.i64.wrap (x_v21+1))))))))))
    else
    some x_v20)
def BX (n:Nat) (w_:AL):Option (List (E5 Int Rg)) :=
  ((Bg n w_.route).bind fun x17 =>
  ((mk x17 (none:Option (List (Int×Rg)))).bind fun x18 =>
  ((Bj n x18 x18 0).bind fun o_76 =>
  ((Cw n w_.route (Rj.mk (fun(y0:Rg)=>Ch n y0))).bind fun x34 =>
  ((BE n w_ x34).bind fun x35 =>
  ((Cw n w_.route (Rj.mk (fun(y0:Rg)=>BT n y0))).bind fun x43 =>
  ((BE n w_ x43).bind fun x44 =>
  ((Bk n w_ x35 x44 o_76 0).bind fun o_227 =>
  ((List.mapM id o_227).bind fun l_579 =>
  some (l_579.map E5.mk))))))))))
def Bl:Nat→AL→(List (E5 Int Rg))→(List Int)→Int→Option (List Int)
  | 0,_,_,_,_=>none
  | n+1,w_,x6,x_v10,x_v11 =>
    (bif decide (x_v11<((x6.length:Nat):Int)) then
    ((Cr x6 x_v11).bind fun x10 =>
    ((BG n w_.route x10).bind fun x16 =>
    ((IU x_v10 ([x16]:List Int)).bind fun x19 =>
    Bl n w_ x6 x19 (IntKind.i64.wrap (x_v11+1)))))
    else
    some x_v10)
def BY (n:Nat) (w_:AL):Option (List Int) :=
  ((BX n w_).bind fun x6 =>
  ((Bl n w_ x6 ([]:List Int) 0).bind fun o_52 =>
  some o_52))
def Bv:Nat→Af→Int→(List (E5 Int Rg))→Int→Option Bool
  | 0,_,_,_,_=>none
  | n+1,r_,most,x17,x_v10 =>
    (bif decide (x_v10<((x17.length:Nat):Int)) then
    ((Cr x17 x_v10).bind fun x21 =>
    ((BG n r_ x21).bind fun x25 =>
    (bif decide (x25>most) then
    some false
    else
    Bv n r_ most x17 (IntKind.i64.wrap (x_v10+1)))))
    else
    some true)
def CG (n:Nat) (r_:Af) (d:An) (most:Int):Option Bool :=
  ((BU n d r_).bind fun x14 =>
  ((BX n (AL.mk r_ x14)).bind fun x17 =>
  ((Bv n r_ most x17 0).bind fun o_65 =>
  some o_65)))
mutual
def AS {σ:Type}:Nat→(σ→An→Bd→Option σ)→An→Bd→Int→Int→Af→Int→AK→σ→Option (AK×σ)
  | 0,_,_,_,_,_,_,_,_,_=>none
  | n+1,see_,d,c,at_,buses,r_,x_v10,x_v11,x_v12 =>
    (bif decide (x_v10<3) then
    ((UM 4 at_).bind fun x27 =>
    ((AK.setI x_v11 at_ x_v10).bind fun u_57 =>
    ((control_Route_every_1 n see_ (An.mk u_57 d.turns d.spares) (Bd.mk (IntKind.i64.wrap (c.number+(if 1<x_v10 then 1 else x_v10))) (IntKind.i64.wrap (c.sum+x_v10))) (IntKind.i64.wrap (at_+1)) buses r_ x_v12).bind fun x42 =>
    AS n see_ d c at_ buses r_ (IntKind.i64.wrap (x_v10+1)) u_57 x42)))
    else
    some (x_v11,x_v12))
def AB {σ:Type}:Nat→(σ→An→Bd→Option σ)→An→Bd→Int→Int→Af→Int→AK→σ→Option (AK×σ)
  | 0,_,_,_,_,_,_,_,_,_=>none
  | n+1,see_,d,c,at_,buses,r_,x_v20,x_v21,x_v22 =>
    ((BD n r_).bind fun x51 =>
    (bif decide (x_v20<x51) then
    ((Cr r_.buses (IntKind.i64.wrap (at_-buses))).bind fun x61 =>
    ((Cp n r_ x61 x_v20).bind fun x64 =>
    (bif x64 then
    ((UM 4 (IntKind.i64.wrap (at_-buses))).bind fun x70 =>
    ((AK.setI x_v21 (IntKind.i64.wrap (at_-buses)) x_v20).bind fun u_165 =>
    ((control_Route_every_1 n see_ (An.mk d.holds u_165 d.spares) (Bd.mk (IntKind.i64.wrap (c.number+(if 1<(IntKind.i64.wrap (x_v20+1)) then 1 else(IntKind.i64.wrap (x_v20+1))))) c.sum) (IntKind.i64.wrap (at_+1)) buses r_ x_v22).bind fun x84 =>
    AB n see_ d c at_ buses r_ (IntKind.i64.wrap (x_v20+1)) u_165 x84)))
    else
    AB n see_ d c at_ buses r_ (IntKind.i64.wrap (x_v20+1)) x_v21 x_v22)))
    else
    some (x_v21,x_v22)))
def AT {σ:Type}:Nat→(σ→An→Bd→Option σ)→An→Bd→Int→Int→Af→Int→AU→σ→Option (AU×σ)
  | 0,_,_,_,_,_,_,_,_,_=>none
  | n+1,see_,d,c,at_,buses,r_,x_v30,x_v31,x_v32 =>
    (bif decide (x_v30<2) then
    ((UM 2 (IntKind.i64.wrap (at_-(IntKind.i64.wrap (2*buses))))).bind fun x104 =>
    ((AU.setI x_v31 (IntKind.i64.wrap (at_-(IntKind.i64.wrap (2*buses)))) (x_v30 == 1)).bind fun u_241 =>
    ((control_Route_every_1 n see_ (An.mk d.holds d.turns u_241) (Bd.mk (IntKind.i64.wrap (c.number+x_v30)) c.sum) (IntKind.i64.wrap (at_+1)) buses r_ x_v32).bind fun x116 =>
    AT n see_ d c at_ buses r_ (IntKind.i64.wrap (x_v30+1)) u_241 x116)))
    else
    some (x_v31,x_v32))
def control_Route_every_1 {σ:Type}:Nat→(σ→An→Bd→Option σ)→An→Bd→Int→Int→Af→σ→Option σ
  | 0,_,_,_,_,_,_,_=>none
  | n+1,see_,d,c,at_,buses,r_,s =>
    (bif decide (at_<buses) then
    ((AS n see_ d c at_ buses r_ 0 d.holds s).bind fun o_33 =>
    some o_33.2)
    else
    (bif decide (at_<(IntKind.i64.wrap (2*buses))) then
    ((AB n see_ d c at_ buses r_ (-1) d.turns s).bind fun o_107 =>
    some o_107.2)
    else
    (bif decide (at_<(IntKind.i64.wrap ((IntKind.i64.wrap (2*buses))+((r_.spares.length:Nat):Int)))) then
    ((AT n see_ d c at_ buses r_ 0 d.spares s).bind fun o_217 =>
    some o_217.2)
    else
    ((see_ s d c).bind fun x16 =>
    some x16))))
end
def BM {σ:Type} (n:Nat) (see_:σ→An→Bd→Option σ) (r_:Af) (s:σ):Option σ :=
  ((control_Route_every_1 n see_ (An.mk (AK.mk 0 0 0 0) (AK.mk 0 0 0 0) (AU.mk false false)) (Bd.mk 0 0) 0 ((r_.buses.length:Nat):Int) r_ s).bind fun x13 =>
  some x13)
def Cj (n:Nat) (d:An) (c:Bd) (found:Bool) (least:Bd) (best:An) (r_:Af):Option (Bool×Bd×An) :=
  (((bif found then
  (bif ((c.number == least.number) && ((c.sum == least.sum) && true)) then
  some true
  else
  (bif decide (c.number>least.number) then
  some true
  else
  (bif (c.number == least.number) then
  some (decide (c.sum>least.sum))
  else
  some false)))
  else
  some false):Option Bool).bind fun o_21 =>
  (bif o_21 then
  some (found,least,best)
  else
  ((CG n r_ d r_.gap).bind fun x39 =>
  (bif x39 then
  some (true,c,d)
  else
  some (found,least,best)))))
def DV (h0:Ad) (b_found b_least b_best:Nat) (s:Bool×Bd×An) (F:Fr) (h:Ad):Prop:=Ad.le h0 h∧(b_found≠b_least∧b_found≠b_best∧b_least≠b_best∧True)∧(F.X b_found=some (.cells ([.bool s.1]:List Value).toArray 4 (0,0))∧∀ o,F.h b_found o=none)∧(F.X b_least=some (.cells ([.int .i64 s.2.1.number,.int .i64 s.2.1.sum]:List Value).toArray 104 (0,0))∧∀ o,F.h b_least o=none)∧(F.X b_best=some (.cells ([.int .i64 s.2.2.holds.a0,.int .i64 s.2.2.holds.a1,.int .i64 s.2.2.holds.a2,.int .i64 s.2.2.holds.a3,.int .i64 s.2.2.turns.a0,.int .i64 s.2.2.turns.a1,.int .i64 s.2.2.turns.a2,.int .i64 s.2.2.turns.a3,.bool s.2.2.spares.a0,.bool s.2.2.spares.a1]:List Value).toArray 102 (0,0))∧∀ o,F.h b_best o=none)∧True
def F7 (b_found b_least b_best:Nat) (b:Nat):Prop:=b=b_found∨b=b_least∨b=b_best
def C2 (n:Nat) (r_:Af):Option (As×Int) :=
  ((BL n r_).bind fun x9 =>
  (bif (x9 != 0) then
  some ((As.mk ([]:List Int) ([]:List Int) ([]:List Bool)),x9)
  else
  ((BM n (fun s y0 y1=>Cj n y0 y1 s.1 s.2.1 s.2.2 r_) r_ (false,Bd.mk 0 0,(An.mk (AK.mk 0 0 0 0) (AK.mk 0 0 0 0) (AU.mk false false)))).bind fun x16 =>
  (bif (!x16.1) then
  some ((As.mk ([]:List Int) ([]:List Int) ([]:List Bool)),9)
  else
  ((BU n x16.2.2 r_).bind fun x22 =>
  some (x22,0))))))
def DJ (n:Nat) (d:An) (p1:Bd) (least:Int) (tried:List (An×Int)) (r_:Af):Option ((List (An×Int))×Int) :=
  ((some (Gl tried d (0:Int))).bind fun x12 =>
  (bif (!x12.2) then
  ((BU n d r_).bind fun x22 =>
  ((BY n (AL.mk r_ x22)).bind fun x24 =>
  ((GA n x24).bind fun x25 =>
  ((some (Gl (Fu tried d x25) d (0:Int))).bind fun x29 =>
  ((Cv n ([least,x29.1]:List Int)).bind fun x31 =>
  some ((Fu tried d x25),x31))))))
  else
  ((some (Gl tried d (0:Int))).bind fun x29 =>
  ((Cv n ([least,x29.1]:List Int)).bind fun x31 =>
  some (tried,x31)))))
def DF (h0:Ad) (b_least bm_tried:Nat) (s:(List (An×Int))×Int) (F:Fr) (h:Ad):Prop:=Ad.le h0 h∧(b_least≠bm_tried∧True)∧∃ (es_137:Array MapEntry)(cl_138:Nat),(F.X b_least=some (.cells ([.int .i64 s.2]:List Value).toArray 3 (0,0))∧∀ o,F.h b_least o=none)∧F.X bm_tried=some (.map es_137 cl_138)∧DG h es_137.toList cl_138 s.1∧True
def Fd (b_least bm_tried:Nat) (b:Nat):Prop:=b=b_least∨b=bm_tried
def Hh (n:Nat) (r_:Af):Option (Int×Int) :=
  ((BL n r_).bind fun x8 =>
  (bif (x8 != 0) then
  some (0,x8)
  else
  ((BM n (fun s y0 y1=>DJ n y0 y1 s.2 s.1 r_) r_ (([]:List (An×Int)),IntKind.i64.wrap (r_.to_-r_.fr))).bind fun x20 =>
  some (x20.2,0))))
def Di (n:Nat) (r_:Af) (a:As):Option ((List Int)×Int) :=
  ((Cu n r_ a).bind fun x9 =>
  (bif (x9 != 0) then
  some (([]:List Int),x9)
  else
  ((BY n (AL.mk r_ a)).bind fun x16 =>
  some (x16,0))))
def F8 (n:Nat)  : Option Bool :=
  ((IG n ).bind fun x8 =>
  ((No n ).bind fun x9 =>
  ((Di n x8 x9).bind fun x10 =>
  ((IG n ).bind fun x14 =>
  ((C2 n x14).bind fun x15 =>
  ((IG n ).bind fun x19 =>
  ((Hh n x19).bind fun x20 =>
  (bif (x10.2 == 0) then
  ((FQ n x10.1 ([40,30,30,37]:List Int)).bind fun x28 =>
  (bif x28 then
  (bif (x15.2 == 0) then
  ((Np n ).bind fun x36 =>
  ((Hw n x15.1 x36).bind fun x37 =>
  (bif x37 then
  (bif (x20.2 == 0) then
  some (x20.1 == 35)
  else
  some false)
  else
  some false)))
  else
  some false)
  else
  some false))
  else
  some false))))))))
def Bm:Nat→AL→(List (List Int))→(List (List Int))→Int→Option (List (List Int))
  | 0,_,_,_,_=>none
  | n+1,w_,x18,x_v10,x_v11 =>
    (bif decide (x_v11<((x18.length:Nat):Int)) then
    ((Cr x_v10 x_v11).bind fun x36 =>
    ((upd x_v10 x_v11 ([w_.route.fr,w_.route.to_]:List Int)).bind fun u_137 =>
    Bm n w_ x18 u_137 (IntKind.i64.wrap (x_v11+1))))
    else
    some x_v10)
def Bn:Nat→AL→((List AX)×(List Ax))→(List (List Int))→Int→Option (List (List Int))
  | 0,_,_,_,_=>none
  | n+1,w_,x41,x_v20,x_v21 =>
    (bif decide (x_v21<((x41.1.length:Nat):Int)) then
    ((Cr x41.1 x_v21).bind fun x49 =>
    ((Cr x41.2 x_v21).bind fun x56 =>
    ((BF n w_.route x49 x56).bind fun x58 =>
    ((AO n (fun(s:List (List Int))(x59:Int)(x60:Int)=>(((((fun(y0:Int)=>A4 n w_.route y0) x60).bind fun x63 =>
    (bif x63 then
    ((Cr s x59).bind fun x68 =>
    ((IU x68 ([x60]:List Int)).bind fun x72 =>
    ((Cr s x59).bind fun x73 =>
    ((upd s x59 x72).bind fun u_376 =>
    some u_376))))
    else
    some s)):Option (List (List Int))).bind fun s1=>some (s1,true))) x_v20 x58.1 x58.2.1 x58.2.2).bind fun o_286 =>
    Bn n w_ x41 o_286 (IntKind.i64.wrap (x_v21+1))))))
    else
    some x_v20)
def Bo:Nat→(List (List Int))→(List (List Int))→Int→Option (List (List Int))
  | 0,_,_,_=>none
  | n+1,o_204,x_v30,x_v31 =>
    (bif decide (x_v31<((o_204.length:Nat):Int)) then
    ((Cr x_v30 x_v31).bind fun x82 =>
    ((QJ x82).bind fun u_477 =>
    ((upd x_v30 x_v31 u_477).bind fun u_478 =>
    ((Cr u_478 x_v31).bind fun x89 =>
    ((QL x89).bind fun x91 =>
    ((Cr u_478 x_v31).bind fun x92 =>
    ((upd u_478 x_v31 x91).bind fun u_536 =>
    Bo n o_204 u_536 (IntKind.i64.wrap (x_v31+1)))))))))
    else
    some x_v30)
def C6 (n:Nat) (w_:AL) (t_:Av):Option (List (List Int)) :=
  ((Bg n w_.route).bind fun x17 =>
  ((mk x17 (([]:List Int):List Int)).bind fun x18 =>
  ((Bm n w_ x18 x18 0).bind fun o_95 =>
  ((BE n w_ t_).bind fun x41 =>
  ((Bn n w_ x41 o_95 0).bind fun o_204 =>
  ((Bo n o_204 o_204 0).bind fun o_440 =>
  some o_440))))))
def Dj (n:Nat) (r_:Af) (a:As) (t_:Av):Option ((List (List Int))×Int) :=
  ((Cu n r_ a).bind fun x11 =>
  (bif (x11 != 0) then
  some (([]:List (List Int)),x11)
  else
  ((CF n r_ t_).bind fun x17 =>
  (bif (!x17) then
  some (([]:List (List Int)),2)
  else
  ((C6 n (AL.mk r_ a) t_).bind fun x23 =>
  some (x23,0))))))
def B1:Nat→Af→(IK .u8)→(List Ce)→(List Int)→Int→Option ((List Ce)×(List Int))
  | 0,_,_,_,_,_=>none
  | n+1,r_,by_,x_v10,x_v11,x_v12 =>
    (bif decide (x_v12<((x_v10.length:Nat):Int)) then
    ((Cr r_.buses x_v12).bind fun x76 =>
    ((Cr r_.buses x_v12).bind fun x85 =>
    ((Cr x_v10 x_v12).bind fun x92 =>
    ((upd x_v10 x_v12 (Ce.mk x92.stop (Rg.mk (IntKind.i64.wrap (x76.tm.lo+(IntKind.i64.wrap by_.n))) (IntKind.i64.wrap (x85.tm.hi+(IntKind.i64.wrap by_.n)))))).bind fun u_280 =>
    ((Cr x_v11 x_v12).bind fun x97 =>
    ((Cr x_v11 x_v12).bind fun x101 =>
    ((upd x_v11 x_v12 (IntKind.i64.wrap (x97+(IntKind.i64.wrap by_.n)))).bind fun u_322 =>
    B1 n r_ by_ u_280 u_322 (IntKind.i64.wrap (x_v12+1)))))))))
    else
    some (x_v10,x_v11))
def B2:Nat→(IK .u8)→(List Az)→Int→Option (List Az)
  | 0,_,_,_=>none
  | n+1,by_,x_v20,x_v21 =>
    (bif decide (x_v21<((x_v20.length:Nat):Int)) then
    ((Cr x_v20 x_v21).bind fun x112 =>
    ((Cr x_v20 x_v21).bind fun x117 =>
    ((upd x_v20 x_v21 (Az.mk x117.stop (IntKind.i64.wrap (x112.tm+(IntKind.i64.wrap by_.n))))).bind fun u_399 =>
    B2 n by_ u_399 (IntKind.i64.wrap (x_v21+1)))))
    else
    some x_v20)
def BN:Nat→(IK .u8)→((List (List Int))×Int)→((List (List Int))×Int)→Int→Int→Option (Ex Bool Unit)
  | 0,_,_,_,_,_=>none
  | n+1,by_,x130,x140,x_v30,x_v40 =>
    ((Cr x130.1 x_v30).bind fun x229 =>
    (bif decide (x_v40<((x229.length:Nat):Int)) then
    ((Cr x140.1 x_v30).bind fun x237 =>
    ((Cr x237 x_v40).bind fun x240 =>
    ((Cr x130.1 x_v30).bind fun x244 =>
    ((Cr x244 x_v40).bind fun x247 =>
    (bif (x240 != (IntKind.i64.wrap (x247+(IntKind.i64.wrap by_.n)))) then
    some (Ex.ret false)
    else
    BN n by_ x130 x140 x_v30 (IntKind.i64.wrap (x_v40+1)))))))
    else
    some (Ex.go ())))
def B3:Nat→(IK .u8)→((List (List Int))×Int)→((List (List Int))×Int)→Int→Option (Ex Bool Unit)
  | 0,_,_,_,_=>none
  | n+1,by_,x130,x140,x_v30 =>
    (bif decide (x_v30<((x130.1.length:Nat):Int)) then
    ((Cr x130.1 x_v30).bind fun x217 =>
    ((Cr x140.1 x_v30).bind fun x222 =>
    (bif (((x217.length:Nat):Int) != ((x222.length:Nat):Int)) then
    some (Ex.ret false)
    else
    ((BN n by_ x130 x140 x_v30 0).bind fun o_949=>Ex.bind o_949 (fun r=>some (Ex.ret r)) fun s_950 =>
    B3 n by_ x130 x140 (IntKind.i64.wrap (x_v30+1))))))
    else
    some (Ex.go ()))
def Es (n:Nat) (r_:Af) (a:As) (words:List (IK .u16)) (by_:IK .u8):Option Bool :=
  ((Hx n r_ a).bind fun x31 =>
  (bif (!x31) then
  ((F8 n ).bind fun x33 =>
  some x33)
  else
  ((IU ([]:List Ce) r_.buses).bind fun x50 =>
  ((IU ([]:List Az) r_.spares).bind fun x54 =>
  ((F6 n r_ words).bind fun x59 =>
  ((F6 n r_ words).bind fun x62 =>
  ((B1 n r_ by_ x50 x62.tm 0).bind fun o_219 =>
  ((B2 n by_ x54 0).bind fun o_351 =>
  ((Gy n (Af.mk r_.legs r_.turn o_219.1 o_351 r_.unit r_.gap (IntKind.i64.wrap (r_.fr+(IntKind.i64.wrap by_.n))) (IntKind.i64.wrap (r_.to_+(IntKind.i64.wrap by_.n))))).bind fun x120 =>
  (bif (x120 != 0) then
  ((F8 n ).bind fun x122 =>
  some x122)
  else
  ((DP n r_).bind fun x125 =>
  ((FR n a).bind fun x127 =>
  ((ES n x59).bind fun x129 =>
  ((Dj n x125 x127 x129).bind fun x130 =>
  ((DP n (Af.mk r_.legs r_.turn o_219.1 o_351 r_.unit r_.gap (IntKind.i64.wrap (r_.fr+(IntKind.i64.wrap by_.n))) (IntKind.i64.wrap (r_.to_+(IntKind.i64.wrap by_.n))))).bind fun x135 =>
  ((FR n a).bind fun x137 =>
  ((ES n (Av.mk o_219.2 x62.turns x62.legs)).bind fun x139 =>
  ((Dj n x135 x137 x139).bind fun x140 =>
  ((DP n r_).bind fun x145 =>
  ((FR n a).bind fun x147 =>
  ((Di n x145 x147).bind fun x148 =>
  ((DP n (Af.mk r_.legs r_.turn o_219.1 o_351 r_.unit r_.gap (IntKind.i64.wrap (r_.fr+(IntKind.i64.wrap by_.n))) (IntKind.i64.wrap (r_.to_+(IntKind.i64.wrap by_.n))))).bind fun x153 =>
  ((FR n a).bind fun x155 =>
  ((Di n x153 x155).bind fun x156 =>
  ((DP n r_).bind fun x161 =>
  ((C2 n x161).bind fun x162 =>
  ((DP n (Af.mk r_.legs r_.turn o_219.1 o_351 r_.unit r_.gap (IntKind.i64.wrap (r_.fr+(IntKind.i64.wrap by_.n))) (IntKind.i64.wrap (r_.to_+(IntKind.i64.wrap by_.n))))).bind fun x167 =>
  ((C2 n x167).bind fun x168 =>
  (((bif (x130.2 != 0) then
  some true
  else
  (bif (x140.2 != 0) then
  some true
  else
  (bif (x148.2 != 0) then
  some true
  else
  (bif (x156.2 != 0) then
  some true
  else
  (bif (x162.2 != x168.2) then
  some true
  else
  ((Hw n x162.1 x168.1).bind fun x193 =>
  (bif (!x193) then
  some true
  else
  ((FQ n x148.1 x156.1).bind fun x199 =>
  (bif (!x199) then
  some true
  else
  some (((x130.1.length:Nat):Int) != ((x140.1.length:Nat):Int))))))))))):Option Bool).bind fun o_806 =>
  (bif o_806 then
  some false
  else
  ((B3 n by_ x130 x140 0).bind fun o_890=>Ex.bind o_890 (fun r=>some r) fun s_891 =>
  ((F8 n ).bind fun x252 =>
  some x252))))))))))))))))))))))))))))))))
abbrev XZ:=@Option.some.inj
abbrev XY:=@Exists.intro
abbrev XX:=@Option.bind_some
abbrev XW:=@cond_true
abbrev XV:=@cond_false
abbrev XU:=@Ad.le_trans
abbrev XT:=@wp_seq
end Go.Proofs.Ytokchpjijlebiaa
