/- What the functions compute, in plain Lean. -/
import Derived.Test.YtokchpjijlebiaaNQS7
import Derived.Test.YtokchpjijlebiaaProg
set_option linter.all false
namespace Go.Proofs.Ytokchpjijlebiaa
open Go Go.RowKit
open Rep (rep)
open KRep (kv)
open VRep (rv)
structure A0 where
  holds:List Int
  turns:List Int
  spares:List Bool
deriving DecidableEq,Inhabited
instance : Rep A0:=Rep.via fun x=>(x.holds,x.turns,x.spares)
instance : VRep A0:=VRep.agg A0
structure Rg where
  lo:Int
  hi:Int
deriving DecidableEq,Inhabited
instance : Rep Rg:=Rep.via fun x=>(x.lo,x.hi)
instance : VRep Rg:=VRep.agg Rg
structure Ct where
  stop:Int
  tm:Rg
deriving DecidableEq,Inhabited
instance : Rep Ct:=Rep.via fun x=>(x.stop,x.tm)
instance : VRep Ct:=VRep.agg Ct
structure AP where
  stop:Int
  tm:Int
deriving DecidableEq,Inhabited
instance : Rep AP:=Rep.via fun x=>(x.stop,x.tm)
instance : VRep AP:=VRep.agg AP
structure Ag where
  legs:List Rg
  turn:Rg
  buses:List Ct
  spares:List AP
  unit:Int
  gap:Int
  fr:Int
  to_:Int
deriving DecidableEq,Inhabited
instance : Rep Ag:=Rep.via fun x=>(x.legs,x.turn,x.buses,x.spares,x.unit,x.gap,x.fr,x.to_)
instance : VRep Ag:=VRep.agg Ag
structure AB where
  tm:List Int
  turns:List Int
  legs:List (List Int)
deriving DecidableEq,Inhabited
instance : Rep AB:=Rep.via fun x=>(x.tm,x.turns,x.legs)
instance : VRep AB:=VRep.agg AB
structure AC where
  route:Ag
  acts:A0
deriving DecidableEq,Inhabited
instance : Rep AC:=Rep.via fun x=>(x.route,x.acts)
instance : VRep AC:=VRep.agg AC
structure Bm where
  stop:Int
  tm:Int
  turned:Int
deriving DecidableEq,Inhabited
instance : Rep Bm:=Rep.via fun x=>(x.stop,x.tm,x.turned)
instance : VRep Bm:=VRep.agg Bm
structure A9 where
  legs:List Int
  turn:Int
deriving DecidableEq,Inhabited
instance : Rep A9:=Rep.via fun x=>(x.legs,x.turn)
instance : VRep A9:=VRep.agg A9
def Pb (h:Ad) (v:Value) (f:Rg→Option Bool):Prop:=∀ (h':Ad)(w':World),Ad.le h h'→Dv h' w'→∀ (x0:Rg)(cs0:List Value)(_:rep h' x0 cs0)(r:Bool),f x0=some r→Hg Try.prog v #[.agg cs0.toArray] w' (D6 (fun h v=>v=.bool r) h' w')
theorem Pb.mono {h h':Ad} {v:Value} {f:Rg→Option Bool} (H:Pb h v f) (hle:Ad.le h h'):Pb h' v f:=fun h2 w2 l=>H h2 w2 (Ad.le_trans hle l)
instance : Rep (Rg→Option Bool):=⟨1,fun h f cs=>∃ fn first cap,cs=[.func fn first cap]∧Pb h (.func fn first cap) f,fun hle ⟨a,b,c,e,hr⟩=>⟨a,b,c,e,hr.mono hle⟩,fun⟨a,b,c,e,_⟩=>by subst e; rfl,fun⟨a,b,c,e,_⟩ v hv=>by subst e; simp at hv; subst hv; rfl⟩
def Pc (h:Ad) (v:Value) (f:Ct→Option Bool):Prop:=∀ (h':Ad)(w':World),Ad.le h h'→Dv h' w'→∀ (x0:Ct)(cs0:List Value)(_:rep h' x0 cs0)(r:Bool),f x0=some r→Hg Try.prog v #[.agg cs0.toArray] w' (D6 (fun h v=>v=.bool r) h' w')
theorem Pc.mono {h h':Ad} {v:Value} {f:Ct→Option Bool} (H:Pc h v f) (hle:Ad.le h h'):Pc h' v f:=fun h2 w2 l=>H h2 w2 (Ad.le_trans hle l)
instance : Rep (Ct→Option Bool):=⟨1,fun h f cs=>∃ fn first cap,cs=[.func fn first cap]∧Pc h (.func fn first cap) f,fun hle ⟨a,b,c,e,hr⟩=>⟨a,b,c,e,hr.mono hle⟩,fun⟨a,b,c,e,_⟩=>by subst e; rfl,fun⟨a,b,c,e,_⟩ v hv=>by subst e; simp at hv; subst hv; rfl⟩
def Pd (h:Ad) (v:Value) (f:AP→Option Bool):Prop:=∀ (h':Ad)(w':World),Ad.le h h'→Dv h' w'→∀ (x0:AP)(cs0:List Value)(_:rep h' x0 cs0)(r:Bool),f x0=some r→Hg Try.prog v #[.agg cs0.toArray] w' (D6 (fun h v=>v=.bool r) h' w')
theorem Pd.mono {h h':Ad} {v:Value} {f:AP→Option Bool} (H:Pd h v f) (hle:Ad.le h h'):Pd h' v f:=fun h2 w2 l=>H h2 w2 (Ad.le_trans hle l)
instance : Rep (AP→Option Bool):=⟨1,fun h f cs=>∃ fn first cap,cs=[.func fn first cap]∧Pd h (.func fn first cap) f,fun hle ⟨a,b,c,e,hr⟩=>⟨a,b,c,e,hr.mono hle⟩,fun⟨a,b,c,e,_⟩=>by subst e; rfl,fun⟨a,b,c,e,_⟩ v hv=>by subst e; simp at hv; subst hv; rfl⟩
def Mt (h:Ad) (v:Value) (f:Rg→Option Int):Prop:=∀ (h':Ad)(w':World),Ad.le h h'→Dv h' w'→∀ (x0:Rg)(cs0:List Value)(_:rep h' x0 cs0)(r:Int),f x0=some r→Hg Try.prog v #[.agg cs0.toArray] w' (D6 (fun h v=>v=.int .i64 r) h' w')
theorem Mt.mono {h h':Ad} {v:Value} {f:Rg→Option Int} (H:Mt h v f) (hle:Ad.le h h'):Mt h' v f:=fun h2 w2 l=>H h2 w2 (Ad.le_trans hle l)
instance : Rep (Rg→Option Int):=⟨1,fun h f cs=>∃ fn first cap,cs=[.func fn first cap]∧Mt h (.func fn first cap) f,fun hle ⟨a,b,c,e,hr⟩=>⟨a,b,c,e,hr.mono hle⟩,fun⟨a,b,c,e,_⟩=>by subst e; rfl,fun⟨a,b,c,e,_⟩ v hv=>by subst e; simp at hv; subst hv; rfl⟩
structure Gl where
  of_:Rg→Option Int
instance : Rep Gl:=Rep.via fun x=>(x.of_)
instance : VRep Gl:=VRep.agg Gl
structure Bb where
  a0:Int
  a1:Int
  a2:Int
  a3:Int
deriving DecidableEq,Inhabited
instance : Rep Bb:=Rep.via fun x=>(x.a0,x.a1,x.a2,x.a3)
instance : VRep Bb:=VRep.agg Bb
def Bb.toL (x:Bb):List Int:=[x.a0,x.a1,x.a2,x.a3]
def Bb.ofL:List Int→Option Bb
  | [a0,a1,a2,a3]=>some ⟨a0,a1,a2,a3⟩
  | _=>none
theorem Bb.ofL_some {l:List Int} {y:Bb} (h:Bb.ofL l=some y):y.toL=l:=by
  unfold Bb.ofL at h
  split at h
  · cases h; rfl
  · cases h
def Bb.setI (x:Bb) (i:Int) (v:Int):Option Bb:=(upd x.toL i v).bind Bb.ofL
theorem Bb.setI_some {x y:Bb} {i:Int} {v:Int} (h:x.setI i v=some y):0≤i∧i<4∧y.toL=x.toL.set i.toNat v:=by
  obtain⟨l,hl,h2⟩:=A3 h
  obtain⟨h0,h1,rfl⟩:=Cm hl
  exact⟨h0,h1,Bb.ofL_some h2⟩
structure Bg where
  a0:Bool
  a1:Bool
deriving DecidableEq,Inhabited
instance : Rep Bg:=Rep.via fun x=>(x.a0,x.a1)
instance : VRep Bg:=VRep.agg Bg
def Bg.toL (x:Bg):List Bool:=[x.a0,x.a1]
def Bg.ofL:List Bool→Option Bg
  | [a0,a1]=>some ⟨a0,a1⟩
  | _=>none
theorem Bg.ofL_some {l:List Bool} {y:Bg} (h:Bg.ofL l=some y):y.toL=l:=by
  unfold Bg.ofL at h
  split at h
  · cases h; rfl
  · cases h
def Bg.setI (x:Bg) (i:Int) (v:Bool):Option Bg:=(upd x.toL i v).bind Bg.ofL
theorem Bg.setI_some {x y:Bg} {i:Int} {v:Bool} (h:x.setI i v=some y):0≤i∧i<2∧y.toL=x.toL.set i.toNat v:=by
  obtain⟨l,hl,h2⟩:=A3 h
  obtain⟨h0,h1,rfl⟩:=Cm hl
  exact⟨h0,h1,Bg.ofL_some h2⟩
structure Aw where
  holds:Bb
  turns:Bb
  spares:Bg
deriving DecidableEq,Inhabited
instance : Rep Aw:=Rep.via fun x=>(x.holds,x.turns,x.spares)
instance : VRep Aw:=VRep.agg Aw
structure Jh where
  fr:Int
  long:Int
deriving DecidableEq,Inhabited
instance : Rep Jh:=Rep.via fun x=>(x.fr,x.long)
instance : VRep Jh:=VRep.agg Jh
def PG (h:Ad) (v:Value) (f:Int→Option Bool):Prop:=∀ (h':Ad)(w':World),Ad.le h h'→Dv h' w'→∀ (x0:Int)(r:Bool),f x0=some r→Hg Try.prog v #[.int .i64 x0] w' (D6 (fun h v=>v=.bool r) h' w')
theorem PG.mono {h h':Ad} {v:Value} {f:Int→Option Bool} (H:PG h v f) (hle:Ad.le h h'):PG h' v f:=fun h2 w2 l=>H h2 w2 (Ad.le_trans hle l)
instance : Rep (Int→Option Bool):=⟨1,fun h f cs=>∃ fn first cap,cs=[.func fn first cap]∧PG h (.func fn first cap) f,fun hle ⟨a,b,c,e,hr⟩=>⟨a,b,c,e,hr.mono hle⟩,fun⟨a,b,c,e,_⟩=>by subst e; rfl,fun⟨a,b,c,e,_⟩ v hv=>by subst e; simp at hv; subst hv; rfl⟩
structure BN where
  number:Int
  sum:Int
deriving DecidableEq,Inhabited
instance : Rep BN:=Rep.via fun x=>(x.number,x.sum)
instance : VRep BN:=VRep.agg BN
def Ou {σ:Type} (XS:σ→Fr→Ad→Prop) (B:Nat→Prop) (v:Value) (f:σ→Aw→BN→Option σ):Prop:=∀ (s:σ)(F:Fr)(h:Ad)(w:World)(x0:Aw)(cs0:List Value)(_:rep h x0 cs0)(x1:BN)(cs1:List Value)(_:rep h x1 cs1)(s':σ),XS s F h→Ah F h [] [] [] w→f s x0 x1=some s'→Hg Try.prog v #[.agg cs0.toArray,.agg cs1.toArray] w (Po XS B F h s')
instance : KRep Aw:=⟨fun x=>.agg #[.int .i64 x.holds.a0,.int .i64 x.holds.a1,.int .i64 x.holds.a2,.int .i64 x.holds.a3,.int .i64 x.turns.a0,.int .i64 x.turns.a1,.int .i64 x.turns.a2,.int .i64 x.turns.a3,.bool x.spares.a0,.bool x.spares.a1],fun {a b} h=>by
  rcases a with⟨⟨a0,a1,a2,a3⟩,⟨a4,a5,a6,a7⟩,⟨a8,a9⟩⟩
  rcases b with⟨⟨b0,b1,b2,b3⟩,⟨b4,b5,b6,b7⟩,⟨b8,b9⟩⟩
  simp_all⟩
def EX:Nat→(List Int)→(List Int)→Int→Option (Ex Bool Unit)
  | 0,_,_,_=>none
  | n+1,a,b,x_v10 =>
    (bif decide (x_v10<((a.length:Nat):Int)) then
    ((CF a x_v10).bind fun x19 =>
    ((CF b x_v10).bind fun x23 =>
    (bif (x19 != x23) then
    some (Ex.ret false)
    else
    EX n a b (IntKind.i64.wrap (x_v10+1)))))
    else
    some (Ex.go ()))
def Dw (n:Nat) (a:List Int) (b:List Int):Option Bool :=
  (bif (((a.length:Nat):Int) != ((b.length:Nat):Int)) then
  some false
  else
  ((EX n a b 0).bind fun o_11=>Ex.bind o_11 (fun r=>some r) fun s_12 =>
  some true))
def EY:Nat→A0→A0→Int→Option (Ex Bool Unit)
  | 0,_,_,_=>none
  | n+1,a,b,x_v10 =>
    (bif decide (x_v10<((a.spares.length:Nat):Int)) then
    ((CF a.spares x_v10).bind fun x39 =>
    ((CF b.spares x_v10).bind fun x44 =>
    (bif (!(x39 == x44)) then
    some (Ex.ret false)
    else
    EY n a b (IntKind.i64.wrap (x_v10+1)))))
    else
    some (Ex.go ()))
def Kd (n:Nat) (a:A0) (b:A0):Option Bool :=
  ((((Dw n a.holds b.holds).bind fun x10 =>
  (bif (!x10) then
  some true
  else
  ((Dw n a.turns b.turns).bind fun x17 =>
  (bif (!x17) then
  some true
  else
  some (((a.spares.length:Nat):Int) != ((b.spares.length:Nat):Int)))))):Option Bool).bind fun o_31 =>
  (bif o_31 then
  some false
  else
  ((EY n a b 0).bind fun o_80=>Ex.bind o_80 (fun r=>some r) fun s_81 =>
  some true)))
def By (n:Nat)  : Option Ag :=
  some (Ag.mk ([Rg.mk 10 10,Rg.mk 5 15,Rg.mk 10 12]:List Rg) (Rg.mk 0 4) ([Ct.mk 0 (Rg.mk 0 0),Ct.mk 0 (Rg.mk 10 20)]:List Ct) ([AP.mk 2 40]:List AP) 5 37 0 50)
def Dx (n:Nat)  : Option A0 :=
  some (A0.mk ([0,0]:List Int) ([(-1),(-1)]:List Int) ([false]:List Bool))
def It (n:Nat)  : Option A0 :=
  some (A0.mk ([0,1]:List Int) ([(-1),(-1)]:List Int) ([false]:List Bool))
def Bt (n:Nat) (n_:Int) (low:Int) (high:Int):Option Bool :=
  (bif decide (low≤n_) then
  some (decide (n_≤high))
  else
  some false)
def Da (n:Nat) (n_:Int):Option Bool :=
  ((Bt n n_ 0 2000).bind fun x4 =>
  some x4)
def Bp (n:Nat) (r_:Ag):Option Int :=
  some (IntKind.i64.wrap (((r_.legs.length:Nat):Int)+1))
def Cg (n:Nat) (r_:Ag):Option Int :=
  ((Bp n r_).bind fun x4 =>
  some (IntKind.i64.wrap (Int.tdiv x4 2)))
def Cb (n:Nat) (r_:Ag) (n_:Int):Option Bool :=
  ((Bp n r_).bind fun x7 =>
  ((Bt n n_ 0 (IntKind.i64.wrap (x7-1))).bind fun x9 =>
  some x9))
def Dp (n:Nat) (r_:Rg) (most:Int):Option Bool :=
  (bif decide (0≤r_.lo) then
  (bif decide (r_.lo≤r_.hi) then
  some (decide (r_.hi≤most))
  else
  some false)
  else
  some false)
def BL (n:Nat) (r_:Rg):Option Bool :=
  ((Dp n r_ 300).bind fun x4 =>
  some x4)
def CL (n:Nat) (r_:Rg) (n_:Int):Option Bool :=
  ((Bt n n_ r_.lo r_.hi).bind fun x10 =>
  some x10)
def Aj (n:Nat) (r_:Rg):Option Int :=
  some r_.lo
def Ap (n:Nat) (r_:Rg):Option Int :=
  some r_.hi
def AL (n:Nat) (r_:Ag) (n_:Int):Option Bool :=
  ((Bt n n_ r_.fr r_.to_).bind fun x10 =>
  some x10)
def CW (n:Nat) (r_:Ag) (b:Ct) (at_:Int):Option Bool :=
  (bif (at_ == (-1)) then
  some true
  else
  ((Cg n r_).bind fun x14 =>
  ((Bt n at_ b.stop (IntKind.i64.wrap (x14-2))).bind fun x16 =>
  some x16)))
def BD:Nat→Ag→AB→Int→Option (Ex Bool Unit)
  | 0,_,_,_=>none
  | n+1,r_,t_,x_v10 =>
    (bif decide (x_v10<((r_.buses.length:Nat):Int)) then
    ((CF r_.buses x_v10).bind fun x46 =>
    ((CF t_.tm x_v10).bind fun x53 =>
    ((CL n x46.tm x53).bind fun x55 =>
    (bif (!x55) then
    some (Ex.ret false)
    else
    ((CF t_.turns x_v10).bind fun x63 =>
    ((CL n r_.turn x63).bind fun x65 =>
    (bif (!x65) then
    some (Ex.ret false)
    else
    BD n r_ t_ (IntKind.i64.wrap (x_v10+1)))))))))
    else
    some (Ex.go ()))
def BE:Nat→Ag→(List Int)→Int→Option (Ex Bool Unit)
  | 0,_,_,_=>none
  | n+1,r_,x74,x_v30 =>
    (bif decide (x_v30<((x74.length:Nat):Int)) then
    ((CF x74 x_v30).bind fun x87 =>
    ((CF r_.legs x_v30).bind fun x92 =>
    ((CL n x92 x87).bind fun x95 =>
    (bif (!x95) then
    some (Ex.ret false)
    else
    BE n r_ x74 (IntKind.i64.wrap (x_v30+1))))))
    else
    some (Ex.go ()))
def BF:Nat→Ag→AB→Int→Option (Ex Bool Unit)
  | 0,_,_,_=>none
  | n+1,r_,t_,x_v20 =>
    (bif decide (x_v20<((t_.legs.length:Nat):Int)) then
    ((CF t_.legs x_v20).bind fun x74 =>
    (bif (((x74.length:Nat):Int) != ((r_.legs.length:Nat):Int)) then
    some (Ex.ret false)
    else
    ((BE n r_ x74 0).bind fun o_217=>Ex.bind o_217 (fun r=>some (Ex.ret r)) fun s_218 =>
    BF n r_ t_ (IntKind.i64.wrap (x_v20+1)))))
    else
    some (Ex.go ()))
def DT (n:Nat) (r_:Ag) (t_:AB):Option Bool :=
  (((bif (((t_.tm.length:Nat):Int) != ((r_.buses.length:Nat):Int)) then
  some true
  else
  (bif (((t_.turns.length:Nat):Int) != ((r_.buses.length:Nat):Int)) then
  some true
  else
  some (((t_.legs.length:Nat):Int) != (IntKind.i64.wrap (((r_.buses.length:Nat):Int)+((r_.spares.length:Nat):Int)))))):Option Bool).bind fun o_31 =>
  (bif o_31 then
  some false
  else
  ((BD n r_ t_ 0).bind fun o_60=>Ex.bind o_60 (fun r=>some r) fun s_61 =>
  ((BF n r_ t_ 0).bind fun o_175=>Ex.bind o_175 (fun r=>some r) fun s_176 =>
  some true))))
def Bz:Nat→AC→AB→(List Bm)→(List A9)→Int→Option ((List Bm)×(List A9))
  | 0,_,_,_,_,_=>none
  | n+1,w_,t_,x_v10,x_v11,x_v12 =>
    (bif decide (x_v12<((w_.route.buses.length:Nat):Int)) then
    ((CF w_.route.buses x_v12).bind fun x17 =>
    ((CF t_.tm x_v12).bind fun x25 =>
    ((CF w_.acts.holds x_v12).bind fun x31 =>
    ((CF w_.acts.turns x_v12).bind fun x42 =>
    ((KY x_v10 ([Bm.mk x17.stop (IntKind.i64.wrap (x25+(IntKind.i64.wrap (x31*w_.route.unit)))) x42]:List Bm)).bind fun x46 =>
    ((CF t_.legs x_v12).bind fun x51 =>
    ((CF t_.turns x_v12).bind fun x56 =>
    ((KY x_v11 ([A9.mk x51 x56]:List A9)).bind fun x60 =>
    Bz n w_ t_ x46 x60 (IntKind.i64.wrap (x_v12+1))))))))))
    else
    some (x_v10,x_v11))
def Bh:Nat→AC→AB→(List Bm)→(List A9)→Int→Option ((List Bm)×(List A9))
  | 0,_,_,_,_,_=>none
  | n+1,w_,t_,x_v20,x_v21,x_v22 =>
    (bif decide (x_v22<((w_.route.spares.length:Nat):Int)) then
    ((CF w_.route.spares x_v22).bind fun x69 =>
    ((CF w_.acts.spares x_v22).bind fun x75 =>
    (bif x75 then
    ((KY x_v20 ([Bm.mk x69.stop x69.tm (-1)]:List Bm)).bind fun x84 =>
    ((CF t_.legs (IntKind.i64.wrap (((w_.route.buses.length:Nat):Int)+x_v22))).bind fun x94 =>
    ((KY x_v21 ([A9.mk x94 0]:List A9)).bind fun x98 =>
    Bh n w_ t_ x84 x98 (IntKind.i64.wrap (x_v22+1)))))
    else
    Bh n w_ t_ x_v20 x_v21 (IntKind.i64.wrap (x_v22+1)))))
    else
    some (x_v20,x_v21))
def Ch (n:Nat) (w_:AC) (t_:AB):Option ((List Bm)×(List A9)) :=
  ((Bz n w_ t_ ([]:List Bm) ([]:List A9) 0).bind fun o_63 =>
  ((Bh n w_ t_ o_63.1 o_63.2 0).bind fun o_248 =>
  some (o_248.1,o_248.2)))
def BR (n:Nat) (b:Ct) (q0:Ag):Option Bool :=
  ((Cb n q0 b.stop).bind fun x7 =>
  (bif x7 then
  ((Dp n b.tm 2000).bind fun x11 =>
  some x11)
  else
  some false))
def BS (n:Nat) (s:AP) (q0:Ag):Option Bool :=
  ((Cb n q0 s.stop).bind fun x7 =>
  (bif x7 then
  ((Da n s.tm).bind fun x11 =>
  some x11)
  else
  some false))
def Ax:Nat→(List Rg)→(Rg→Option Bool)→Int→Option (Ex Int Unit)
  | 0,_,_,_=>none
  | n+1,s,f,x_v10 =>
    (bif decide (x_v10<((s.length:Nat):Int)) then
    ((CF s x_v10).bind fun x14 =>
    ((f x14).bind fun x16 =>
    (bif x16 then
    some (Ex.ret x_v10)
    else
    Ax n s f (IntKind.i64.wrap (x_v10+1)))))
    else
    some (Ex.go ()))
def AQ (n:Nat) (s:List Rg) (f:Rg→Option Bool):Option Int :=
  ((Ax n s f 0).bind fun o_6=>Ex.bind o_6 (fun r=>some r) fun s_7 =>
  some (-1))
def A4:Nat→(List Ct)→(Ct→Option Bool)→Int→Option (Ex Int Unit)
  | 0,_,_,_=>none
  | n+1,s,f,x_v10 =>
    (bif decide (x_v10<((s.length:Nat):Int)) then
    ((CF s x_v10).bind fun x14 =>
    ((f x14).bind fun x16 =>
    (bif x16 then
    some (Ex.ret x_v10)
    else
    A4 n s f (IntKind.i64.wrap (x_v10+1)))))
    else
    some (Ex.go ()))
def Bc (n:Nat) (s:List Ct) (f:Ct→Option Bool):Option Int :=
  ((A4 n s f 0).bind fun o_6=>Ex.bind o_6 (fun r=>some r) fun s_7 =>
  some (-1))
def Ay:Nat→(List AP)→(AP→Option Bool)→Int→Option (Ex Int Unit)
  | 0,_,_,_=>none
  | n+1,s,f,x_v10 =>
    (bif decide (x_v10<((s.length:Nat):Int)) then
    ((CF s x_v10).bind fun x14 =>
    ((f x14).bind fun x16 =>
    (bif x16 then
    some (Ex.ret x_v10)
    else
    Ay n s f (IntKind.i64.wrap (x_v10+1)))))
    else
    some (Ex.go ()))
def AR (n:Nat) (s:List AP) (f:AP→Option Bool):Option Int :=
  ((Ay n s f 0).bind fun o_6=>Ex.bind o_6 (fun r=>some r) fun s_7 =>
  some (-1))
def AM (n:Nat) (s:List Rg) (f:Rg→Option Bool):Option Bool :=
  ((AQ n s f).bind fun x7 =>
  some (decide (x7≥0)))
def AT (n:Nat) (s:List Ct) (f:Ct→Option Bool):Option Bool :=
  ((Bc n s f).bind fun x7 =>
  some (decide (x7≥0)))
def AN (n:Nat) (s:List AP) (f:AP→Option Bool):Option Bool :=
  ((AR n s f).bind fun x7 =>
  some (decide (x7≥0)))
def Bd (n:Nat) (x:Rg) (q0:Rg→Option Bool):Option Bool :=
  ((q0 x).bind fun x6 =>
  some (!x6))
def Bn (n:Nat) (x:Ct) (q0:Ct→Option Bool):Option Bool :=
  ((q0 x).bind fun x6 =>
  some (!x6))
def Be (n:Nat) (x:AP) (q0:AP→Option Bool):Option Bool :=
  ((q0 x).bind fun x6 =>
  some (!x6))
def CC (n:Nat) (l:List Rg) (right:Rg→Option Bool):Option Bool :=
  ((AM n l (fun(y0:Rg)=>Bd n y0 right)).bind fun x7 =>
  some (!x7))
def Db (n:Nat) (l:List Ct) (right:Ct→Option Bool):Option Bool :=
  ((AT n l (fun(y0:Ct)=>Bn n y0 right)).bind fun x7 =>
  some (!x7))
def CD (n:Nat) (l:List AP) (right:AP→Option Bool):Option Bool :=
  ((AN n l (fun(y0:AP)=>Be n y0 right)).bind fun x7 =>
  some (!x7))
def BM (n:Nat) (r_:Ag):Option Int :=
  (((bif decide (((r_.buses.length:Nat):Int)>4) then
  some true
  else
  some (decide (((r_.spares.length:Nat):Int)>2))):Option Bool).bind fun o_31 =>
  (bif o_31 then
  some 3
  else
  (((bif ((Int.tmod ((r_.legs.length:Nat):Int) 2) == 0) then
  some true
  else
  ((Cg n r_).bind fun x26 =>
  (bif decide (x26>4) then
  some true
  else
  ((CC n r_.legs (fun(y0:Rg)=>BL n y0)).bind fun x32 =>
  (bif (!x32) then
  some true
  else
  ((BL n r_.turn).bind fun x38 =>
  (bif (!x38) then
  some true
  else
  ((Db n r_.buses (fun(y0:Ct)=>BR n y0 r_)).bind fun x45 =>
  (bif (!x45) then
  some true
  else
  ((CD n r_.spares (fun(y0:AP)=>BS n y0 r_)).bind fun x52 =>
  some (!x52))))))))))):Option Bool).bind fun o_50 =>
  (bif o_50 then
  some 1
  else
  ((Bt n r_.unit 1 30).bind fun x58 =>
  (bif (!x58) then
  some 1
  else
  ((Da n r_.gap).bind fun x63 =>
  (bif (!x63) then
  some 1
  else
  ((Da n r_.fr).bind fun x69 =>
  (bif (!x69) then
  some 1
  else
  ((Da n r_.to_).bind fun x75 =>
  (bif (!x75) then
  some 1
  else
  (bif decide (r_.fr>r_.to_) then
  some 1
  else
  some 0)))))))))))))
def Cc (n:Nat) (r_:Ag):Option Int :=
  ((BM n r_).bind fun x4 =>
  some x4)
def BT:Nat→Ag→A0→Int→Option (Ex Int Unit)
  | 0,_,_,_=>none
  | n+1,r_,a,x_v10 =>
    (bif decide (x_v10<((r_.buses.length:Nat):Int)) then
    ((CF r_.buses x_v10).bind fun x44 =>
    ((CF a.holds x_v10).bind fun x49 =>
    ((Bt n x49 0 2).bind fun x51 =>
    (bif (!x51) then
    some (Ex.ret 2)
    else
    ((CF a.turns x_v10).bind fun x59 =>
    ((CW n r_ x44 x59).bind fun x61 =>
    (bif (!x61) then
    some (Ex.ret 2)
    else
    BT n r_ a (IntKind.i64.wrap (x_v10+1)))))))))
    else
    some (Ex.go ()))
def C1 (n:Nat) (r_:Ag) (a:A0):Option Int :=
  ((BM n r_).bind fun x9 =>
  (bif (x9 != 0) then
  some x9
  else
  (((bif (((a.holds.length:Nat):Int) != ((r_.buses.length:Nat):Int)) then
  some true
  else
  (bif (((a.turns.length:Nat):Int) != ((r_.buses.length:Nat):Int)) then
  some true
  else
  some (((a.spares.length:Nat):Int) != ((r_.spares.length:Nat):Int)))):Option Bool).bind fun o_48 =>
  (bif o_48 then
  some 2
  else
  ((BT n r_ a 0).bind fun o_77=>Ex.bind o_77 (fun r=>some r) fun s_78 =>
  some 0)))))
def B0 (n:Nat) (s:List Int):Option (List Int) :=
  ((KY ([]:List Int) s).bind fun x7 =>
  some x7)
def Dq (n:Nat) (s:List Bool):Option (List Bool) :=
  ((KY ([]:List Bool) s).bind fun x7 =>
  some x7)
def BU:Nat→(List Int)→Int→Int→Option Int
  | 0,_,_,_=>none
  | n+1,x,x_v10,x_v11 =>
    (bif decide (x_v10<((x.length:Nat):Int)) then
    ((CF x x_v10).bind fun x21 =>
    BU n x (IntKind.i64.wrap (x_v10+1)) (if x21>x_v11 then x21 else x_v11))
    else
    some x_v11)
def Ef (n:Nat) (x:List Int):Option Int :=
  (bif decide (((x.length:Nat):Int)<1) then
  none
  else
  ((CF x 0).bind fun x10 =>
  ((BU n x 1 x10).bind fun o_25 =>
  some o_25)))
def Br:Nat→(List Int)→Int→Int→Option Int
  | 0,_,_,_=>none
  | n+1,x,x_v10,x_v11 =>
    (bif decide (x_v10<((x.length:Nat):Int)) then
    ((CF x x_v10).bind fun x21 =>
    Br n x (IntKind.i64.wrap (x_v10+1)) (if x21<x_v11 then x21 else x_v11))
    else
    some x_v11)
def Ds (n:Nat) (x:List Int):Option Int :=
  (bif decide (((x.length:Nat):Int)<1) then
  none
  else
  ((CF x 0).bind fun x10 =>
  ((Br n x 1 x10).bind fun o_25 =>
  some o_25)))
def Eu (n:Nat) (l:List Int):Option Int :=
  ((Ef n l).bind fun x4 =>
  some x4)
def Cd (n:Nat) (l:List Int):Option Int :=
  ((Ds n l).bind fun x4 =>
  some x4)
def DD:Nat→(List Int)→(List Int)→Int→Int→Option Int
  | 0,_,_,_,_=>none
  | n+1,marks,x6,x_v10,x_v11 =>
    (bif decide (x_v10<((x6.length:Nat):Int)) then
    ((CF x6 x_v10).bind fun x11 =>
    ((CF marks x_v10).bind fun x17 =>
    ((Eu n ([x_v11,IntKind.i64.wrap (x11-x17)]:List Int)).bind fun x21 =>
    DD n marks x6 (IntKind.i64.wrap (x_v10+1)) x21)))
    else
    some x_v11)
def GV (n:Nat) (marks:List Int):Option Int :=
  ((sub marks 1).bind fun x6 =>
  ((DD n marks x6 0 0).bind fun o_15 =>
  some o_15))
def BV:Nat→Ag→Gl→(List Int)→Int→Option (List Int)
  | 0,_,_,_,_=>none
  | n+1,r_,e,x_v10,x_v11 =>
    (bif decide (x_v11<((r_.legs.length:Nat):Int)) then
    ((CF r_.legs x_v11).bind fun x15 =>
    ((e.of_ x15).bind fun x21 =>
    ((KY x_v10 ([x21]:List Int)).bind fun x23 =>
    BV n r_ e x23 (IntKind.i64.wrap (x_v11+1)))))
    else
    some x_v10)
def BW:Nat→Ag→Gl→(List Int)→(List Int)→(List Int)→(List (List Int))→Int→Option ((List Int)×(List Int)×(List Int)×(List (List Int)))
  | 0,_,_,_,_,_,_,_=>none
  | n+1,r_,e,x_v20,x_v21,x_v22,x_v23,x_v24 =>
    (bif decide (x_v24<((r_.buses.length:Nat):Int)) then
    ((CF r_.buses x_v24).bind fun x30 =>
    ((e.of_ x30.tm).bind fun x38 =>
    ((KY x_v21 ([x38]:List Int)).bind fun x40 =>
    ((e.of_ r_.turn).bind fun x47 =>
    ((KY x_v22 ([x47]:List Int)).bind fun x49 =>
    ((B0 n x_v20).bind fun x53 =>
    ((KY x_v23 ([x53]:List (List Int))).bind fun x55 =>
    BW n r_ e x_v20 x40 x49 x55 (IntKind.i64.wrap (x_v24+1)))))))))
    else
    some (x_v20,x_v21,x_v22,x_v23))
def BX:Nat→Ag→(List Int)→(List (List Int))→Int→Option ((List Int)×(List (List Int)))
  | 0,_,_,_,_=>none
  | n+1,r_,x_v30,x_v31,x_v32 =>
    (bif decide (x_v32<((r_.spares.length:Nat):Int)) then
    ((B0 n x_v30).bind fun x68 =>
    ((KY x_v31 ([x68]:List (List Int))).bind fun x70 =>
    BX n r_ x_v30 x70 (IntKind.i64.wrap (x_v32+1))))
    else
    some (x_v30,x_v31))
def Bw (n:Nat) (r_:Ag) (e:Gl):Option AB :=
  ((BV n r_ e ([]:List Int) 0).bind fun o_45 =>
  ((BW n r_ e o_45 ([]:List Int) ([]:List Int) ([]:List (List Int)) 0).bind fun o_163 =>
  ((BX n r_ o_163.1 o_163.2.2.2 0).bind fun o_561 =>
  some (AB.mk o_163.2.1 o_163.2.2.1 o_561.2))))
def AW {σ:Type}:Nat→(σ→Int→Int→Option (σ×Bool))→Bm→Ag→A9→Int→Int→σ→Option (Ex σ σ)
  | 0,_,_,_,_,_,_,_=>none
  | n+1,yield_,q0,q1,q2,x_v10,x_v11,x_v12 =>
    ((((Cb n q1 x_v11).bind fun x13 =>
    (bif x13 then
    ((yield_ x_v12 x_v11 x_v10).bind fun x18 =>
    some (x18.2,x18.1))
    else
    some (false,x_v12))):Option (Bool×σ)).bind fun o_36 =>
    (bif o_36.1 then
    (bif (x_v11 == q0.turned) then
    ((Bp n q1).bind fun x26 =>
    AW n yield_ q0 q1 q2 (IntKind.i64.wrap (x_v10+q2.turn)) (IntKind.i64.wrap ((IntKind.i64.wrap (x26-1))-x_v11)) o_36.2)
    else
    (bif decide (x_v11<((q2.legs.length:Nat):Int)) then
    ((CF q2.legs x_v11).bind fun x44 =>
    AW n yield_ q0 q1 q2 (IntKind.i64.wrap (x_v10+x44)) (IntKind.i64.wrap (x_v11+1)) o_36.2)
    else
    some (Ex.ret o_36.2)))
    else
    some (Ex.go o_36.2)))
def BG {σ:Type} (n:Nat) (yield_:σ→Int→Int→Option (σ×Bool)) (s:σ) (q0:Bm) (q1:Ag) (q2:A9):Option σ :=
  ((AW n yield_ q0 q1 q2 q0.tm q0.stop s).bind fun o_22=>Ex.bind o_22 (fun r=>some r) fun s_23 =>
  some s_23)
def C2 (n:Nat) (d:Aw) (r_:Ag):Option A0 :=
  ((M3 ([d.holds.a0,d.holds.a1,d.holds.a2,d.holds.a3]:List Int) ((r_.buses.length:Nat):Int)).bind fun x9 =>
  ((M3 ([d.turns.a0,d.turns.a1,d.turns.a2,d.turns.a3]:List Int) ((r_.buses.length:Nat):Int)).bind fun x15 =>
  ((M3 ([d.spares.a0,d.spares.a1]:List Bool) ((r_.spares.length:Nat):Int)).bind fun x21 =>
  ((B0 n x9).bind fun x10 =>
  ((B0 n x15).bind fun x16 =>
  ((Dq n x21).bind fun x22 =>
  some (A0.mk x10 x16 x22)))))))
def Ci (n:Nat) (r_:Ag) (x:Bm) (t_:A9):Option (Bm×Ag×A9) :=
  some (x,r_,t_)
def AD:Nat→Ag→(List Int)→(List (Int×Rg))→(((List Int)×(List (Int×Rg)))→Prop)→Prop
  | 0,_,_,_,_=>False
  | n+1,r_,x_v10,x_v11,K =>
    ((x_v11=[] →
    K (x_v10,x_v11))∧(∀ k_79 x_80 rem_82,List.Perm x_v11 ((k_79,x_80)::rem_82) →
    (∃ x29,((fun(y0:Int)=>AL n r_ y0) x_80.lo)=some x29 ∧
    (bif x29 then
    (∃ x34,(KY x_v10 ([x_80.lo]:List Int))=some x34 ∧
    AD n r_ x34 rem_82 K)
    else
    AD n r_ x_v10 rem_82 K))))
def AE:Nat→Int→Int→(List (Int×Rg))→((Int×(List (Int×Rg)))→Prop)→Prop
  | 0,_,_,_,_=>False
  | n+1,x42,x_v30,x_v31,K =>
    ((x_v31=[] →
    K (x_v30,x_v31))∧(∀ k_242 x_243 rem_245,List.Perm x_v31 ((k_242,x_243)::rem_245) →
    (bif decide (x_243.lo>x42) then
    (∃ x60,(Cd n ([x_v30,x_243.hi]:List Int))=some x60 ∧
    AE n x42 x60 rem_245 K)
    else
    AE n x42 x_v30 rem_245 K)))
def AF:Nat→Ag→(EA Int Rg)→((List Int)×(List (Int×Rg)))→(List Int)→Int→Int→Int→(((List Int)×Int×Int)→Prop)→Prop
  | 0,_,_,_,_,_,_,_,_=>False
  | n+1,r_,spans,s_59,x_v20,x_v21,x_v22,x_v23,K =>
    (bif decide (x_v21<((s_59.1.length:Nat):Int)) then
    (∃ x42,(CF x_v20 x_v21)=some x42 ∧
    (AE n x42 r_.to_ spans.l (fun s_222 =>
    (bif decide ((IntKind.i64.wrap (s_222.1-x42))>x_v23) then
    AF n r_ spans s_59 x_v20 (IntKind.i64.wrap (x_v21+1)) x42 (IntKind.i64.wrap (s_222.1-x42)) K
    else
    AF n r_ spans s_59 x_v20 (IntKind.i64.wrap (x_v21+1)) x_v22 x_v23 K))))
    else
    K (x_v20,x_v22,x_v23))
def CX (n:Nat) (r_:Ag) (spans:EA Int Rg) (Q:Jh→Prop):Prop :=
  (AD n r_ ([r_.fr]:List Int) spans.l (fun s_59 =>
  (AF n r_ spans s_59 s_59.1 0 r_.fr 0 (fun s_170 =>
  Q (Jh.mk s_170.2.1 s_170.2.2)))))
def A1 (m to_:Int) (l:List (Int×Rg)):Int:=l.foldl (fun e p=>if p.2.lo>m then min e p.2.hi else e) to_
def GW (r:Ag) (l:List (Int×Rg)):List Int:=r.fr::(l.filter fun p=>decide (r.fr≤p.2.lo) && decide (p.2.lo≤r.to_)).map fun p=>p.2.lo
def Cj (n:Nat) (r_:Ag) (spans:EA Int Rg):Option Int :=
  if 2*spans.l.length+20≤n∧spans.l.length<1000000 then some ((GW r_ spans.l).foldl (fun b m=>max b (IntKind.i64.wrap (A1 m r_.to_ spans.l-m))) 0) else none
def B1:Nat→(List (Option (List (Int×Rg))))→(List (Option (List (Int×Rg))))→Int→Option (List (Option (List (Int×Rg))))
  | 0,_,_,_=>none
  | n+1,x18,x_v10,x_v11 =>
    (bif decide (x_v11<((x18.length:Nat):Int)) then
    ((CF x_v10 x_v11).bind fun x27 =>
    ((upd x_v10 x_v11 (some ([]:List (Int×Rg)))).bind fun u_114 =>
    B1 n x18 u_114 (IntKind.i64.wrap (x_v11+1))))
    else
    some x_v10)
def B2:Nat→AC→((List Bm)×(List A9))→((List Bm)×(List A9))→(List (Option (List (Int×Rg))))→Int→Option (List (Option (List (Int×Rg))))
  | 0,_,_,_,_,_=>none
  | n+1,w_,x35,x44,x_v20,x_v21 =>
    (bif decide (x_v21<((x35.1.length:Nat):Int)) then
    ((CF x35.1 x_v21).bind fun x52 =>
    ((CF x35.2 x_v21).bind fun x59 =>
    ((Ci n w_.route x52 x59).bind fun x61 =>
    ((BG n (fun(s:List (Option (List (Int×Rg))))(x62:Int)(x63:Int)=>((((CF s x62).bind fun x66 =>
    (x66.bind fun m_359 =>
    ((upd s x62 (some (Hh m_359 x_v21 (Rg.mk x63 x63)))).bind fun u_366 =>
    some u_366))):Option (List (Option (List (Int×Rg))))).bind fun s1=>some (s1,true))) x_v20 x61.1 x61.2.1 x61.2.2).bind fun o_315 =>
    ((CF x44.1 x_v21).bind fun x76 =>
    ((CF x44.2 x_v21).bind fun x80 =>
    ((Ci n w_.route x76 x80).bind fun x82 =>
    ((BG n (fun(s:List (Option (List (Int×Rg))))(x83:Int)(x84:Int)=>((((CF s x83).bind fun x87 =>
    ((CF s x83).bind fun x92 =>
    (x92.bind fun m_514 =>
    ((some (Gb m_514 x_v21 ((Rg.mk 0 0):Rg))).bind fun x95 =>
    (x87.bind fun m_527 =>
    ((upd s x83 (some (Hh m_527 x_v21 (Rg.mk x95.1.lo x84)))).bind fun u_534 =>
    some u_534)))))):Option (List (Option (List (Int×Rg))))).bind fun s1=>some (s1,true))) o_315 x82.1 x82.2.1 x82.2.2).bind fun o_456 =>
    B2 n w_ x35 x44 o_456 (IntKind.i64.wrap (x_v21+1))))))))))
    else
    some x_v20)
def Ck (n:Nat) (w_:AC):Option (List (EA Int Rg)) :=
  ((Bp n w_.route).bind fun x17 =>
  ((mk x17 (none:Option (List (Int×Rg)))).bind fun x18 =>
  ((B1 n x18 x18 0).bind fun o_76 =>
  ((Bw n w_.route (Gl.mk (fun(y0:Rg)=>Aj n y0))).bind fun x34 =>
  ((Ch n w_ x34).bind fun x35 =>
  ((Bw n w_.route (Gl.mk (fun(y0:Rg)=>Ap n y0))).bind fun x43 =>
  ((Ch n w_ x43).bind fun x44 =>
  ((B2 n w_ x35 x44 o_76 0).bind fun o_227 =>
  ((List.mapM id o_227).bind fun l_579 =>
  some (l_579.map EA.mk))))))))))
def B3:Nat→AC→(List (EA Int Rg))→(List Int)→Int→Option (List Int)
  | 0,_,_,_,_=>none
  | n+1,w_,x6,x_v10,x_v11 =>
    (bif decide (x_v11<((x6.length:Nat):Int)) then
    ((CF x6 x_v11).bind fun x10 =>
    ((Cj n w_.route x10).bind fun x16 =>
    ((KY x_v10 ([x16]:List Int)).bind fun x19 =>
    B3 n w_ x6 x19 (IntKind.i64.wrap (x_v11+1)))))
    else
    some x_v10)
def CM (n:Nat) (w_:AC):Option (List Int) :=
  ((Ck n w_).bind fun x6 =>
  ((B3 n w_ x6 ([]:List Int) 0).bind fun o_52 =>
  some o_52))
def BH:Nat→Ag→Int→(List (EA Int Rg))→Int→Option Bool
  | 0,_,_,_,_=>none
  | n+1,r_,most,x17,x_v10 =>
    (bif decide (x_v10<((x17.length:Nat):Int)) then
    ((CF x17 x_v10).bind fun x21 =>
    ((Cj n r_ x21).bind fun x25 =>
    (bif decide (x25>most) then
    some false
    else
    BH n r_ most x17 (IntKind.i64.wrap (x_v10+1)))))
    else
    some true)
def DU (n:Nat) (r_:Ag) (d:Aw) (most:Int):Option Bool :=
  ((C2 n d r_).bind fun x14 =>
  ((Ck n (AC.mk r_ x14)).bind fun x17 =>
  ((BH n r_ most x17 0).bind fun o_65 =>
  some o_65)))
mutual
def Bu {σ:Type}:Nat→(σ→Aw→BN→Option σ)→Aw→BN→Int→Int→Ag→Int→Bb→σ→Option (Bb×σ)
  | 0,_,_,_,_,_,_,_,_,_=>none
  | n+1,see_,d,c,at_,buses,r_,x_v10,x_v11,x_v12 =>
    (bif decide (x_v10<3) then
    ((PN 4 at_).bind fun x27 =>
    ((Bb.setI x_v11 at_ x_v10).bind fun u_57 =>
    ((control_Route_every_1 n see_ (Aw.mk u_57 d.turns d.spares) (BN.mk (IntKind.i64.wrap (c.number+(if 1<x_v10 then 1 else x_v10))) (IntKind.i64.wrap (c.sum+x_v10))) (IntKind.i64.wrap (at_+1)) buses r_ x_v12).bind fun x42 =>
    Bu n see_ d c at_ buses r_ (IntKind.i64.wrap (x_v10+1)) u_57 x42)))
    else
    some (x_v11,x_v12))
def AZ {σ:Type}:Nat→(σ→Aw→BN→Option σ)→Aw→BN→Int→Int→Ag→Int→Bb→σ→Option (Bb×σ)
  | 0,_,_,_,_,_,_,_,_,_=>none
  | n+1,see_,d,c,at_,buses,r_,x_v20,x_v21,x_v22 =>
    ((Cg n r_).bind fun x51 =>
    (bif decide (x_v20<x51) then
    ((CF r_.buses (IntKind.i64.wrap (at_-buses))).bind fun x61 =>
    ((CW n r_ x61 x_v20).bind fun x64 =>
    (bif x64 then
    ((PN 4 (IntKind.i64.wrap (at_-buses))).bind fun x70 =>
    ((Bb.setI x_v21 (IntKind.i64.wrap (at_-buses)) x_v20).bind fun u_165 =>
    ((control_Route_every_1 n see_ (Aw.mk d.holds u_165 d.spares) (BN.mk (IntKind.i64.wrap (c.number+(if 1<(IntKind.i64.wrap (x_v20+1)) then 1 else(IntKind.i64.wrap (x_v20+1))))) c.sum) (IntKind.i64.wrap (at_+1)) buses r_ x_v22).bind fun x84 =>
    AZ n see_ d c at_ buses r_ (IntKind.i64.wrap (x_v20+1)) u_165 x84)))
    else
    AZ n see_ d c at_ buses r_ (IntKind.i64.wrap (x_v20+1)) x_v21 x_v22)))
    else
    some (x_v21,x_v22)))
def Bv {σ:Type}:Nat→(σ→Aw→BN→Option σ)→Aw→BN→Int→Int→Ag→Int→Bg→σ→Option (Bg×σ)
  | 0,_,_,_,_,_,_,_,_,_=>none
  | n+1,see_,d,c,at_,buses,r_,x_v30,x_v31,x_v32 =>
    (bif decide (x_v30<2) then
    ((PN 2 (IntKind.i64.wrap (at_-(IntKind.i64.wrap (2*buses))))).bind fun x104 =>
    ((Bg.setI x_v31 (IntKind.i64.wrap (at_-(IntKind.i64.wrap (2*buses)))) (x_v30 == 1)).bind fun u_241 =>
    ((control_Route_every_1 n see_ (Aw.mk d.holds d.turns u_241) (BN.mk (IntKind.i64.wrap (c.number+x_v30)) c.sum) (IntKind.i64.wrap (at_+1)) buses r_ x_v32).bind fun x116 =>
    Bv n see_ d c at_ buses r_ (IntKind.i64.wrap (x_v30+1)) u_241 x116)))
    else
    some (x_v31,x_v32))
def control_Route_every_1 {σ:Type}:Nat→(σ→Aw→BN→Option σ)→Aw→BN→Int→Int→Ag→σ→Option σ
  | 0,_,_,_,_,_,_,_=>none
  | n+1,see_,d,c,at_,buses,r_,s =>
    (bif decide (at_<buses) then
    ((Bu n see_ d c at_ buses r_ 0 d.holds s).bind fun o_33 =>
    some o_33.2)
    else
    (bif decide (at_<(IntKind.i64.wrap (2*buses))) then
    ((AZ n see_ d c at_ buses r_ (-1) d.turns s).bind fun o_107 =>
    some o_107.2)
    else
    (bif decide (at_<(IntKind.i64.wrap ((IntKind.i64.wrap (2*buses))+((r_.spares.length:Nat):Int)))) then
    ((Bv n see_ d c at_ buses r_ 0 d.spares s).bind fun o_217 =>
    some o_217.2)
    else
    ((see_ s d c).bind fun x16 =>
    some x16))))
end
def CY {σ:Type} (n:Nat) (see_:σ→Aw→BN→Option σ) (r_:Ag) (s:σ):Option σ :=
  ((control_Route_every_1 n see_ (Aw.mk (Bb.mk 0 0 0 0) (Bb.mk 0 0 0 0) (Bg.mk false false)) (BN.mk 0 0) 0 ((r_.buses.length:Nat):Int) r_ s).bind fun x13 =>
  some x13)
def DE (n:Nat) (d:Aw) (c:BN) (found:Bool) (least:BN) (best:Aw) (r_:Ag):Option (Bool×BN×Aw) :=
  (((bif found then
  (bif ((c.number == least.number) && ((c.sum == least.sum) && true)) then
  some true
  else
  (bif decide (c.number>least.number) then
  some true
  else
  (bif (c.number == least.number) then
  some (decide (c.sum>least.sum))
  else
  some false)))
  else
  some false):Option Bool).bind fun o_21 =>
  (bif o_21 then
  some (found,least,best)
  else
  ((DU n r_ d r_.gap).bind fun x39 =>
  (bif x39 then
  some (true,c,d)
  else
  some (found,least,best)))))
def D5 (h0:Ad) (b_found b_least b_best:Nat) (s:Bool×BN×Aw) (F:Fr) (h:Ad):Prop:=Ad.le h0 h∧(b_found≠b_least∧b_found≠b_best∧b_least≠b_best∧True)∧(F.X b_found=some (.cells ([.bool s.1]:List Value).toArray 4 (0,0))∧∀ o,F.h b_found o=none)∧(F.X b_least=some (.cells ([.int .i64 s.2.1.number,.int .i64 s.2.1.sum]:List Value).toArray 104 (0,0))∧∀ o,F.h b_least o=none)∧(F.X b_best=some (.cells ([.int .i64 s.2.2.holds.a0,.int .i64 s.2.2.holds.a1,.int .i64 s.2.2.holds.a2,.int .i64 s.2.2.holds.a3,.int .i64 s.2.2.turns.a0,.int .i64 s.2.2.turns.a1,.int .i64 s.2.2.turns.a2,.int .i64 s.2.2.turns.a3,.bool s.2.2.spares.a0,.bool s.2.2.spares.a1]:List Value).toArray 102 (0,0))∧∀ o,F.h b_best o=none)∧True
def EJ (b_found b_least b_best:Nat) (b:Nat):Prop:=b=b_found∨b=b_least∨b=b_best
def Ev (n:Nat) (r_:Ag):Option (A0×Int) :=
  ((BM n r_).bind fun x9 =>
  (bif (x9 != 0) then
  some ((A0.mk ([]:List Int) ([]:List Int) ([]:List Bool)),x9)
  else
  ((CY n (fun s y0 y1=>DE n y0 y1 s.1 s.2.1 s.2.2 r_) r_ (false,BN.mk 0 0,(Aw.mk (Bb.mk 0 0 0 0) (Bb.mk 0 0 0 0) (Bg.mk false false)))).bind fun x16 =>
  (bif (!x16.1) then
  some ((A0.mk ([]:List Int) ([]:List Int) ([]:List Bool)),9)
  else
  ((C2 n x16.2.2 r_).bind fun x22 =>
  some (x22,0))))))
def Dy (n:Nat) (d:Aw) (p1:BN) (least:Int) (tried:List (Aw×Int)) (r_:Ag):Option ((List (Aw×Int))×Int) :=
  ((some (Gb tried d (0:Int))).bind fun x12 =>
  (bif (!x12.2) then
  ((C2 n d r_).bind fun x22 =>
  ((CM n (AC.mk r_ x22)).bind fun x24 =>
  ((Eu n x24).bind fun x25 =>
  ((some (Gb (Hh tried d x25) d (0:Int))).bind fun x29 =>
  ((Cd n ([least,x29.1]:List Int)).bind fun x31 =>
  some ((Hh tried d x25),x31))))))
  else
  ((some (Gb tried d (0:Int))).bind fun x29 =>
  ((Cd n ([least,x29.1]:List Int)).bind fun x31 =>
  some (tried,x31)))))
def Dt (h0:Ad) (b_least bm_tried:Nat) (s:(List (Aw×Int))×Int) (F:Fr) (h:Ad):Prop:=Ad.le h0 h∧(b_least≠bm_tried∧True)∧∃ (es_137:Array MapEntry)(cl_138:Nat),(F.X b_least=some (.cells ([.int .i64 s.2]:List Value).toArray 3 (0,0))∧∀ o,F.h b_least o=none)∧F.X bm_tried=some (.map es_137 cl_138)∧Du h es_137.toList cl_138 s.1∧True
def Ew (b_least bm_tried:Nat) (b:Nat):Prop:=b=b_least∨b=bm_tried
def FM (n:Nat) (r_:Ag):Option (Int×Int) :=
  ((BM n r_).bind fun x8 =>
  (bif (x8 != 0) then
  some (0,x8)
  else
  ((CY n (fun s y0 y1=>Dy n y0 y1 s.2 s.1 r_) r_ (([]:List (Aw×Int)),IntKind.i64.wrap (r_.to_-r_.fr))).bind fun x20 =>
  some (x20.2,0))))
def Cx (n:Nat) (r_:Ag) (a:A0):Option ((List Int)×Int) :=
  ((C1 n r_ a).bind fun x9 =>
  (bif (x9 != 0) then
  some (([]:List Int),x9)
  else
  ((CM n (AC.mk r_ a)).bind fun x16 =>
  some (x16,0))))
def H5 (n:Nat)  : Option Bool :=
  ((By n ).bind fun x8 =>
  ((Dx n ).bind fun x9 =>
  ((Cx n x8 x9).bind fun x10 =>
  ((By n ).bind fun x14 =>
  ((Ev n x14).bind fun x15 =>
  ((By n ).bind fun x19 =>
  ((FM n x19).bind fun x20 =>
  (bif (x10.2 == 0) then
  ((Dw n x10.1 ([40,30,30,37]:List Int)).bind fun x28 =>
  (bif x28 then
  (bif (x15.2 == 0) then
  ((It n ).bind fun x36 =>
  ((Kd n x15.1 x36).bind fun x37 =>
  (bif x37 then
  (bif (x20.2 == 0) then
  some (x20.1 == 35)
  else
  some false)
  else
  some false)))
  else
  some false)
  else
  some false))
  else
  some false))))))))
def Bj:Nat→Ag→A0→(EA Int Rg)→Jh→AB→(List Int)→(List Int)→(List (List Int))→Int→Int→(((List Int)×(List Int)×(List (List Int)))→Prop)→Prop
  | 0,_,_,_,_,_,_,_,_,_,_,_=>False
  | n+1,r_,a,x37,x41,x48,x_v10,x_v11,x_v12,x_v13,x_v14,K =>
    (bif decide (x_v13<(IntKind.i64.wrap (((r_.buses.length:Nat):Int)+((r_.spares.length:Nat):Int)))) then
    (∃ o_230,((bif (!(decide (x_v13<((r_.buses.length:Nat):Int)))) then
    ((CF a.spares (IntKind.i64.wrap (x_v13-((r_.buses.length:Nat):Int)))).bind fun x74 =>
    some (!x74))
    else
    some false):Option Bool)=some o_230 ∧
    (bif o_230 then
    Bj n r_ a x37 x41 x48 x_v10 x_v11 x_v12 (IntKind.i64.wrap (x_v13+1)) x_v14 K
    else
    (∃ x81,(some (Gb x37.l x_v14 ((Rg.mk 0 0):Rg)))=some x81 ∧
    (∃ o_281,((bif x81.2 then
    some (decide (x81.1.lo>x41.fr))
    else
    some false):Option Bool)=some o_281 ∧
    (bif o_281 then
    (∃ x97,(CF x48.legs x_v13)=some x97 ∧
    (∃ x99,(CF x_v12 x_v13)=some x99 ∧
    (∃ u_334,(upd x_v12 x_v13 x97)=some u_334 ∧
    (bif decide (x_v13<((r_.buses.length:Nat):Int)) then
    (∃ x110,(CF x48.tm x_v13)=some x110 ∧
    (∃ x115,(CF x48.turns x_v13)=some x115 ∧
    (∃ x117,(CF x_v10 x_v13)=some x117 ∧
    (∃ u_394,(upd x_v10 x_v13 x110)=some u_394 ∧
    (∃ x118,(CF x_v11 x_v13)=some x118 ∧
    (∃ u_418,(upd x_v11 x_v13 x115)=some u_418 ∧
    Bj n r_ a x37 x41 x48 u_394 u_418 u_334 (IntKind.i64.wrap (x_v13+1)) (IntKind.i64.wrap (x_v14+1)) K))))))
    else
    Bj n r_ a x37 x41 x48 x_v10 x_v11 u_334 (IntKind.i64.wrap (x_v13+1)) (IntKind.i64.wrap (x_v14+1)) K))))
    else
    Bj n r_ a x37 x41 x48 x_v10 x_v11 x_v12 (IntKind.i64.wrap (x_v13+1)) (IntKind.i64.wrap (x_v14+1)) K)))))
    else
    K (x_v10,x_v11,x_v12))
def EU (n:Nat) (r_:Ag) (a:A0) (stop:Int) (Q:(AB×Int)→Prop):Prop :=
  (∃ x21,(C1 n r_ a)=some x21 ∧
  (bif (x21 != 0) then
  Q ((AB.mk ([]:List Int) ([]:List Int) ([]:List (List Int))),x21)
  else
  (∃ x28,(Cb n r_ stop)=some x28 ∧
  (bif (!x28) then
  Q ((AB.mk ([]:List Int) ([]:List Int) ([]:List (List Int))),2)
  else
  (∃ x35,(Ck n (AC.mk r_ a))=some x35 ∧
  (∃ x37,(CF x35 stop)=some x37 ∧
  (CX n r_ x37 (fun x41 =>
  (∃ x45,(Bw n r_ (Gl.mk (fun(y0:Rg)=>Aj n y0)))=some x45 ∧
  (∃ x48,(Bw n r_ (Gl.mk (fun(y0:Rg)=>Ap n y0)))=some x48 ∧
  (Bj n r_ a x37 x41 x48 x45.tm x45.turns x45.legs 0 0 (fun s_209 =>
  Q ((AB.mk s_209.1 s_209.2.1 s_209.2.2),0)))))))))))))
def B4:Nat→AC→(List (List Int))→(List (List Int))→Int→Option (List (List Int))
  | 0,_,_,_,_=>none
  | n+1,w_,x18,x_v10,x_v11 =>
    (bif decide (x_v11<((x18.length:Nat):Int)) then
    ((CF x_v10 x_v11).bind fun x36 =>
    ((upd x_v10 x_v11 ([w_.route.fr,w_.route.to_]:List Int)).bind fun u_137 =>
    B4 n w_ x18 u_137 (IntKind.i64.wrap (x_v11+1))))
    else
    some x_v10)
def B5:Nat→AC→((List Bm)×(List A9))→(List (List Int))→Int→Option (List (List Int))
  | 0,_,_,_,_=>none
  | n+1,w_,x41,x_v20,x_v21 =>
    (bif decide (x_v21<((x41.1.length:Nat):Int)) then
    ((CF x41.1 x_v21).bind fun x49 =>
    ((CF x41.2 x_v21).bind fun x56 =>
    ((Ci n w_.route x49 x56).bind fun x58 =>
    ((BG n (fun(s:List (List Int))(x59:Int)(x60:Int)=>(((((fun(y0:Int)=>AL n w_.route y0) x60).bind fun x63 =>
    (bif x63 then
    ((CF s x59).bind fun x68 =>
    ((KY x68 ([x60]:List Int)).bind fun x72 =>
    ((CF s x59).bind fun x73 =>
    ((upd s x59 x72).bind fun u_376 =>
    some u_376))))
    else
    some s)):Option (List (List Int))).bind fun s1=>some (s1,true))) x_v20 x58.1 x58.2.1 x58.2.2).bind fun o_286 =>
    B5 n w_ x41 o_286 (IntKind.i64.wrap (x_v21+1))))))
    else
    some x_v20)
def AK:Nat→(List (List Int))→(List (List Int))→Int→Option (List (List Int))
  | 0,_,_,_=>none
  | n+1,o_204,x_v30,x_v31 =>
    (bif decide (x_v31<((o_204.length:Nat):Int)) then
    ((CF x_v30 x_v31).bind fun x82 =>
    ((MF x82).bind fun u_477 =>
    ((upd x_v30 x_v31 u_477).bind fun u_478 =>
    ((CF u_478 x_v31).bind fun x89 =>
    ((MI x89).bind fun x91 =>
    ((CF u_478 x_v31).bind fun x92 =>
    ((upd u_478 x_v31 x91).bind fun u_536 =>
    AK n o_204 u_536 (IntKind.i64.wrap (x_v31+1)))))))))
    else
    some x_v30)
def Cl (n:Nat) (w_:AC) (t_:AB):Option (List (List Int)) :=
  ((Bp n w_.route).bind fun x17 =>
  ((mk x17 (([]:List Int):List Int)).bind fun x18 =>
  ((B4 n w_ x18 x18 0).bind fun o_95 =>
  ((Ch n w_ t_).bind fun x41 =>
  ((B5 n w_ x41 o_95 0).bind fun o_204 =>
  ((AK n o_204 o_204 0).bind fun o_440 =>
  some o_440))))))
def D1 (n:Nat) (r_:Ag) (a:A0) (t_:AB):Option ((List (List Int))×Int) :=
  ((C1 n r_ a).bind fun x11 =>
  (bif (x11 != 0) then
  some (([]:List (List Int)),x11)
  else
  ((DT n r_ t_).bind fun x17 =>
  (bif (!x17) then
  some (([]:List (List Int)),2)
  else
  ((Cl n (AC.mk r_ a) t_).bind fun x23 =>
  some (x23,0))))))
def Dz:Nat→((List (List Int))×Int)→(List Int)→Int→Option (List Int)
  | 0,_,_,_=>none
  | n+1,x17,x_v10,x_v11 =>
    (bif decide (x_v11<((x17.1.length:Nat):Int)) then
    ((CF x17.1 x_v11).bind fun x27 =>
    ((GV n x27).bind fun x31 =>
    ((KY x_v10 ([x31]:List Int)).bind fun x33 =>
    Dz n x17 x33 (IntKind.i64.wrap (x_v11+1)))))
    else
    some x_v10)
def DM (n:Nat) (r_:Ag) (a:A0) (t_:AB):Option ((List Int)×Int) :=
  ((D1 n r_ a t_).bind fun x17 =>
  (bif (x17.2 != 0) then
  some (([]:List Int),x17.2)
  else
  ((Dz n x17 ([]:List Int) 0).bind fun o_80 =>
  some (o_80,0))))
def DN (n:Nat)  (Q:Bool→Prop):Prop :=
  (∃ x31,(By n )=some x31 ∧
  (∃ x32,(Dx n )=some x32 ∧
  (∃ x34,(D1 n x31 x32 (AB.mk ([0,15]:List Int) ([0,0]:List Int) ([([10,10,10]:List Int),([10,10,10]:List Int),([10,10,10]:List Int)]:List (List Int))))=some x34 ∧
  (∃ x38,(By n )=some x38 ∧
  (∃ x39,(Dx n )=some x39 ∧
  (∃ x41,(DM n x38 x39 (AB.mk ([0,15]:List Int) ([0,0]:List Int) ([([10,10,10]:List Int),([10,10,10]:List Int),([10,10,10]:List Int)]:List (List Int))))=some x41 ∧
  (∃ x45,(By n )=some x45 ∧
  (∃ x46,(It n )=some x46 ∧
  (∃ x47,(Cx n x45 x46)=some x47 ∧
  (bif (x34.2 != 0) then
  Q false
  else
  (bif (((x34.1.length:Nat):Int) != 4) then
  Q false
  else
  (∃ x59,(CF x34.1 0)=some x59 ∧
  (∃ x62,(Dw n x59 ([0,15,50]:List Int))=some x62 ∧
  (bif (!x62) then
  Q false
  else
  (∃ x67,(CF x34.1 1)=some x67 ∧
  (∃ x70,(Dw n x67 ([0,10,25,50]:List Int))=some x70 ∧
  (bif (!x70) then
  Q false
  else
  (∃ x75,(CF x34.1 2)=some x75 ∧
  (∃ x78,(Dw n x75 ([0,20,35,50]:List Int))=some x78 ∧
  (bif (!x78) then
  Q false
  else
  (∃ x83,(CF x34.1 3)=some x83 ∧
  (∃ x86,(Dw n x83 ([0,30,45,50]:List Int))=some x86 ∧
  (bif (!x86) then
  Q false
  else
  (bif (x41.2 != 0) then
  Q false
  else
  (∃ x96,(Dw n x41.1 ([35,25,20,30]:List Int))=some x96 ∧
  (bif (!x96) then
  Q false
  else
  (bif (x47.2 != 0) then
  Q false
  else
  (∃ x106,(Dw n x47.1 ([35,25,35,37]:List Int))=some x106 ∧
  (bif (!x106) then
  Q false
  else
  (∃ x109,(Dx n )=some x109 ∧
  (∃ x110,(Dx n )=some x110 ∧
  (∃ x111,(Dx n )=some x111 ∧
  (∃ x114,(CF x109.holds 0)=some x114 ∧
  (∃ u_612,(upd x109.holds 0 3)=some u_612 ∧
  (∃ x117,(CF x110.turns 0)=some x117 ∧
  (∃ u_639,(upd x110.turns 0 1)=some u_639 ∧
  (∃ x120,(By n )=some x120 ∧
  (∃ x122,(Cx n x120 (A0.mk u_612 x109.turns x109.spares))=some x122 ∧
  (∃ x126,(By n )=some x126 ∧
  (∃ x128,(Cx n x126 (A0.mk x110.holds u_639 x110.spares))=some x128 ∧
  (∃ x132,(By n )=some x132 ∧
  (∃ x134,(Cx n x132 (A0.mk x111.holds x111.turns ([]:List Bool)))=some x134 ∧
  (∃ x139,(CF u_639 0)=some x139 ∧
  (∃ u_811,(upd u_639 0 0)=some u_811 ∧
  (∃ x141,(By n )=some x141 ∧
  (∃ x143,(Cx n x141 (A0.mk x110.holds u_811 x110.spares))=some x143 ∧
  (∃ x148,(CF ([([10,10,10]:List Int),([10,10,10]:List Int),([10,10,10]:List Int)]:List (List Int)) 2)=some x148 ∧
  (∃ x150,(CF ([10,10,10]:List Int) 1)=some x150 ∧
  (∃ u_897,(upd ([10,10,10]:List Int) 1 16)=some u_897 ∧
  (∃ x152,(By n )=some x152 ∧
  (∃ x153,(Dx n )=some x153 ∧
  (∃ x155,(DM n x152 x153 (AB.mk ([0,15]:List Int) ([0,0]:List Int) ([([10,10,10]:List Int),([10,10,10]:List Int),u_897]:List (List Int))))=some x155 ∧
  (∃ x159,(By n )=some x159 ∧
  (∃ x160,(Dx n )=some x160 ∧
  (EU n x159 x160 4 (fun x161 =>
  (∃ x164,(By n )=some x164 ∧
  (∃ x168,(Ev n (Ag.mk x164.legs x164.turn x164.buses x164.spares x164.unit 34 x164.fr x164.to_))=some x168 ∧
  (∃ x171,(By n )=some x171 ∧
  (∃ x172,(By n )=some x172 ∧
  (∃ x173,(By n )=some x173 ∧
  (∃ x174,(mk 5 ((Ct.mk 0 (Rg.mk 0 0)):Ct))=some x174 ∧
  (∃ x178,(OF x172.legs 2)=some x178 ∧
  (∃ x182,(CF x173.buses 0)=some x182 ∧
  (∃ u_1242,(upd x173.buses 0 (Ct.mk 4 x182.tm))=some u_1242 ∧
  (bif (x122.2 == 2) then
  (bif (x128.2 == 2) then
  (bif (x134.2 == 2) then
  (bif (x143.2 == 0) then
  (∃ x201,(Dw n x143.1 ([40,30,45,50]:List Int))=some x201 ∧
  (bif x201 then
  (bif (x155.2 == 2) then
  (bif (x161.2 == 2) then
  (bif (x168.2 == 9) then
  (∃ x217,(Cc n (Ag.mk x171.legs x171.turn x174 x171.spares x171.unit x171.gap x171.fr x171.to_))=some x217 ∧
  (bif (x217 == 3) then
  (∃ x222,(Cc n (Ag.mk x178 x172.turn x172.buses x172.spares x172.unit x172.gap x172.fr x172.to_))=some x222 ∧
  (bif (x222 == 1) then
  (∃ x227,(Cc n (Ag.mk x173.legs x173.turn u_1242 x173.spares x173.unit x173.gap x173.fr x173.to_))=some x227 ∧
  (bif (x227 == 1) then
  (∃ x232,(Cc n (Ag.mk ([]:List Rg) (Rg.mk 0 0) ([]:List Ct) ([]:List AP) 0 0 0 0))=some x232 ∧
  (bif (x232 == 1) then
  (∃ x236,(H5 n )=some x236 ∧
  Q x236)
  else
  Q false))
  else
  Q false))
  else
  Q false))
  else
  Q false))
  else
  Q false)
  else
  Q false)
  else
  Q false)
  else
  Q false))
  else
  Q false)
  else
  Q false)
  else
  Q false)
  else
  Q false))))))))))))))))))))))))))))))))))))))))))))))))))))))))))))))))))
abbrev QZ:=@Option.some.inj
abbrev QY:=@Exists.intro
abbrev QX:=@Option.bind_some
abbrev QW:=@cond_true
abbrev QV:=@cond_false
abbrev QU:=@Ad.le_trans
abbrev QT:=@wp_seq
end Go.Proofs.Ytokchpjijlebiaa
