/- What the functions compute, in plain Lean. -/
import Derived.Test.YtokchpjijlebiaaBGS4
import Derived.Test.YtokchpjijlebiaaProg
set_option linter.all false
namespace Go.Proofs.Ytokchpjijlebiaa
open Go Go.RowKit
open Rep (rep)
open KRep (kv)
open VRep (rv)
structure Rg where
  lo:Int
  hi:Int
deriving DecidableEq,Inhabited
instance : Rep Rg:=Rep.via fun x=>(x.lo,x.hi)
instance : VRep Rg:=VRep.agg Rg
structure Cy where
  stop:Int
  tm:Rg
deriving DecidableEq,Inhabited
instance : Rep Cy:=Rep.via fun x=>(x.stop,x.tm)
instance : VRep Cy:=VRep.agg Cy
structure A7 where
  stop:Int
  tm:Int
deriving DecidableEq,Inhabited
instance : Rep A7:=Rep.via fun x=>(x.stop,x.tm)
instance : VRep A7:=VRep.agg A7
structure Af where
  legs:List Rg
  turn:Rg
  buses:List Cy
  spares:List A7
  unit:Int
  gap:Int
  fr:Int
  to_:Int
deriving DecidableEq,Inhabited
instance : Rep Af:=Rep.via fun x=>(x.legs,x.turn,x.buses,x.spares,x.unit,x.gap,x.fr,x.to_)
instance : VRep Af:=VRep.agg Af
structure Am where
  holds:List Int
  turns:List Int
  spares:List Bool
deriving DecidableEq,Inhabited
instance : Rep Am:=Rep.via fun x=>(x.holds,x.turns,x.spares)
instance : VRep Am:=VRep.agg Am
structure Bd where
  tm:List Int
  turns:List Int
  legs:List (List Int)
deriving DecidableEq,Inhabited
instance : Rep Bd:=Rep.via fun x=>(x.tm,x.turns,x.legs)
instance : VRep Bd:=VRep.agg Bd
structure B3 where
  route:Af
  acts:Am
deriving DecidableEq,Inhabited
instance : Rep B3:=Rep.via fun x=>(x.route,x.acts)
instance : VRep B3:=VRep.agg B3
structure Bi where
  stop:Int
  tm:Int
  turned:Int
deriving DecidableEq,Inhabited
instance : Rep Bi:=Rep.via fun x=>(x.stop,x.tm,x.turned)
instance : VRep Bi:=VRep.agg Bi
structure A5 where
  legs:List Int
  turn:Int
deriving DecidableEq,Inhabited
instance : Rep A5:=Rep.via fun x=>(x.legs,x.turn)
instance : VRep A5:=VRep.agg A5
def Ue (h:Ae) (v:Value) (f:Rg→Option Bool):Prop:=∀ (h':Ae)(w':World),Ae.le h h'→Dn h' w'→∀ (x0:Rg)(cs0:List Value)(_:rep h' x0 cs0)(r:Bool),f x0=some r→J5 Try.prog v #[.agg cs0.toArray] w' (Dp (fun h v=>v=.bool r) h' w')
theorem Ue.mono {h h':Ae} {v:Value} {f:Rg→Option Bool} (H:Ue h v f) (hle:Ae.le h h'):Ue h' v f:=fun h2 w2 l=>H h2 w2 (Ae.le_trans hle l)
instance : Rep (Rg→Option Bool):=⟨1,fun h f cs=>∃ fn first cap,cs=[.func fn first cap]∧Ue h (.func fn first cap) f,fun hle ⟨a,b,c,e,hr⟩=>⟨a,b,c,e,hr.mono hle⟩,fun⟨a,b,c,e,_⟩=>by subst e; rfl,fun⟨a,b,c,e,_⟩ v hv=>by subst e; simp at hv; subst hv; rfl⟩
def Uf (h:Ae) (v:Value) (f:Cy→Option Bool):Prop:=∀ (h':Ae)(w':World),Ae.le h h'→Dn h' w'→∀ (x0:Cy)(cs0:List Value)(_:rep h' x0 cs0)(r:Bool),f x0=some r→J5 Try.prog v #[.agg cs0.toArray] w' (Dp (fun h v=>v=.bool r) h' w')
theorem Uf.mono {h h':Ae} {v:Value} {f:Cy→Option Bool} (H:Uf h v f) (hle:Ae.le h h'):Uf h' v f:=fun h2 w2 l=>H h2 w2 (Ae.le_trans hle l)
instance : Rep (Cy→Option Bool):=⟨1,fun h f cs=>∃ fn first cap,cs=[.func fn first cap]∧Uf h (.func fn first cap) f,fun hle ⟨a,b,c,e,hr⟩=>⟨a,b,c,e,hr.mono hle⟩,fun⟨a,b,c,e,_⟩=>by subst e; rfl,fun⟨a,b,c,e,_⟩ v hv=>by subst e; simp at hv; subst hv; rfl⟩
def Ug (h:Ae) (v:Value) (f:A7→Option Bool):Prop:=∀ (h':Ae)(w':World),Ae.le h h'→Dn h' w'→∀ (x0:A7)(cs0:List Value)(_:rep h' x0 cs0)(r:Bool),f x0=some r→J5 Try.prog v #[.agg cs0.toArray] w' (Dp (fun h v=>v=.bool r) h' w')
theorem Ug.mono {h h':Ae} {v:Value} {f:A7→Option Bool} (H:Ug h v f) (hle:Ae.le h h'):Ug h' v f:=fun h2 w2 l=>H h2 w2 (Ae.le_trans hle l)
instance : Rep (A7→Option Bool):=⟨1,fun h f cs=>∃ fn first cap,cs=[.func fn first cap]∧Ug h (.func fn first cap) f,fun hle ⟨a,b,c,e,hr⟩=>⟨a,b,c,e,hr.mono hle⟩,fun⟨a,b,c,e,_⟩=>by subst e; rfl,fun⟨a,b,c,e,_⟩ v hv=>by subst e; simp at hv; subst hv; rfl⟩
def UK (h:Ae) (v:Value) (f:Rg→Option Int):Prop:=∀ (h':Ae)(w':World),Ae.le h h'→Dn h' w'→∀ (x0:Rg)(cs0:List Value)(_:rep h' x0 cs0)(r:Int),f x0=some r→J5 Try.prog v #[.agg cs0.toArray] w' (Dp (fun h v=>v=.int .i64 r) h' w')
theorem UK.mono {h h':Ae} {v:Value} {f:Rg→Option Int} (H:UK h v f) (hle:Ae.le h h'):UK h' v f:=fun h2 w2 l=>H h2 w2 (Ae.le_trans hle l)
instance : Rep (Rg→Option Int):=⟨1,fun h f cs=>∃ fn first cap,cs=[.func fn first cap]∧UK h (.func fn first cap) f,fun hle ⟨a,b,c,e,hr⟩=>⟨a,b,c,e,hr.mono hle⟩,fun⟨a,b,c,e,_⟩=>by subst e; rfl,fun⟨a,b,c,e,_⟩ v hv=>by subst e; simp at hv; subst hv; rfl⟩
structure Rw where
  of_:Rg→Option Int
instance : Rep Rw:=Rep.via fun x=>(x.of_)
instance : VRep Rw:=VRep.agg Rw
structure AI where
  a0:Int
  a1:Int
  a2:Int
  a3:Int
deriving DecidableEq,Inhabited
instance : Rep AI:=Rep.via fun x=>(x.a0,x.a1,x.a2,x.a3)
instance : VRep AI:=VRep.agg AI
def AI.toL (x:AI):List Int:=[x.a0,x.a1,x.a2,x.a3]
def AI.ofL:List Int→Option AI
  | [a0,a1,a2,a3]=>some ⟨a0,a1,a2,a3⟩
  | _=>none
theorem AI.ofL_some {l:List Int} {y:AI} (h:AI.ofL l=some y):y.toL=l:=by
  unfold AI.ofL at h
  split at h
  · cases h; rfl
  · cases h
def AI.setI (x:AI) (i:Int) (v:Int):Option AI:=(upd x.toL i v).bind AI.ofL
theorem AI.setI_some {x y:AI} {i:Int} {v:Int} (h:x.setI i v=some y):0≤i∧i<4∧y.toL=x.toL.set i.toNat v:=by
  obtain⟨l,hl,h2⟩:=Aq h
  obtain⟨h0,h1,rfl⟩:=F4 hl
  exact⟨h0,h1,AI.ofL_some h2⟩
structure AT where
  a0:Bool
  a1:Bool
deriving DecidableEq,Inhabited
instance : Rep AT:=Rep.via fun x=>(x.a0,x.a1)
instance : VRep AT:=VRep.agg AT
def AT.toL (x:AT):List Bool:=[x.a0,x.a1]
def AT.ofL:List Bool→Option AT
  | [a0,a1]=>some ⟨a0,a1⟩
  | _=>none
theorem AT.ofL_some {l:List Bool} {y:AT} (h:AT.ofL l=some y):y.toL=l:=by
  unfold AT.ofL at h
  split at h
  · cases h; rfl
  · cases h
def AT.setI (x:AT) (i:Int) (v:Bool):Option AT:=(upd x.toL i v).bind AT.ofL
theorem AT.setI_some {x y:AT} {i:Int} {v:Bool} (h:x.setI i v=some y):0≤i∧i<2∧y.toL=x.toL.set i.toNat v:=by
  obtain⟨l,hl,h2⟩:=Aq h
  obtain⟨h0,h1,rfl⟩:=F4 hl
  exact⟨h0,h1,AT.ofL_some h2⟩
structure Ap where
  holds:AI
  turns:AI
  spares:AT
deriving DecidableEq,Inhabited
instance : Rep Ap:=Rep.via fun x=>(x.holds,x.turns,x.spares)
instance : VRep Ap:=VRep.agg Ap
structure QC where
  fr:Int
  long:Int
deriving DecidableEq,Inhabited
instance : Rep QC:=Rep.via fun x=>(x.fr,x.long)
instance : VRep QC:=VRep.agg QC
def US (h:Ae) (v:Value) (f:Int→Option Bool):Prop:=∀ (h':Ae)(w':World),Ae.le h h'→Dn h' w'→∀ (x0:Int)(r:Bool),f x0=some r→J5 Try.prog v #[.int .i64 x0] w' (Dp (fun h v=>v=.bool r) h' w')
theorem US.mono {h h':Ae} {v:Value} {f:Int→Option Bool} (H:US h v f) (hle:Ae.le h h'):US h' v f:=fun h2 w2 l=>H h2 w2 (Ae.le_trans hle l)
instance : Rep (Int→Option Bool):=⟨1,fun h f cs=>∃ fn first cap,cs=[.func fn first cap]∧US h (.func fn first cap) f,fun hle ⟨a,b,c,e,hr⟩=>⟨a,b,c,e,hr.mono hle⟩,fun⟨a,b,c,e,_⟩=>by subst e; rfl,fun⟨a,b,c,e,_⟩ v hv=>by subst e; simp at hv; subst hv; rfl⟩
structure Bb where
  number:Int
  sum:Int
deriving DecidableEq,Inhabited
instance : Rep Bb:=Rep.via fun x=>(x.number,x.sum)
instance : VRep Bb:=VRep.agg Bb
def Tt {σ:Type} (XS:σ→Fr→Ae→Prop) (B:Nat→Prop) (v:Value) (f:σ→Ap→Bb→Option σ):Prop:=∀ (s:σ)(F:Fr)(h:Ae)(w:World)(x0:Ap)(cs0:List Value)(_:rep h x0 cs0)(x1:Bb)(cs1:List Value)(_:rep h x1 cs1)(s':σ),XS s F h→Ah F h [] [] [] w→f s x0 x1=some s'→J5 Try.prog v #[.agg cs0.toArray,.agg cs1.toArray] w (Up XS B F h s')
instance : KRep Ap:=⟨fun x=>.agg #[.int .i64 x.holds.a0,.int .i64 x.holds.a1,.int .i64 x.holds.a2,.int .i64 x.holds.a3,.int .i64 x.turns.a0,.int .i64 x.turns.a1,.int .i64 x.turns.a2,.int .i64 x.turns.a3,.bool x.spares.a0,.bool x.spares.a1],fun {a b} h=>by
  rcases a with⟨⟨a0,a1,a2,a3⟩,⟨a4,a5,a6,a7⟩,⟨a8,a9⟩⟩
  rcases b with⟨⟨b0,b1,b2,b3⟩,⟨b4,b5,b6,b7⟩,⟨b8,b9⟩⟩
  simp_all⟩
def Gs (n:Nat) (n_:Int) (low:Int) (high:Int):Option Bool :=
  (bif decide (n_≥low) then
  some (decide (n_≤high))
  else
  some false)
def Fc (n:Nat) (r_:Af):Option Int :=
  some (IntKind.i64.wrap (((r_.legs.length:Nat):Int)+1))
def FM (n:Nat) (r_:Af):Option Int :=
  some (IntKind.i64.wrap (Int.tdiv (IntKind.i64.wrap (((r_.legs.length:Nat):Int)+1)) 2))
def GS (n:Nat) (r_:Rg) (most:Int):Option Bool :=
  ((Gs n r_.lo 0 r_.hi).bind fun x9 =>
  (bif x9 then
  some (decide (r_.hi≤most))
  else
  some false))
def Iq (n:Nat) (r_:Rg) (high:Bool):Option Int :=
  (bif high then
  some r_.hi
  else
  some r_.lo)
def Js (n:Nat) (r_:Rg):Option Rg :=
  some r_
def DN:Nat→Af→Int→Option (Ex Int Unit)
  | 0,_,_=>none
  | n+1,r_,x_v10 =>
    (bif decide (x_v10<((r_.legs.length:Nat):Int)) then
    ((Co r_.legs x_v10).bind fun x68 =>
    ((GS n x68 300).bind fun x70 =>
    (bif (!x70) then
    some (Ex.ret 1)
    else
    DN n r_ (IntKind.i64.wrap (x_v10+1)))))
    else
    some (Ex.go ()))
def DO:Nat→Af→Int→Option (Ex Int Unit)
  | 0,_,_=>none
  | n+1,r_,x_v20 =>
    (bif decide (x_v20<((r_.buses.length:Nat):Int)) then
    ((Co r_.buses x_v20).bind fun x82 =>
    ((Fc n r_).bind fun x86 =>
    ((Gs n x82.stop 0 (IntKind.i64.wrap (x86-1))).bind fun x88 =>
    (bif (!x88) then
    some (Ex.ret 1)
    else
    ((Co r_.buses x_v20).bind fun x94 =>
    ((GS n x94.tm 2000).bind fun x97 =>
    (bif (!x97) then
    some (Ex.ret 1)
    else
    DO n r_ (IntKind.i64.wrap (x_v20+1)))))))))
    else
    some (Ex.go ()))
def DP:Nat→Af→Int→Option (Ex Int Unit)
  | 0,_,_=>none
  | n+1,r_,x_v30 =>
    (bif decide (x_v30<((r_.spares.length:Nat):Int)) then
    ((Co r_.spares x_v30).bind fun x110 =>
    ((Fc n r_).bind fun x114 =>
    ((Gs n x110.stop 0 (IntKind.i64.wrap (x114-1))).bind fun x116 =>
    (bif (!x116) then
    some (Ex.ret 1)
    else
    ((Co r_.spares x_v30).bind fun x122 =>
    ((Gs n x122.tm 0 2000).bind fun x125 =>
    (bif (!x125) then
    some (Ex.ret 1)
    else
    DP n r_ (IntKind.i64.wrap (x_v30+1)))))))))
    else
    some (Ex.go ()))
def GH (n:Nat) (r_:Af):Option Int :=
  (((bif decide (((r_.buses.length:Nat):Int)>4) then
  some true
  else
  some (decide (((r_.spares.length:Nat):Int)>2))):Option Bool).bind fun o_17 =>
  (bif o_17 then
  some 3
  else
  (((bif ((Int.tmod ((r_.legs.length:Nat):Int) 2) == 0) then
  some true
  else
  (bif decide (((r_.legs.length:Nat):Int)>7) then
  some true
  else
  ((GS n r_.turn 300).bind fun x30 =>
  (bif (!x30) then
  some true
  else
  ((Gs n r_.unit 1 30).bind fun x36 =>
  (bif (!x36) then
  some true
  else
  ((Gs n r_.gap 0 2000).bind fun x42 =>
  (bif (!x42) then
  some true
  else
  ((Gs n r_.fr 0 r_.to_).bind fun x50 =>
  (bif (!x50) then
  some true
  else
  some (decide (r_.to_>2000)))))))))))):Option Bool).bind fun o_36 =>
  (bif o_36 then
  some 1
  else
  ((DN n r_ 0).bind fun o_133=>Ex.bind o_133 (fun r=>some r) fun s_134 =>
  ((DO n r_ 0).bind fun o_188=>Ex.bind o_188 (fun r=>some r) fun s_189 =>
  ((DP n r_ 0).bind fun o_286=>Ex.bind o_286 (fun r=>some r) fun s_287 =>
  some 0)))))))
def Lo (n:Nat) (r_:Af):Option Bool :=
  (bif decide (((r_.legs.length:Nat):Int)≤10) then
  (bif decide (((r_.buses.length:Nat):Int)≤6) then
  some (decide (((r_.spares.length:Nat):Int)≤4))
  else
  some false)
  else
  some false)
def Er:Nat→(List Int)→(List Int)→Int→Option (Ex Bool Unit)
  | 0,_,_,_=>none
  | n+1,a,b,x_v10 =>
    (bif decide (x_v10<((a.length:Nat):Int)) then
    ((Co a x_v10).bind fun x19 =>
    ((Co b x_v10).bind fun x23 =>
    (bif (x19 != x23) then
    some (Ex.ret false)
    else
    Er n a b (IntKind.i64.wrap (x_v10+1)))))
    else
    some (Ex.go ()))
def GT (n:Nat) (a:List Int) (b:List Int):Option Bool :=
  (bif (((a.length:Nat):Int) != ((b.length:Nat):Int)) then
  some false
  else
  ((Er n a b 0).bind fun o_11=>Ex.bind o_11 (fun r=>some r) fun s_12 =>
  some true))
def HO (n:Nat) (l:List Int):Option (List Int) :=
  ((HU ([]:List Int) l).bind fun x4 =>
  some x4)
def Jt (n:Nat) (a:Am):Option Am :=
  ((HO n a.holds).bind fun x5 =>
  ((HO n a.turns).bind fun x8 =>
  ((HU ([]:List Bool) a.spares).bind fun x11 =>
  some (Am.mk x5 x8 x11))))
def Es:Nat→Am→Am→Int→Option (Ex Bool Unit)
  | 0,_,_,_=>none
  | n+1,a,b,x_v10 =>
    (bif decide (x_v10<((a.spares.length:Nat):Int)) then
    ((Co a.spares x_v10).bind fun x39 =>
    ((Co b.spares x_v10).bind fun x44 =>
    (bif (!(x39 == x44)) then
    some (Ex.ret false)
    else
    Es n a b (IntKind.i64.wrap (x_v10+1)))))
    else
    some (Ex.go ()))
def HP (n:Nat) (a:Am) (b:Am):Option Bool :=
  ((((GT n a.holds b.holds).bind fun x10 =>
  (bif (!x10) then
  some true
  else
  ((GT n a.turns b.turns).bind fun x17 =>
  (bif (!x17) then
  some true
  else
  some (((a.spares.length:Nat):Int) != ((b.spares.length:Nat):Int)))))):Option Bool).bind fun o_31 =>
  (bif o_31 then
  some false
  else
  ((Es n a b 0).bind fun o_80=>Ex.bind o_80 (fun r=>some r) fun s_81 =>
  some true)))
def ES:Nat→Am→Int→Int→Option Int
  | 0,_,_,_=>none
  | n+1,a,x_v10,x_v11 =>
    (bif decide (x_v10<((a.holds.length:Nat):Int)) then
    ((Co a.holds x_v10).bind fun x16 =>
    ES n a (IntKind.i64.wrap (x_v10+1)) (IntKind.i64.wrap (x_v11+x16)))
    else
    some x_v11)
def Hn (n:Nat) (a:Am):Option Int :=
  ((ES n a 0 0).bind fun o_22 =>
  some o_22)
def CH:Nat→Am→Int→Int→Option Int
  | 0,_,_,_=>none
  | n+1,a,x_v10,x_v11 =>
    (bif decide (x_v10<((a.holds.length:Nat):Int)) then
    ((Co a.holds x_v10).bind fun x16 =>
    (((bif decide (x16>0) then
    some (IntKind.i64.wrap (x_v11+1))
    else
    some x_v11):Option Int).bind fun o_54 =>
    ((Co a.turns x_v10).bind fun x24 =>
    (bif decide (x24≥0) then
    CH n a (IntKind.i64.wrap (x_v10+1)) (IntKind.i64.wrap (o_54+1))
    else
    CH n a (IntKind.i64.wrap (x_v10+1)) o_54))))
    else
    some x_v11)
def CI:Nat→Am→Int→Int→Option Int
  | 0,_,_,_=>none
  | n+1,a,x_v20,x_v21 =>
    (bif decide (x_v20<((a.spares.length:Nat):Int)) then
    ((Co a.spares x_v20).bind fun x39 =>
    (bif x39 then
    CI n a (IntKind.i64.wrap (x_v20+1)) (IntKind.i64.wrap (x_v21+1))
    else
    CI n a (IntKind.i64.wrap (x_v20+1)) x_v21))
    else
    some x_v21)
def Et (n:Nat) (a:Am):Option Int :=
  ((CH n a 0 0).bind fun o_22 =>
  ((CI n a 0 o_22).bind fun o_94 =>
  some o_94))
def Ju (n:Nat)  : Option Af :=
  some (Af.mk ([Rg.mk 10 10,Rg.mk 5 15,Rg.mk 10 12]:List Rg) (Rg.mk 0 4) ([Cy.mk 0 (Rg.mk 0 0),Cy.mk 0 (Rg.mk 10 20)]:List Cy) ([A7.mk 2 40]:List A7) 5 37 0 50)
def NB (n:Nat)  : Option Am :=
  some (Am.mk ([0,0]:List Int) ([(-1),(-1)]:List Int) ([false]:List Bool))
def NC (n:Nat)  : Option Am :=
  some (Am.mk ([0,1]:List Int) ([(-1),(-1)]:List Int) ([false]:List Bool))
def Dy:Nat→(List Int)→Int→Option (List Int)
  | 0,_,_=>none
  | n+1,x_v10,x_v11 =>
    (bif decide (x_v11<((x_v10.length:Nat):Int)) then
    ((Co x_v10 x_v11).bind fun x27 =>
    ((upd x_v10 x_v11 (-1)).bind fun u_81 =>
    Dy n  u_81 (IntKind.i64.wrap (x_v11+1))))
    else
    some x_v10)
def Cc:Nat→Af→Int→Int→(List Int)→(List Int)→Int→Int→Option (List Int)
  | 0,_,_,_,_,_,_,_=>none
  | n+1,r_,turned,turn,legs,x_v20,x_v21,x_v22 =>
    (bif decide (x_v21<((x_v20.length:Nat):Int)) then
    ((Co x_v20 x_v21).bind fun x36 =>
    ((upd x_v20 x_v21 x_v22).bind fun u_141 =>
    (bif (x_v21 == turned) then
    ((FM n r_).bind fun x41 =>
    Cc n r_ turned turn legs u_141 (IntKind.i64.wrap ((IntKind.i64.wrap ((IntKind.i64.wrap (2*x41))-1))-x_v21)) (IntKind.i64.wrap (x_v22+turn)))
    else
    (bif decide (x_v21<((legs.length:Nat):Int)) then
    ((Co legs x_v21).bind fun x56 =>
    Cc n r_ turned turn legs u_141 (IntKind.i64.wrap (x_v21+1)) (IntKind.i64.wrap (x_v22+x56)))
    else
    Cc n r_ turned turn legs u_141 (IntKind.i64.wrap (x_v21+1)) x_v22))))
    else
    some x_v20)
def FN (n:Nat) (r_:Af) (stop:Int) (at_:Int) (turned:Int) (turn:Int) (legs:List Int):Option (List Int) :=
  ((Fc n r_).bind fun x17 =>
  ((mk x17 (0:Int)).bind fun x18 =>
  ((Dy n  x18 0).bind fun o_50 =>
  ((Cc n r_ turned turn legs o_50 stop at_).bind fun o_110 =>
  some o_110))))
def ET:Nat→Af→Am→Bd→(List (List Int))→Int→Option (List (List Int))
  | 0,_,_,_,_,_=>none
  | n+1,r_,a,t_,x_v10,x_v11 =>
    (bif decide (x_v11<((r_.buses.length:Nat):Int)) then
    ((Co r_.buses x_v11).bind fun x22 =>
    ((Co t_.tm x_v11).bind fun x28 =>
    ((Co a.holds x_v11).bind fun x33 =>
    ((Co a.turns x_v11).bind fun x42 =>
    ((Co t_.turns x_v11).bind fun x47 =>
    ((Co t_.legs x_v11).bind fun x52 =>
    ((FN n r_ x22.stop (IntKind.i64.wrap (x28+(IntKind.i64.wrap (x33*r_.unit)))) x42 x47 x52).bind fun x54 =>
    ((HU x_v10 ([x54]:List (List Int))).bind fun x56 =>
    ET n r_ a t_ x56 (IntKind.i64.wrap (x_v11+1))))))))))
    else
    some x_v10)
def Eu:Nat→Af→Am→Bd→(List (List Int))→Int→Option (List (List Int))
  | 0,_,_,_,_,_=>none
  | n+1,r_,a,t_,x_v20,x_v21 =>
    (bif decide (x_v21<((r_.spares.length:Nat):Int)) then
    ((Co a.spares x_v21).bind fun x67 =>
    (bif x67 then
    ((Co r_.spares x_v21).bind fun x74 =>
    ((Co r_.spares x_v21).bind fun x80 =>
    ((Co t_.legs (IntKind.i64.wrap (((r_.buses.length:Nat):Int)+x_v21))).bind fun x90 =>
    ((FN n r_ x74.stop x80.tm (-1) 0 x90).bind fun x92 =>
    ((HU x_v20 ([x92]:List (List Int))).bind fun x94 =>
    Eu n r_ a t_ x94 (IntKind.i64.wrap (x_v21+1)))))))
    else
    Eu n r_ a t_ x_v20 (IntKind.i64.wrap (x_v21+1))))
    else
    some x_v20)
def Lp (n:Nat) (r_:Af) (a:Am) (t_:Bd):Option (List (List Int)) :=
  ((ET n r_ a t_ ([]:List (List Int)) 0).bind fun o_60 =>
  ((Eu n r_ a t_ o_60 0).bind fun o_213 =>
  some o_213))
def DQ:Nat→Af→(List Rg)→Int→Option (List Rg)
  | 0,_,_,_=>none
  | n+1,r_,x_v10,x_v11 =>
    (bif decide (x_v11<((r_.legs.length:Nat):Int)) then
    ((Co r_.legs x_v11).bind fun x31 =>
    ((Js n x31).bind fun x33 =>
    ((HU x_v10 ([x33]:List Rg)).bind fun x35 =>
    DQ n r_ x35 (IntKind.i64.wrap (x_v11+1)))))
    else
    some x_v10)
def DR:Nat→Af→(List Cy)→Int→Option (List Cy)
  | 0,_,_,_=>none
  | n+1,r_,x_v20,x_v21 =>
    (bif decide (x_v21<((r_.buses.length:Nat):Int)) then
    ((Co r_.buses x_v21).bind fun x49 =>
    ((Co r_.buses x_v21).bind fun x55 =>
    ((Js n x55.tm).bind fun x58 =>
    ((HU x_v20 ([Cy.mk x49.stop x58]:List Cy)).bind fun x61 =>
    DR n r_ x61 (IntKind.i64.wrap (x_v21+1))))))
    else
    some x_v20)
def DS:Nat→Af→(List A7)→Int→Option (List A7)
  | 0,_,_,_=>none
  | n+1,r_,x_v30,x_v31 =>
    (bif decide (x_v31<((r_.spares.length:Nat):Int)) then
    ((Co r_.spares x_v31).bind fun x75 =>
    ((Co r_.spares x_v31).bind fun x81 =>
    ((HU x_v30 ([A7.mk x75.stop x81.tm]:List A7)).bind fun x86 =>
    DS n r_ x86 (IntKind.i64.wrap (x_v31+1)))))
    else
    some x_v30)
def GI (n:Nat) (r_:Af):Option Af :=
  ((Js n r_.turn).bind fun x9 =>
  ((DQ n r_ ([]:List Rg) 0).bind fun o_50 =>
  ((DR n r_ ([]:List Cy) 0).bind fun o_133 =>
  ((DS n r_ ([]:List A7) 0).bind fun o_232 =>
  some (Af.mk o_50 x9 o_133 o_232 r_.unit r_.gap r_.fr r_.to_)))))
def Ng (n:Nat) (r_:Af):Option Bool :=
  ((Lo n r_).bind fun x4 =>
  (bif x4 then
  ((GH n r_).bind fun x7 =>
  (bif (x7 != 0) then
  some true
  else
  (bif decide (((r_.legs.length:Nat):Int)≤5) then
  (bif decide (((r_.buses.length:Nat):Int)≤2) then
  some (decide (((r_.spares.length:Nat):Int)≤1))
  else
  some false)
  else
  some false)))
  else
  some false))
def Ev:Nat→Af→Int→Int→(List Int)→Int→Option (List Int)
  | 0,_,_,_,_,_=>none
  | n+1,r_,late,x_v13,x_v20,x_v21 =>
    (bif decide (x_v21<((r_.legs.length:Nat):Int)) then
    ((Co r_.legs x_v21).bind fun x38 =>
    ((Iq n x38 ((Int.tmod (Int.fdiv late (2 ^ (min (IntKind.u64.wrap x_v13:Int).toNat 64))) 2) == 1)).bind fun x41 =>
    ((HU x_v20 ([x41]:List Int)).bind fun x43 =>
    Ev n r_ late x_v13 x43 (IntKind.i64.wrap (x_v21+1)))))
    else
    some x_v20)
def DJ:Nat→Af→Int→(List Int)→(List Int)→(List (List Int))→Int→Option ((List Int)×(List Int)×(List (List Int)))
  | 0,_,_,_,_,_,_=>none
  | n+1,r_,late,x_v10,x_v11,x_v12,x_v13 =>
    (bif decide (x_v13<(IntKind.i64.wrap (((r_.buses.length:Nat):Int)+((r_.spares.length:Nat):Int)))) then
    ((Uz (IntKind.u64.wrap x_v13)).bind fun x24 =>
    ((Ev n r_ late x_v13 ([]:List Int) 0).bind fun o_96 =>
    ((HU x_v12 ([o_96]:List (List Int))).bind fun x48 =>
    (bif decide (x_v13<((r_.buses.length:Nat):Int)) then
    ((Co r_.buses x_v13).bind fun x60 =>
    ((Iq n x60.tm ((Int.tmod (Int.fdiv late (2 ^ (min (IntKind.u64.wrap x_v13:Int).toNat 64))) 2) == 1)).bind fun x64 =>
    ((HU x_v10 ([x64]:List Int)).bind fun x66 =>
    ((Iq n r_.turn ((Int.tmod (Int.fdiv late (2 ^ (min (IntKind.u64.wrap x_v13:Int).toNat 64))) 2) == 1)).bind fun x72 =>
    ((HU x_v11 ([x72]:List Int)).bind fun x74 =>
    DJ n r_ late x66 x74 x48 (IntKind.i64.wrap (x_v13+1)))))))
    else
    DJ n r_ late x_v10 x_v11 x48 (IntKind.i64.wrap (x_v13+1))))))
    else
    some (x_v10,x_v11,x_v12))
def Jv (n:Nat) (r_:Af) (late:Int):Option Bd :=
  ((DJ n r_ late ([]:List Int) ([]:List Int) ([]:List (List Int)) 0).bind fun o_59 =>
  some (Bd.mk o_59.1 o_59.2.1 o_59.2.2))
def Dg:Nat→Af→Int→(List (List Int))→(List Int)→Int→Option (List Int)
  | 0,_,_,_,_,_=>none
  | n+1,r_,stop,x26,x_v10,x_v11 =>
    (bif decide (x_v11<((x26.length:Nat):Int)) then
    ((Co x26 x_v11).bind fun x35 =>
    ((Co x35 stop).bind fun x38 =>
    ((Gs n x38 r_.fr r_.to_).bind fun x45 =>
    (bif x45 then
    ((HU x_v10 ([x38]:List Int)).bind fun x49 =>
    Dg n r_ stop x26 x49 (IntKind.i64.wrap (x_v11+1)))
    else
    Dg n r_ stop x26 x_v10 (IntKind.i64.wrap (x_v11+1))))))
    else
    some x_v10)
def Dh:Nat→(List Int)→(List Int)→Int→Int→Bool→Option Bool
  | 0,_,_,_,_,_=>none
  | n+1,o_81,x_v20,x_v21,x_v30,x_v31 =>
    (bif decide (x_v30<((x_v20.length:Nat):Int)) then
    (bif x_v31 then
    Dh n o_81 x_v20 x_v21 (IntKind.i64.wrap (x_v30+1)) true
    else
    ((Co x_v20 x_v30).bind fun x66 =>
    ((Co o_81 x_v21).bind fun x70 =>
    Dh n o_81 x_v20 x_v21 (IntKind.i64.wrap (x_v30+1)) (x66 == x70))))
    else
    some x_v31)
def Di:Nat→(List Int)→Int→Option (List Int)
  | 0,_,_=>none
  | n+1,x_v40,x_v41 =>
    (((bif decide (x_v41>0) then
    ((Co x_v40 x_v41).bind fun x90 =>
    ((Co x_v40 (IntKind.i64.wrap (x_v41-1))).bind fun x95 =>
    some (decide (x90<x95))))
    else
    some false):Option Bool).bind fun o_337 =>
    (bif o_337 then
    ((Co x_v40 (IntKind.i64.wrap (x_v41-1))).bind fun x109 =>
    ((Co x_v40 x_v41).bind fun x113 =>
    ((Co x_v40 x_v41).bind fun x115 =>
    ((upd x_v40 x_v41 x109).bind fun u_429 =>
    ((Co u_429 (IntKind.i64.wrap (x_v41-1))).bind fun x116 =>
    ((upd u_429 (IntKind.i64.wrap (x_v41-1)) x113).bind fun u_453 =>
    Di n  u_453 (IntKind.i64.wrap (x_v41-1))))))))
    else
    some x_v40))
def Dj:Nat→(List Int)→(List Int)→Int→Option (List Int)
  | 0,_,_,_=>none
  | n+1,o_81,x_v20,x_v21 =>
    (bif decide (x_v21<((o_81.length:Nat):Int)) then
    ((Dh n o_81 x_v20 x_v21 0 false).bind fun o_208 =>
    (bif o_208 then
    Dj n o_81 x_v20 (IntKind.i64.wrap (x_v21+1))
    else
    ((Co o_81 x_v21).bind fun x78 =>
    ((HU x_v20 ([x78]:List Int)).bind fun x81 =>
    ((Di n  x81 (IntKind.i64.wrap (((x81.length:Nat):Int)-1))).bind fun o_324 =>
    Dj n o_81 o_324 (IntKind.i64.wrap (x_v21+1)))))))
    else
    some x_v20)
def HQ (n:Nat) (r_:Af) (a:Am) (t_:Bd) (stop:Int):Option (List Int) :=
  ((Lp n r_ a t_).bind fun x26 =>
  ((Dg n r_ stop x26 ([r_.fr,r_.to_]:List Int) 0).bind fun o_81 =>
  ((Dj n o_81 ([]:List Int) 0).bind fun o_187 =>
  some o_187)))
def EU:Nat→(List Int)→Int→Int→Option Int
  | 0,_,_,_=>none
  | n+1,x16,x_v10,x_v11 =>
    (bif decide (x_v10<((x16.length:Nat):Int)) then
    ((Co x16 x_v10).bind fun x26 =>
    ((Co x16 (IntKind.i64.wrap (x_v10-1))).bind fun x31 =>
    EU n x16 (IntKind.i64.wrap (x_v10+1)) (if (IntKind.i64.wrap (x26-x31))>x_v11 then(IntKind.i64.wrap (x26-x31)) else x_v11)))
    else
    some x_v11)
def Lq (n:Nat) (r_:Af) (a:Am) (t_:Bd) (stop:Int):Option Int :=
  ((HQ n r_ a t_ stop).bind fun x16 =>
  ((EU n x16 1 0).bind fun o_65 =>
  some o_65))
def DT:Nat→Af→Am→Int→Int→Int→Option Int
  | 0,_,_,_,_,_=>none
  | n+1,r_,a,stop,x_v10,x_v11 =>
    ((Uz (IntKind.u64.wrap (IntKind.i64.wrap (((r_.buses.length:Nat):Int)+((r_.spares.length:Nat):Int))))).bind fun x18 =>
    (bif decide (x_v10<(IntKind.i64.wrap (1*2 ^ (min (IntKind.u64.wrap (IntKind.i64.wrap (((r_.buses.length:Nat):Int)+((r_.spares.length:Nat):Int))):Int).toNat 64)))) then
    ((Jv n r_ x_v10).bind fun x27 =>
    ((Lq n r_ a x27 stop).bind fun x29 =>
    DT n r_ a stop (IntKind.i64.wrap (x_v10+1)) (if x29>x_v11 then x29 else x_v11)))
    else
    some x_v11))
def HR (n:Nat) (r_:Af) (a:Am) (stop:Int):Option Int :=
  ((DT n r_ a stop 0 0).bind fun o_36 =>
  some o_36)
def Dz:Nat→Am→Am→Int→Option (Ex Bool Unit)
  | 0,_,_,_=>none
  | n+1,a,b,x_v10 =>
    (bif decide (x_v10<((a.holds.length:Nat):Int)) then
    ((Co a.holds x_v10).bind fun x38 =>
    ((Co b.holds x_v10).bind fun x43 =>
    (bif (x38 != x43) then
    ((Co a.holds x_v10).bind fun x49 =>
    ((Co b.holds x_v10).bind fun x54 =>
    some (Ex.ret (decide (x49<x54)))))
    else
    Dz n a b (IntKind.i64.wrap (x_v10+1)))))
    else
    some (Ex.go ()))
def D0:Nat→Am→Am→Int→Option (Ex Bool Unit)
  | 0,_,_,_=>none
  | n+1,a,b,x_v20 =>
    (bif decide (x_v20<((a.turns.length:Nat):Int)) then
    ((Co a.turns x_v20).bind fun x67 =>
    ((Co b.turns x_v20).bind fun x72 =>
    (bif (x67 != x72) then
    ((Co a.turns x_v20).bind fun x78 =>
    ((Co b.turns x_v20).bind fun x83 =>
    some (Ex.ret (decide (x78<x83)))))
    else
    D0 n a b (IntKind.i64.wrap (x_v20+1)))))
    else
    some (Ex.go ()))
def D1:Nat→Am→Am→Int→Option (Ex Bool Unit)
  | 0,_,_,_=>none
  | n+1,a,b,x_v30 =>
    (bif decide (x_v30<((a.spares.length:Nat):Int)) then
    ((Co a.spares x_v30).bind fun x96 =>
    ((Co b.spares x_v30).bind fun x101 =>
    (bif (!(x96 == x101)) then
    ((Co b.spares x_v30).bind fun x107 =>
    some (Ex.ret x107))
    else
    D1 n a b (IntKind.i64.wrap (x_v30+1)))))
    else
    some (Ex.go ()))
def GU (n:Nat) (a:Am) (b:Am):Option Bool :=
  ((Et n a).bind fun x9 =>
  ((Et n b).bind fun x11 =>
  (bif (x9 != x11) then
  ((Et n a).bind fun x14 =>
  ((Et n b).bind fun x16 =>
  some (decide (x14<x16))))
  else
  ((Hn n a).bind fun x19 =>
  ((Hn n b).bind fun x21 =>
  (bif (x19 != x21) then
  ((Hn n a).bind fun x24 =>
  ((Hn n b).bind fun x26 =>
  some (decide (x24<x26))))
  else
  ((Dz n a b 0).bind fun o_116=>Ex.bind o_116 (fun r=>some r) fun s_117 =>
  ((D0 n a b 0).bind fun o_203=>Ex.bind o_203 (fun r=>some r) fun s_204 =>
  ((D1 n a b 0).bind fun o_290=>Ex.bind o_290 (fun r=>some r) fun s_291 =>
  some false)))))))))
mutual
def CC:Nat→Af→Am→Int→(List Am)→Int→Option (List Am)
  | 0,_,_,_,_,_=>none
  | n+1,r_,a,x_v11,x_v20,x_v21 =>
    ((FM n r_).bind fun x24 =>
    (bif decide (x_v21≤(IntKind.i64.wrap (x24-2))) then
    (((bif decide (x_v21<0) then
    some true
    else
    ((Co r_.buses ((a.holds.length:Nat):Int)).bind fun x36 =>
    some (decide (x_v21≥x36.stop)))):Option Bool).bind fun o_104 =>
    (bif o_104 then
    ((HU ([]:List Int) a.holds).bind fun x46 =>
    ((HU x46 ([x_v11]:List Int)).bind fun x49 =>
    ((HU ([]:List Int) a.turns).bind fun x53 =>
    ((HU x53 ([x_v21]:List Int)).bind fun x56 =>
    ((ref_Every n r_ (Am.mk x49 x56 ([]:List Bool))).bind fun x58 =>
    ((HU x_v20 x58).bind fun x59 =>
    CC n r_ a x_v11 x59 (IntKind.i64.wrap (x_v21+1))))))))
    else
    CC n r_ a x_v11 x_v20 (IntKind.i64.wrap (x_v21+1))))
    else
    some x_v20))
def Dk:Nat→Af→Am→(List Am)→Int→Option (List Am)
  | 0,_,_,_,_=>none
  | n+1,r_,a,x_v10,x_v11 =>
    (bif decide (x_v11≤2) then
    ((CC n r_ a x_v11 x_v10 (-1)).bind fun o_78 =>
    Dk n r_ a o_78 (IntKind.i64.wrap (x_v11+1)))
    else
    some x_v10)
def Dm:Nat→Af→Am→(List Am)→Int→Option (List Am)
  | 0,_,_,_,_=>none
  | n+1,r_,a,x_v30,x_v31 =>
    (bif decide (x_v31<2) then
    ((HU ([]:List Bool) a.spares).bind fun x81 =>
    ((HU x81 ([x_v31 == 1]:List Bool)).bind fun x85 =>
    ((ref_Every n r_ (Am.mk a.holds a.turns x85)).bind fun x87 =>
    ((HU x_v30 x87).bind fun x88 =>
    Dm n r_ a x88 (IntKind.i64.wrap (x_v31+1))))))
    else
    some x_v30)
def ref_Every:Nat→Af→Am→Option (List Am)
  | 0,_,_=>none
  | n+1,r_,a =>
    (bif decide (((a.holds.length:Nat):Int)<((r_.buses.length:Nat):Int)) then
    ((Dk n r_ a ([]:List Am) 0).bind fun o_51 =>
    some o_51)
    else
    (bif decide (((a.spares.length:Nat):Int)<((r_.spares.length:Nat):Int)) then
    ((Dm n r_ a ([]:List Am) 0).bind fun o_385 =>
    some o_385)
    else
    some ([a]:List Am)))
end
def Bv (n:Nat) (n_:Int) (low:Int) (high:Int):Option Bool :=
  (bif decide (low≤n_) then
  some (decide (n_≤high))
  else
  some false)
def C1 (n:Nat) (n_:Int):Option Bool :=
  ((Bv n n_ 0 2000).bind fun x4 =>
  some x4)
def Bz (n:Nat) (r_:Af):Option Int :=
  some (IntKind.i64.wrap (((r_.legs.length:Nat):Int)+1))
def BE (n:Nat) (r_:Af):Option Int :=
  ((Bz n r_).bind fun x4 =>
  some (IntKind.i64.wrap (Int.tdiv x4 2)))
def BR (n:Nat) (r_:Af) (n_:Int):Option Bool :=
  ((Bz n r_).bind fun x7 =>
  ((Bv n n_ 0 (IntKind.i64.wrap (x7-1))).bind fun x9 =>
  some x9))
def Cp (n:Nat) (r_:Rg) (most:Int):Option Bool :=
  (bif decide (0≤r_.lo) then
  (bif decide (r_.lo≤r_.hi) then
  some (decide (r_.hi≤most))
  else
  some false)
  else
  some false)
def B0 (n:Nat) (r_:Rg):Option Bool :=
  ((Cp n r_ 300).bind fun x4 =>
  some x4)
def Ce (n:Nat) (r_:Rg):Option Int :=
  some r_.lo
def BS (n:Nat) (r_:Rg):Option Int :=
  some r_.hi
def BU (n:Nat) (r_:Af) (n_:Int):Option Bool :=
  ((Bv n n_ r_.fr r_.to_).bind fun x10 =>
  some x10)
def Cj (n:Nat) (r_:Af) (b:Cy) (at_:Int):Option Bool :=
  (bif (at_ == (-1)) then
  some true
  else
  ((BE n r_).bind fun x14 =>
  ((Bv n at_ b.stop (IntKind.i64.wrap (x14-2))).bind fun x16 =>
  some x16)))
def Bk:Nat→B3→Bd→(List Bi)→(List A5)→Int→Option ((List Bi)×(List A5))
  | 0,_,_,_,_,_=>none
  | n+1,w_,t_,x_v10,x_v11,x_v12 =>
    (bif decide (x_v12<((w_.route.buses.length:Nat):Int)) then
    ((Co w_.route.buses x_v12).bind fun x17 =>
    ((Co t_.tm x_v12).bind fun x25 =>
    ((Co w_.acts.holds x_v12).bind fun x31 =>
    ((Co w_.acts.turns x_v12).bind fun x42 =>
    ((HU x_v10 ([Bi.mk x17.stop (IntKind.i64.wrap (x25+(IntKind.i64.wrap (x31*w_.route.unit)))) x42]:List Bi)).bind fun x46 =>
    ((Co t_.legs x_v12).bind fun x51 =>
    ((Co t_.turns x_v12).bind fun x56 =>
    ((HU x_v11 ([A5.mk x51 x56]:List A5)).bind fun x60 =>
    Bk n w_ t_ x46 x60 (IntKind.i64.wrap (x_v12+1))))))))))
    else
    some (x_v10,x_v11))
def AW:Nat→B3→Bd→(List Bi)→(List A5)→Int→Option ((List Bi)×(List A5))
  | 0,_,_,_,_,_=>none
  | n+1,w_,t_,x_v20,x_v21,x_v22 =>
    (bif decide (x_v22<((w_.route.spares.length:Nat):Int)) then
    ((Co w_.route.spares x_v22).bind fun x69 =>
    ((Co w_.acts.spares x_v22).bind fun x75 =>
    (bif x75 then
    ((HU x_v20 ([Bi.mk x69.stop x69.tm (-1)]:List Bi)).bind fun x84 =>
    ((Co t_.legs (IntKind.i64.wrap (((w_.route.buses.length:Nat):Int)+x_v22))).bind fun x94 =>
    ((HU x_v21 ([A5.mk x94 0]:List A5)).bind fun x98 =>
    AW n w_ t_ x84 x98 (IntKind.i64.wrap (x_v22+1)))))
    else
    AW n w_ t_ x_v20 x_v21 (IntKind.i64.wrap (x_v22+1)))))
    else
    some (x_v20,x_v21))
def BV (n:Nat) (w_:B3) (t_:Bd):Option ((List Bi)×(List A5)) :=
  ((Bk n w_ t_ ([]:List Bi) ([]:List A5) 0).bind fun o_63 =>
  ((AW n w_ t_ o_63.1 o_63.2 0).bind fun o_248 =>
  some (o_248.1,o_248.2)))
def B4 (n:Nat) (b:Cy) (q0:Af):Option Bool :=
  ((BR n q0 b.stop).bind fun x7 =>
  (bif x7 then
  ((Cp n b.tm 2000).bind fun x11 =>
  some x11)
  else
  some false))
def B5 (n:Nat) (s:A7) (q0:Af):Option Bool :=
  ((BR n q0 s.stop).bind fun x7 =>
  (bif x7 then
  ((C1 n s.tm).bind fun x11 =>
  some x11)
  else
  some false))
def As:Nat→(List Rg)→(Rg→Option Bool)→Int→Option (Ex Int Unit)
  | 0,_,_,_=>none
  | n+1,s,f,x_v10 =>
    (bif decide (x_v10<((s.length:Nat):Int)) then
    ((Co s x_v10).bind fun x14 =>
    ((f x14).bind fun x16 =>
    (bif x16 then
    some (Ex.ret x_v10)
    else
    As n s f (IntKind.i64.wrap (x_v10+1)))))
    else
    some (Ex.go ()))
def AE (n:Nat) (s:List Rg) (f:Rg→Option Bool):Option Int :=
  ((As n s f 0).bind fun o_6=>Ex.bind o_6 (fun r=>some r) fun s_7 =>
  some (-1))
def Aw:Nat→(List Cy)→(Cy→Option Bool)→Int→Option (Ex Int Unit)
  | 0,_,_,_=>none
  | n+1,s,f,x_v10 =>
    (bif decide (x_v10<((s.length:Nat):Int)) then
    ((Co s x_v10).bind fun x14 =>
    ((f x14).bind fun x16 =>
    (bif x16 then
    some (Ex.ret x_v10)
    else
    Aw n s f (IntKind.i64.wrap (x_v10+1)))))
    else
    some (Ex.go ()))
def AV (n:Nat) (s:List Cy) (f:Cy→Option Bool):Option Int :=
  ((Aw n s f 0).bind fun o_6=>Ex.bind o_6 (fun r=>some r) fun s_7 =>
  some (-1))
def At:Nat→(List A7)→(A7→Option Bool)→Int→Option (Ex Int Unit)
  | 0,_,_,_=>none
  | n+1,s,f,x_v10 =>
    (bif decide (x_v10<((s.length:Nat):Int)) then
    ((Co s x_v10).bind fun x14 =>
    ((f x14).bind fun x16 =>
    (bif x16 then
    some (Ex.ret x_v10)
    else
    At n s f (IntKind.i64.wrap (x_v10+1)))))
    else
    some (Ex.go ()))
def AF (n:Nat) (s:List A7) (f:A7→Option Bool):Option Int :=
  ((At n s f 0).bind fun o_6=>Ex.bind o_6 (fun r=>some r) fun s_7 =>
  some (-1))
def A9 (n:Nat) (s:List Rg) (f:Rg→Option Bool):Option Bool :=
  ((AE n s f).bind fun x7 =>
  some (decide (x7≥0)))
def AH (n:Nat) (s:List Cy) (f:Cy→Option Bool):Option Bool :=
  ((AV n s f).bind fun x7 =>
  some (decide (x7≥0)))
def AA (n:Nat) (s:List A7) (f:A7→Option Bool):Option Bool :=
  ((AF n s f).bind fun x7 =>
  some (decide (x7≥0)))
def AL (n:Nat) (x:Rg) (q0:Rg→Option Bool):Option Bool :=
  ((q0 x).bind fun x6 =>
  some (!x6))
def AY (n:Nat) (x:Cy) (q0:Cy→Option Bool):Option Bool :=
  ((q0 x).bind fun x6 =>
  some (!x6))
def AM (n:Nat) (x:A7) (q0:A7→Option Bool):Option Bool :=
  ((q0 x).bind fun x6 =>
  some (!x6))
def BJ (n:Nat) (l:List Rg) (right:Rg→Option Bool):Option Bool :=
  ((A9 n l (fun(y0:Rg)=>AL n y0 right)).bind fun x7 =>
  some (!x7))
def BW (n:Nat) (l:List Cy) (right:Cy→Option Bool):Option Bool :=
  ((AH n l (fun(y0:Cy)=>AY n y0 right)).bind fun x7 =>
  some (!x7))
def BK (n:Nat) (l:List A7) (right:A7→Option Bool):Option Bool :=
  ((AA n l (fun(y0:A7)=>AM n y0 right)).bind fun x7 =>
  some (!x7))
def BM (n:Nat) (r_:Af):Option Int :=
  (((bif decide (((r_.buses.length:Nat):Int)>4) then
  some true
  else
  some (decide (((r_.spares.length:Nat):Int)>2))):Option Bool).bind fun o_31 =>
  (bif o_31 then
  some 3
  else
  (((bif ((Int.tmod ((r_.legs.length:Nat):Int) 2) == 0) then
  some true
  else
  ((BE n r_).bind fun x26 =>
  (bif decide (x26>4) then
  some true
  else
  ((BJ n r_.legs (fun(y0:Rg)=>B0 n y0)).bind fun x32 =>
  (bif (!x32) then
  some true
  else
  ((B0 n r_.turn).bind fun x38 =>
  (bif (!x38) then
  some true
  else
  ((BW n r_.buses (fun(y0:Cy)=>B4 n y0 r_)).bind fun x45 =>
  (bif (!x45) then
  some true
  else
  ((BK n r_.spares (fun(y0:A7)=>B5 n y0 r_)).bind fun x52 =>
  some (!x52))))))))))):Option Bool).bind fun o_50 =>
  (bif o_50 then
  some 1
  else
  ((Bv n r_.unit 1 30).bind fun x58 =>
  (bif (!x58) then
  some 1
  else
  ((C1 n r_.gap).bind fun x63 =>
  (bif (!x63) then
  some 1
  else
  ((C1 n r_.fr).bind fun x69 =>
  (bif (!x69) then
  some 1
  else
  ((C1 n r_.to_).bind fun x75 =>
  (bif (!x75) then
  some 1
  else
  (bif decide (r_.fr>r_.to_) then
  some 1
  else
  some 0)))))))))))))
def Cm:Nat→Af→Am→Int→Option (Ex Int Unit)
  | 0,_,_,_=>none
  | n+1,r_,a,x_v10 =>
    (bif decide (x_v10<((r_.buses.length:Nat):Int)) then
    ((Co r_.buses x_v10).bind fun x44 =>
    ((Co a.holds x_v10).bind fun x49 =>
    ((Bv n x49 0 2).bind fun x51 =>
    (bif (!x51) then
    some (Ex.ret 2)
    else
    ((Co a.turns x_v10).bind fun x59 =>
    ((Cj n r_ x44 x59).bind fun x61 =>
    (bif (!x61) then
    some (Ex.ret 2)
    else
    Cm n r_ a (IntKind.i64.wrap (x_v10+1)))))))))
    else
    some (Ex.go ()))
def EV (n:Nat) (r_:Af) (a:Am):Option Int :=
  ((BM n r_).bind fun x9 =>
  (bif (x9 != 0) then
  some x9
  else
  (((bif (((a.holds.length:Nat):Int) != ((r_.buses.length:Nat):Int)) then
  some true
  else
  (bif (((a.turns.length:Nat):Int) != ((r_.buses.length:Nat):Int)) then
  some true
  else
  some (((a.spares.length:Nat):Int) != ((r_.spares.length:Nat):Int)))):Option Bool).bind fun o_48 =>
  (bif o_48 then
  some 2
  else
  ((Cm n r_ a 0).bind fun o_77=>Ex.bind o_77 (fun r=>some r) fun s_78 =>
  some 0)))))
def Br (n:Nat) (s:List Int):Option (List Int) :=
  ((HU ([]:List Int) s).bind fun x7 =>
  some x7)
def Cf (n:Nat) (s:List Bool):Option (List Bool) :=
  ((HU ([]:List Bool) s).bind fun x7 =>
  some x7)
def B6:Nat→(List Int)→Int→Int→Option Int
  | 0,_,_,_=>none
  | n+1,x,x_v10,x_v11 =>
    (bif decide (x_v10<((x.length:Nat):Int)) then
    ((Co x x_v10).bind fun x21 =>
    B6 n x (IntKind.i64.wrap (x_v10+1)) (if x21>x_v11 then x21 else x_v11))
    else
    some x_v11)
def DU (n:Nat) (x:List Int):Option Int :=
  (bif decide (((x.length:Nat):Int)<1) then
  none
  else
  ((Co x 0).bind fun x10 =>
  ((B6 n x 1 x10).bind fun o_25 =>
  some o_25)))
def Bh:Nat→(List Int)→Int→Int→Option Int
  | 0,_,_,_=>none
  | n+1,x,x_v10,x_v11 =>
    (bif decide (x_v10<((x.length:Nat):Int)) then
    ((Co x x_v10).bind fun x21 =>
    Bh n x (IntKind.i64.wrap (x_v10+1)) (if x21<x_v11 then x21 else x_v11))
    else
    some x_v11)
def CQ (n:Nat) (x:List Int):Option Int :=
  (bif decide (((x.length:Nat):Int)<1) then
  none
  else
  ((Co x 0).bind fun x10 =>
  ((Bh n x 1 x10).bind fun o_25 =>
  some o_25)))
def Ew (n:Nat) (l:List Int):Option Int :=
  ((DU n l).bind fun x4 =>
  some x4)
def BI (n:Nat) (l:List Int):Option Int :=
  ((CQ n l).bind fun x4 =>
  some x4)
def B7:Nat→Af→Rw→(List Int)→Int→Option (List Int)
  | 0,_,_,_,_=>none
  | n+1,r_,e,x_v10,x_v11 =>
    (bif decide (x_v11<((r_.legs.length:Nat):Int)) then
    ((Co r_.legs x_v11).bind fun x15 =>
    ((e.of_ x15).bind fun x21 =>
    ((HU x_v10 ([x21]:List Int)).bind fun x23 =>
    B7 n r_ e x23 (IntKind.i64.wrap (x_v11+1)))))
    else
    some x_v10)
def B8:Nat→Af→Rw→(List Int)→(List Int)→(List Int)→(List (List Int))→Int→Option ((List Int)×(List Int)×(List Int)×(List (List Int)))
  | 0,_,_,_,_,_,_,_=>none
  | n+1,r_,e,x_v20,x_v21,x_v22,x_v23,x_v24 =>
    (bif decide (x_v24<((r_.buses.length:Nat):Int)) then
    ((Co r_.buses x_v24).bind fun x30 =>
    ((e.of_ x30.tm).bind fun x38 =>
    ((HU x_v21 ([x38]:List Int)).bind fun x40 =>
    ((e.of_ r_.turn).bind fun x47 =>
    ((HU x_v22 ([x47]:List Int)).bind fun x49 =>
    ((Br n x_v20).bind fun x53 =>
    ((HU x_v23 ([x53]:List (List Int))).bind fun x55 =>
    B8 n r_ e x_v20 x40 x49 x55 (IntKind.i64.wrap (x_v24+1)))))))))
    else
    some (x_v20,x_v21,x_v22,x_v23))
def B9:Nat→Af→(List Int)→(List (List Int))→Int→Option ((List Int)×(List (List Int)))
  | 0,_,_,_,_=>none
  | n+1,r_,x_v30,x_v31,x_v32 =>
    (bif decide (x_v32<((r_.spares.length:Nat):Int)) then
    ((Br n x_v30).bind fun x68 =>
    ((HU x_v31 ([x68]:List (List Int))).bind fun x70 =>
    B9 n r_ x_v30 x70 (IntKind.i64.wrap (x_v32+1))))
    else
    some (x_v30,x_v31))
def Cq (n:Nat) (r_:Af) (e:Rw):Option Bd :=
  ((B7 n r_ e ([]:List Int) 0).bind fun o_45 =>
  ((B8 n r_ e o_45 ([]:List Int) ([]:List Int) ([]:List (List Int)) 0).bind fun o_163 =>
  ((B9 n r_ o_163.1 o_163.2.2.2 0).bind fun o_561 =>
  some (Bd.mk o_163.2.1 o_163.2.2.1 o_561.2))))
def AG {σ:Type}:Nat→(σ→Int→Int→Option (σ×Bool))→Bi→Af→A5→Int→Int→σ→Option (Ex σ σ)
  | 0,_,_,_,_,_,_,_=>none
  | n+1,yield_,q0,q1,q2,x_v10,x_v11,x_v12 =>
    ((((BR n q1 x_v11).bind fun x13 =>
    (bif x13 then
    ((yield_ x_v12 x_v11 x_v10).bind fun x18 =>
    some (x18.2,x18.1))
    else
    some (false,x_v12))):Option (Bool×σ)).bind fun o_36 =>
    (bif o_36.1 then
    (bif (x_v11 == q0.turned) then
    ((Bz n q1).bind fun x26 =>
    AG n yield_ q0 q1 q2 (IntKind.i64.wrap (x_v10+q2.turn)) (IntKind.i64.wrap ((IntKind.i64.wrap (x26-1))-x_v11)) o_36.2)
    else
    (bif decide (x_v11<((q2.legs.length:Nat):Int)) then
    ((Co q2.legs x_v11).bind fun x44 =>
    AG n yield_ q0 q1 q2 (IntKind.i64.wrap (x_v10+x44)) (IntKind.i64.wrap (x_v11+1)) o_36.2)
    else
    some (Ex.ret o_36.2)))
    else
    some (Ex.go o_36.2)))
def Bs {σ:Type} (n:Nat) (yield_:σ→Int→Int→Option (σ×Bool)) (s:σ) (q0:Bi) (q1:Af) (q2:A5):Option σ :=
  ((AG n yield_ q0 q1 q2 q0.tm q0.stop s).bind fun o_22=>Ex.bind o_22 (fun r=>some r) fun s_23 =>
  some s_23)
def BT (n:Nat) (d:Ap) (r_:Af):Option Am :=
  ((NT ([d.holds.a0,d.holds.a1,d.holds.a2,d.holds.a3]:List Int) ((r_.buses.length:Nat):Int)).bind fun x9 =>
  ((NT ([d.turns.a0,d.turns.a1,d.turns.a2,d.turns.a3]:List Int) ((r_.buses.length:Nat):Int)).bind fun x15 =>
  ((NT ([d.spares.a0,d.spares.a1]:List Bool) ((r_.spares.length:Nat):Int)).bind fun x21 =>
  ((Br n x9).bind fun x10 =>
  ((Br n x15).bind fun x16 =>
  ((Cf n x21).bind fun x22 =>
  some (Am.mk x10 x16 x22)))))))
def C2 (n:Nat) (r_:Af) (x:Bi) (t_:A5):Option (Bi×Af×A5) :=
  some (x,r_,t_)
def AN:Nat→Af→(List Int)→(List (Int×Rg))→(((List Int)×(List (Int×Rg)))→Prop)→Prop
  | 0,_,_,_,_=>False
  | n+1,r_,x_v10,x_v11,K =>
    ((x_v11=[] →
    K (x_v10,x_v11))∧(∀ k_79 x_80 rem_82,List.Perm x_v11 ((k_79,x_80)::rem_82) →
    (∃ x29,((fun(y0:Int)=>BU n r_ y0) x_80.lo)=some x29 ∧
    (bif x29 then
    (∃ x34,(HU x_v10 ([x_80.lo]:List Int))=some x34 ∧
    AN n r_ x34 rem_82 K)
    else
    AN n r_ x_v10 rem_82 K))))
def AO:Nat→Int→Int→(List (Int×Rg))→((Int×(List (Int×Rg)))→Prop)→Prop
  | 0,_,_,_,_=>False
  | n+1,x42,x_v30,x_v31,K =>
    ((x_v31=[] →
    K (x_v30,x_v31))∧(∀ k_242 x_243 rem_245,List.Perm x_v31 ((k_242,x_243)::rem_245) →
    (bif decide (x_243.lo>x42) then
    (∃ x60,(BI n ([x_v30,x_243.hi]:List Int))=some x60 ∧
    AO n x42 x60 rem_245 K)
    else
    AO n x42 x_v30 rem_245 K)))
def AP:Nat→Af→(EY Int Rg)→((List Int)×(List (Int×Rg)))→(List Int)→Int→Int→Int→(((List Int)×Int×Int)→Prop)→Prop
  | 0,_,_,_,_,_,_,_,_=>False
  | n+1,r_,spans,s_59,x_v20,x_v21,x_v22,x_v23,K =>
    (bif decide (x_v21<((s_59.1.length:Nat):Int)) then
    (∃ x42,(Co x_v20 x_v21)=some x42 ∧
    (AO n x42 r_.to_ spans.l (fun s_222 =>
    (bif decide ((IntKind.i64.wrap (s_222.1-x42))>x_v23) then
    AP n r_ spans s_59 x_v20 (IntKind.i64.wrap (x_v21+1)) x42 (IntKind.i64.wrap (s_222.1-x42)) K
    else
    AP n r_ spans s_59 x_v20 (IntKind.i64.wrap (x_v21+1)) x_v22 x_v23 K))))
    else
    K (x_v20,x_v22,x_v23))
def EI (n:Nat) (r_:Af) (spans:EY Int Rg) (Q:QC→Prop):Prop :=
  (AN n r_ ([r_.fr]:List Int) spans.l (fun s_59 =>
  (AP n r_ spans s_59 s_59.1 0 r_.fr 0 (fun s_170 =>
  Q (QC.mk s_170.2.1 s_170.2.2)))))
def A4 (m to_:Int) (l:List (Int×Rg)):Int:=l.foldl (fun e p=>if p.2.lo>m then min e p.2.hi else e) to_
def Ey (r:Af) (l:List (Int×Rg)):List Int:=r.fr::(l.filter fun p=>decide (r.fr≤p.2.lo) && decide (p.2.lo≤r.to_)).map fun p=>p.2.lo
def BF (n:Nat) (r_:Af) (spans:EY Int Rg):Option Int :=
  if 2*spans.l.length+20≤n∧spans.l.length<1000000 then some ((Ey r_ spans.l).foldl (fun b m=>max b (IntKind.i64.wrap (A4 m r_.to_ spans.l-m))) 0) else none
def Bl:Nat→(List (Option (List (Int×Rg))))→(List (Option (List (Int×Rg))))→Int→Option (List (Option (List (Int×Rg))))
  | 0,_,_,_=>none
  | n+1,x18,x_v10,x_v11 =>
    (bif decide (x_v11<((x18.length:Nat):Int)) then
    ((Co x_v10 x_v11).bind fun x27 =>
    ((upd x_v10 x_v11 (some ([]:List (Int×Rg)))).bind fun u_114 =>
    Bl n x18 u_114 (IntKind.i64.wrap (x_v11+1))))
    else
    some x_v10)
def Bm:Nat→B3→((List Bi)×(List A5))→((List Bi)×(List A5))→(List (Option (List (Int×Rg))))→Int→Option (List (Option (List (Int×Rg))))
  | 0,_,_,_,_,_=>none
  | n+1,w_,x35,x44,x_v20,x_v21 =>
    (bif decide (x_v21<((x35.1.length:Nat):Int)) then
    ((Co x35.1 x_v21).bind fun x52 =>
    ((Co x35.2 x_v21).bind fun x59 =>
    ((C2 n w_.route x52 x59).bind fun x61 =>
    ((Bs n (fun(s:List (Option (List (Int×Rg))))(x62:Int)(x63:Int)=>((((Co s x62).bind fun x66 =>
    (x66.bind fun m_359 =>
    ((upd s x62 (some (EJ m_359 x_v21 (Rg.mk x63 x63)))).bind fun u_366 =>
    some u_366))):Option (List (Option (List (Int×Rg))))).bind fun s1=>some (s1,true))) x_v20 x61.1 x61.2.1 x61.2.2).bind fun o_315 =>
    ((Co x44.1 x_v21).bind fun x76 =>
    ((Co x44.2 x_v21).bind fun x80 =>
    ((C2 n w_.route x76 x80).bind fun x82 =>
    ((Bs n (fun(s:List (Option (List (Int×Rg))))(x83:Int)(x84:Int)=>((((Co s x83).bind fun x87 =>
    ((Co s x83).bind fun x92 =>
    (x92.bind fun m_514 =>
    ((some (Gg m_514 x_v21 ((Rg.mk 0 0):Rg))).bind fun x95 =>
    (x87.bind fun m_527 =>
    ((upd s x83 (some (EJ m_527 x_v21 (Rg.mk x95.1.lo x84)))).bind fun u_534 =>
    some u_534)))))):Option (List (Option (List (Int×Rg))))).bind fun s1=>some (s1,true))) o_315 x82.1 x82.2.1 x82.2.2).bind fun o_456 =>
    Bm n w_ x35 x44 o_456 (IntKind.i64.wrap (x_v21+1))))))))))
    else
    some x_v20)
def BX (n:Nat) (w_:B3):Option (List (EY Int Rg)) :=
  ((Bz n w_.route).bind fun x17 =>
  ((mk x17 (none:Option (List (Int×Rg)))).bind fun x18 =>
  ((Bl n x18 x18 0).bind fun o_76 =>
  ((Cq n w_.route (Rw.mk (fun(y0:Rg)=>Ce n y0))).bind fun x34 =>
  ((BV n w_ x34).bind fun x35 =>
  ((Cq n w_.route (Rw.mk (fun(y0:Rg)=>BS n y0))).bind fun x43 =>
  ((BV n w_ x43).bind fun x44 =>
  ((Bm n w_ x35 x44 o_76 0).bind fun o_227 =>
  ((List.mapM id o_227).bind fun l_579 =>
  some (l_579.map EY.mk))))))))))
def Bn:Nat→B3→(List (EY Int Rg))→(List Int)→Int→Option (List Int)
  | 0,_,_,_,_=>none
  | n+1,w_,x6,x_v10,x_v11 =>
    (bif decide (x_v11<((x6.length:Nat):Int)) then
    ((Co x6 x_v11).bind fun x10 =>
    ((BF n w_.route x10).bind fun x16 =>
    ((HU x_v10 ([x16]:List Int)).bind fun x19 =>
    Bn n w_ x6 x19 (IntKind.i64.wrap (x_v11+1)))))
    else
    some x_v10)
def BY (n:Nat) (w_:B3):Option (List Int) :=
  ((BX n w_).bind fun x6 =>
  ((Bn n w_ x6 ([]:List Int) 0).bind fun o_52 =>
  some o_52))
def Bt:Nat→Af→Int→(List (EY Int Rg))→Int→Option Bool
  | 0,_,_,_,_=>none
  | n+1,r_,most,x17,x_v10 =>
    (bif decide (x_v10<((x17.length:Nat):Int)) then
    ((Co x17 x_v10).bind fun x21 =>
    ((BF n r_ x21).bind fun x25 =>
    (bif decide (x25>most) then
    some false
    else
    Bt n r_ most x17 (IntKind.i64.wrap (x_v10+1)))))
    else
    some true)
def C9 (n:Nat) (r_:Af) (d:Ap) (most:Int):Option Bool :=
  ((BT n d r_).bind fun x14 =>
  ((BX n (B3.mk r_ x14)).bind fun x17 =>
  ((Bt n r_ most x17 0).bind fun o_65 =>
  some o_65)))
mutual
def AQ {σ:Type}:Nat→(σ→Ap→Bb→Option σ)→Ap→Bb→Int→Int→Af→Int→AI→σ→Option (AI×σ)
  | 0,_,_,_,_,_,_,_,_,_=>none
  | n+1,see_,d,c,at_,buses,r_,x_v10,x_v11,x_v12 =>
    (bif decide (x_v10<3) then
    ((UJ 4 at_).bind fun x27 =>
    ((AI.setI x_v11 at_ x_v10).bind fun u_57 =>
    ((control_Route_every_1 n see_ (Ap.mk u_57 d.turns d.spares) (Bb.mk (IntKind.i64.wrap (c.number+(if 1<x_v10 then 1 else x_v10))) (IntKind.i64.wrap (c.sum+x_v10))) (IntKind.i64.wrap (at_+1)) buses r_ x_v12).bind fun x42 =>
    AQ n see_ d c at_ buses r_ (IntKind.i64.wrap (x_v10+1)) u_57 x42)))
    else
    some (x_v11,x_v12))
def AB {σ:Type}:Nat→(σ→Ap→Bb→Option σ)→Ap→Bb→Int→Int→Af→Int→AI→σ→Option (AI×σ)
  | 0,_,_,_,_,_,_,_,_,_=>none
  | n+1,see_,d,c,at_,buses,r_,x_v20,x_v21,x_v22 =>
    ((BE n r_).bind fun x51 =>
    (bif decide (x_v20<x51) then
    ((Co r_.buses (IntKind.i64.wrap (at_-buses))).bind fun x61 =>
    ((Cj n r_ x61 x_v20).bind fun x64 =>
    (bif x64 then
    ((UJ 4 (IntKind.i64.wrap (at_-buses))).bind fun x70 =>
    ((AI.setI x_v21 (IntKind.i64.wrap (at_-buses)) x_v20).bind fun u_165 =>
    ((control_Route_every_1 n see_ (Ap.mk d.holds u_165 d.spares) (Bb.mk (IntKind.i64.wrap (c.number+(if 1<(IntKind.i64.wrap (x_v20+1)) then 1 else(IntKind.i64.wrap (x_v20+1))))) c.sum) (IntKind.i64.wrap (at_+1)) buses r_ x_v22).bind fun x84 =>
    AB n see_ d c at_ buses r_ (IntKind.i64.wrap (x_v20+1)) u_165 x84)))
    else
    AB n see_ d c at_ buses r_ (IntKind.i64.wrap (x_v20+1)) x_v21 x_v22)))
    else
    some (x_v21,x_v22)))
def AR {σ:Type}:Nat→(σ→Ap→Bb→Option σ)→Ap→Bb→Int→Int→Af→Int→AT→σ→Option (AT×σ)
  | 0,_,_,_,_,_,_,_,_,_=>none
  | n+1,see_,d,c,at_,buses,r_,x_v30,x_v31,x_v32 =>
    (bif decide (x_v30<2) then
    ((UJ 2 (IntKind.i64.wrap (at_-(IntKind.i64.wrap (2*buses))))).bind fun x104 =>
    ((AT.setI x_v31 (IntKind.i64.wrap (at_-(IntKind.i64.wrap (2*buses)))) (x_v30 == 1)).bind fun u_241 =>
    ((control_Route_every_1 n see_ (Ap.mk d.holds d.turns u_241) (Bb.mk (IntKind.i64.wrap (c.number+x_v30)) c.sum) (IntKind.i64.wrap (at_+1)) buses r_ x_v32).bind fun x116 =>
    AR n see_ d c at_ buses r_ (IntKind.i64.wrap (x_v30+1)) u_241 x116)))
    else
    some (x_v31,x_v32))
def control_Route_every_1 {σ:Type}:Nat→(σ→Ap→Bb→Option σ)→Ap→Bb→Int→Int→Af→σ→Option σ
  | 0,_,_,_,_,_,_,_=>none
  | n+1,see_,d,c,at_,buses,r_,s =>
    (bif decide (at_<buses) then
    ((AQ n see_ d c at_ buses r_ 0 d.holds s).bind fun o_33 =>
    some o_33.2)
    else
    (bif decide (at_<(IntKind.i64.wrap (2*buses))) then
    ((AB n see_ d c at_ buses r_ (-1) d.turns s).bind fun o_107 =>
    some o_107.2)
    else
    (bif decide (at_<(IntKind.i64.wrap ((IntKind.i64.wrap (2*buses))+((r_.spares.length:Nat):Int)))) then
    ((AR n see_ d c at_ buses r_ 0 d.spares s).bind fun o_217 =>
    some o_217.2)
    else
    ((see_ s d c).bind fun x16 =>
    some x16))))
end
def B2 {σ:Type} (n:Nat) (see_:σ→Ap→Bb→Option σ) (r_:Af) (s:σ):Option σ :=
  ((control_Route_every_1 n see_ (Ap.mk (AI.mk 0 0 0 0) (AI.mk 0 0 0 0) (AT.mk false false)) (Bb.mk 0 0) 0 ((r_.buses.length:Nat):Int) r_ s).bind fun x13 =>
  some x13)
def Cg (n:Nat) (d:Ap) (c:Bb) (found:Bool) (least:Bb) (best:Ap) (r_:Af):Option (Bool×Bb×Ap) :=
  (((bif found then
  (bif ((c.number == least.number) && ((c.sum == least.sum) && true)) then
  some true
  else
  (bif decide (c.number>least.number) then
  some true
  else
  (bif (c.number == least.number) then
  some (decide (c.sum>least.sum))
  else
  some false)))
  else
  some false):Option Bool).bind fun o_21 =>
  (bif o_21 then
  some (found,least,best)
  else
  ((C9 n r_ d r_.gap).bind fun x39 =>
  (bif x39 then
  some (true,c,d)
  else
  some (found,least,best)))))
def Ei (h0:Ae) (b_found b_least b_best:Nat) (s:Bool×Bb×Ap) (F:Fr) (h:Ae):Prop:=Ae.le h0 h∧(b_found≠b_least∧b_found≠b_best∧b_least≠b_best∧True)∧(F.X b_found=some (.cells ([.bool s.1]:List Value).toArray 4 (0,0))∧∀ o,F.h b_found o=none)∧(F.X b_least=some (.cells ([.int .i64 s.2.1.number,.int .i64 s.2.1.sum]:List Value).toArray 104 (0,0))∧∀ o,F.h b_least o=none)∧(F.X b_best=some (.cells ([.int .i64 s.2.2.holds.a0,.int .i64 s.2.2.holds.a1,.int .i64 s.2.2.holds.a2,.int .i64 s.2.2.holds.a3,.int .i64 s.2.2.turns.a0,.int .i64 s.2.2.turns.a1,.int .i64 s.2.2.turns.a2,.int .i64 s.2.2.turns.a3,.bool s.2.2.spares.a0,.bool s.2.2.spares.a1]:List Value).toArray 102 (0,0))∧∀ o,F.h b_best o=none)∧True
def FO (b_found b_least b_best:Nat) (b:Nat):Prop:=b=b_found∨b=b_least∨b=b_best
def CD (n:Nat) (r_:Af):Option (Am×Int) :=
  ((BM n r_).bind fun x9 =>
  (bif (x9 != 0) then
  some ((Am.mk ([]:List Int) ([]:List Int) ([]:List Bool)),x9)
  else
  ((B2 n (fun s y0 y1=>Cg n y0 y1 s.1 s.2.1 s.2.2 r_) r_ (false,Bb.mk 0 0,(Ap.mk (AI.mk 0 0 0 0) (AI.mk 0 0 0 0) (AT.mk false false)))).bind fun x16 =>
  (bif (!x16.1) then
  some ((Am.mk ([]:List Int) ([]:List Int) ([]:List Bool)),9)
  else
  ((BT n x16.2.2 r_).bind fun x22 =>
  some (x22,0))))))
def BH (n:Nat) (d:Ap) (p1:Bb) (least:Int) (tried:List (Ap×Int)) (r_:Af):Option ((List (Ap×Int))×Int) :=
  ((some (Gg tried d (0:Int))).bind fun x12 =>
  (bif (!x12.2) then
  ((BT n d r_).bind fun x22 =>
  ((BY n (B3.mk r_ x22)).bind fun x24 =>
  ((Ew n x24).bind fun x25 =>
  ((some (Gg (EJ tried d x25) d (0:Int))).bind fun x29 =>
  ((BI n ([least,x29.1]:List Int)).bind fun x31 =>
  some ((EJ tried d x25),x31))))))
  else
  ((some (Gg tried d (0:Int))).bind fun x29 =>
  ((BI n ([least,x29.1]:List Int)).bind fun x31 =>
  some (tried,x31)))))
def DV (h0:Ae) (b_least bm_tried:Nat) (s:(List (Ap×Int))×Int) (F:Fr) (h:Ae):Prop:=Ae.le h0 h∧(b_least≠bm_tried∧True)∧∃ (es_137:Array MapEntry)(cl_138:Nat),(F.X b_least=some (.cells ([.int .i64 s.2]:List Value).toArray 3 (0,0))∧∀ o,F.h b_least o=none)∧F.X bm_tried=some (.map es_137 cl_138)∧DW h es_137.toList cl_138 s.1∧True
def Fx (b_least bm_tried:Nat) (b:Nat):Prop:=b=b_least∨b=bm_tried
def CJ (n:Nat) (r_:Af):Option (Int×Int) :=
  ((BM n r_).bind fun x8 =>
  (bif (x8 != 0) then
  some (0,x8)
  else
  ((B2 n (fun s y0 y1=>BH n y0 y1 s.2 s.1 r_) r_ (([]:List (Ap×Int)),IntKind.i64.wrap (r_.to_-r_.fr))).bind fun x20 =>
  some (x20.2,0))))
def H3 (n:Nat) (r_:Af) (a:Am):Option ((List Int)×Int) :=
  ((EV n r_ a).bind fun x9 =>
  (bif (x9 != 0) then
  some (([]:List Int),x9)
  else
  ((BY n (B3.mk r_ a)).bind fun x16 =>
  some (x16,0))))
def Fd (n:Nat)  : Option Bool :=
  ((Ju n ).bind fun x8 =>
  ((NB n ).bind fun x9 =>
  ((H3 n x8 x9).bind fun x10 =>
  ((Ju n ).bind fun x14 =>
  ((CD n x14).bind fun x15 =>
  ((Ju n ).bind fun x19 =>
  ((CJ n x19).bind fun x20 =>
  (bif (x10.2 == 0) then
  ((GT n x10.1 ([40,30,30,37]:List Int)).bind fun x28 =>
  (bif x28 then
  (bif (x15.2 == 0) then
  ((NC n ).bind fun x36 =>
  ((HP n (Am.mk x15.1.holds x15.1.turns x15.1.spares) x36).bind fun x37 =>
  (bif x37 then
  (bif (x20.2 == 0) then
  some (x20.1 == 35)
  else
  some false)
  else
  some false)))
  else
  some false)
  else
  some false))
  else
  some false))))))))
def Bj:Nat→Af→(List Am)→Int→Int→Int→Option Int
  | 0,_,_,_,_,_=>none
  | n+1,r_,x65,x_v10,x_v20,x_v21 =>
    ((Fc n r_).bind fun x74 =>
    (bif decide (x_v20<x74) then
    ((Co x65 x_v10).bind fun x82 =>
    ((HR n r_ x82 x_v20).bind fun x85 =>
    Bj n r_ x65 x_v10 (IntKind.i64.wrap (x_v20+1)) (if x85>x_v21 then x85 else x_v21)))
    else
    some x_v21))
def AJ:Nat→Af→(List Am)→Int→Int→Int→Option (Int×Int)
  | 0,_,_,_,_,_=>none
  | n+1,r_,x65,x_v10,x_v11,x_v12 =>
    (bif decide (x_v10<((x65.length:Nat):Int)) then
    ((Bj n r_ x65 x_v10 0 0).bind fun o_218 =>
    (((bif decide (x_v11<0) then
    some true
    else
    some (decide (o_218<x_v11))):Option Bool).bind fun o_285 =>
    (((bif o_285 then
    some o_218
    else
    some x_v11):Option Int).bind fun o_301 =>
    (bif decide (o_218≤r_.gap) then
    (bif decide (x_v12<0) then
    AJ n r_ x65 (IntKind.i64.wrap (x_v10+1)) o_301 x_v10
    else
    ((Co x65 x_v10).bind fun x105 =>
    ((Co x65 x_v12).bind fun x109 =>
    ((GU n x105 x109).bind fun x111 =>
    (bif x111 then
    AJ n r_ x65 (IntKind.i64.wrap (x_v10+1)) o_301 x_v10
    else
    AJ n r_ x65 (IntKind.i64.wrap (x_v10+1)) o_301 x_v12)))))
    else
    AJ n r_ x65 (IntKind.i64.wrap (x_v10+1)) o_301 x_v12))))
    else
    some (x_v11,x_v12))
def EA (n:Nat) (r_:Af):Option Bool :=
  ((Ng n r_).bind fun x15 =>
  (bif (!x15) then
  ((Fd n ).bind fun x17 =>
  some x17)
  else
  ((GI n r_).bind fun x20 =>
  ((CD n x20).bind fun x21 =>
  ((GI n r_).bind fun x26 =>
  ((CJ n x26).bind fun x27 =>
  ((GH n r_).bind fun x31 =>
  (bif (x31 != 0) then
  (((bif (x21.2 == x31) then
  (bif (x27.2 == x31) then
  (bif (x27.1 == 0) then
  (bif ((IntKind.i64.wrap ((IntKind.i64.wrap (((x21.1.holds.length:Nat):Int)+((x21.1.turns.length:Nat):Int)))+((x21.1.spares.length:Nat):Int))) == 0) then
  ((Fd n ).bind fun x61 =>
  some x61)
  else
  some false)
  else
  some false)
  else
  some false)
  else
  some false):Option Bool).bind fun o_132 =>
  some o_132)
  else
  ((ref_Every n r_ (Am.mk ([]:List Int) ([]:List Int) ([]:List Bool))).bind fun x65 =>
  ((AJ n r_ x65 0 (-1) (-1)).bind fun o_197 =>
  (((bif (x27.2 != 0) then
  some true
  else
  some (x27.1 != o_197.1)):Option Bool).bind fun o_400 =>
  (bif o_400 then
  some false
  else
  (bif decide (o_197.2<0) then
  (((bif (x21.2 == 9) then
  (bif ((IntKind.i64.wrap ((IntKind.i64.wrap (((x21.1.holds.length:Nat):Int)+((x21.1.turns.length:Nat):Int)))+((x21.1.spares.length:Nat):Int))) == 0) then
  ((Fd n ).bind fun x141 =>
  some x141)
  else
  some false)
  else
  some false):Option Bool).bind fun o_422 =>
  some o_422)
  else
  (bif (x21.2 == 0) then
  ((Co x65 o_197.2).bind fun x149 =>
  ((Jt n x149).bind fun x151 =>
  ((HP n (Am.mk x21.1.holds x21.1.turns x21.1.spares) x151).bind fun x152 =>
  (bif x152 then
  ((Fd n ).bind fun x155 =>
  some x155)
  else
  some false))))
  else
  some false))))))))))))))
abbrev XZ:=@Option.some.inj
abbrev XY:=@Exists.intro
abbrev XX:=@Option.bind_some
abbrev XW:=@cond_true
abbrev XV:=@cond_false
abbrev XU:=@Ae.le_trans
abbrev XT:=@wp_seq
end Go.Proofs.Ytokchpjijlebiaa
