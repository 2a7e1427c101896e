/- What the functions compute, in plain Lean. -/
import Derived.Test.YtokchpjijlebiaaGreatRQS7
import Derived.Test.YtokchpjijlebiaaGreatProg
set_option linter.all false
namespace Go.Proofs.YtokchpjijlebiaaGreat
open Go Go.RowKit
open Rep (rep)
open KRep (kv)
open VRep (rv)
structure Rg where
  lo:Int
  hi:Int
deriving DecidableEq,Inhabited
instance : Rep Rg:=Rep.via fun x=>(x.lo,x.hi)
instance : VRep Rg:=VRep.agg Rg
structure CW where
  stop:Int
  tm:Rg
deriving DecidableEq,Inhabited
instance : Rep CW:=Rep.via fun x=>(x.stop,x.tm)
instance : VRep CW:=VRep.agg CW
structure AK where
  stop:Int
  tm:Int
deriving DecidableEq,Inhabited
instance : Rep AK:=Rep.via fun x=>(x.stop,x.tm)
instance : VRep AK:=VRep.agg AK
structure Af where
  lA:List Rg
  turn:Rg
  lB:List CW
  lC:List AK
  lI:Int
  gap:Int
  fr:Int
  to_:Int
deriving DecidableEq,Inhabited
instance : Rep Af:=Rep.via fun x=>(x.lA,x.turn,x.lB,x.lC,x.lI,x.gap,x.fr,x.to_)
instance : VRep Af:=VRep.agg Af
structure An where
  lD:List Int
  lE:List Int
  lC:List Bool
deriving DecidableEq,Inhabited
instance : Rep An:=Rep.via fun x=>(x.lD,x.lE,x.lC)
instance : VRep An:=VRep.agg An
structure Ap where
  tm:List Int
  lE:List Int
  lA:List (List Int)
deriving DecidableEq,Inhabited
instance : Rep Ap:=Rep.via fun x=>(x.tm,x.lE,x.lA)
instance : VRep Ap:=VRep.agg Ap
structure AM where
  lH:Af
  acts:An
deriving DecidableEq,Inhabited
instance : Rep AM:=Rep.via fun x=>(x.lH,x.acts)
instance : VRep AM:=VRep.agg AM
structure Bj where
  stop:Int
  tm:Int
  lF:Int
deriving DecidableEq,Inhabited
instance : Rep Bj:=Rep.via fun x=>(x.stop,x.tm,x.lF)
instance : VRep Bj:=VRep.agg Bj
structure A8 where
  lA:List Int
  turn:Int
deriving DecidableEq,Inhabited
instance : Rep A8:=Rep.via fun x=>(x.lA,x.turn)
instance : VRep A8:=VRep.agg A8
def Vf (h:Ae) (v:Value) (f:Rg→Option Bool):Prop:=∀ (h':Ae)(w':World),Ae.le h h'→Dk h' w'→∀ (x0:Rg)(cs0:List Value)(_:rep h' x0 cs0)(r:Bool),f x0=some r→JB Tryz.prog v #[.agg cs0.toArray] w' (Dq (fun h v=>v=.bool r) h' w')
theorem Vf.mono {h h':Ae} {v:Value} {f:Rg→Option Bool} (H:Vf h v f) (hle:Ae.le h h'):Vf h' v f:=fun h2 w2 l=>H h2 w2 (Ae.le_trans hle l)
instance : Rep (Rg→Option Bool):=⟨1,fun h f cs=>∃ fn first cap,cs=[.func fn first cap]∧Vf h (.func fn first cap) f,fun hle ⟨a,b,c,e,hr⟩=>⟨a,b,c,e,hr.mono hle⟩,fun⟨a,b,c,e,_⟩=>by subst e; rfl,fun⟨a,b,c,e,_⟩ v hv=>by subst e; simp at hv; subst hv; rfl⟩
def Vg (h:Ae) (v:Value) (f:CW→Option Bool):Prop:=∀ (h':Ae)(w':World),Ae.le h h'→Dk h' w'→∀ (x0:CW)(cs0:List Value)(_:rep h' x0 cs0)(r:Bool),f x0=some r→JB Tryz.prog v #[.agg cs0.toArray] w' (Dq (fun h v=>v=.bool r) h' w')
theorem Vg.mono {h h':Ae} {v:Value} {f:CW→Option Bool} (H:Vg h v f) (hle:Ae.le h h'):Vg h' v f:=fun h2 w2 l=>H h2 w2 (Ae.le_trans hle l)
instance : Rep (CW→Option Bool):=⟨1,fun h f cs=>∃ fn first cap,cs=[.func fn first cap]∧Vg h (.func fn first cap) f,fun hle ⟨a,b,c,e,hr⟩=>⟨a,b,c,e,hr.mono hle⟩,fun⟨a,b,c,e,_⟩=>by subst e; rfl,fun⟨a,b,c,e,_⟩ v hv=>by subst e; simp at hv; subst hv; rfl⟩
def Vh (h:Ae) (v:Value) (f:AK→Option Bool):Prop:=∀ (h':Ae)(w':World),Ae.le h h'→Dk h' w'→∀ (x0:AK)(cs0:List Value)(_:rep h' x0 cs0)(r:Bool),f x0=some r→JB Tryz.prog v #[.agg cs0.toArray] w' (Dq (fun h v=>v=.bool r) h' w')
theorem Vh.mono {h h':Ae} {v:Value} {f:AK→Option Bool} (H:Vh h v f) (hle:Ae.le h h'):Vh h' v f:=fun h2 w2 l=>H h2 w2 (Ae.le_trans hle l)
instance : Rep (AK→Option Bool):=⟨1,fun h f cs=>∃ fn first cap,cs=[.func fn first cap]∧Vh h (.func fn first cap) f,fun hle ⟨a,b,c,e,hr⟩=>⟨a,b,c,e,hr.mono hle⟩,fun⟨a,b,c,e,_⟩=>by subst e; rfl,fun⟨a,b,c,e,_⟩ v hv=>by subst e; simp at hv; subst hv; rfl⟩
def QW (h:Ae) (v:Value) (f:Rg→Option Int):Prop:=∀ (h':Ae)(w':World),Ae.le h h'→Dk h' w'→∀ (x0:Rg)(cs0:List Value)(_:rep h' x0 cs0)(r:Int),f x0=some r→JB Tryz.prog v #[.agg cs0.toArray] w' (Dq (fun h v=>v=.int .i64 r) h' w')
theorem QW.mono {h h':Ae} {v:Value} {f:Rg→Option Int} (H:QW h v f) (hle:Ae.le h h'):QW h' v f:=fun h2 w2 l=>H h2 w2 (Ae.le_trans hle l)
instance : Rep (Rg→Option Int):=⟨1,fun h f cs=>∃ fn first cap,cs=[.func fn first cap]∧QW h (.func fn first cap) f,fun hle ⟨a,b,c,e,hr⟩=>⟨a,b,c,e,hr.mono hle⟩,fun⟨a,b,c,e,_⟩=>by subst e; rfl,fun⟨a,b,c,e,_⟩ v hv=>by subst e; simp at hv; subst hv; rfl⟩
structure HJ where
  of_:Rg→Option Int
instance : Rep HJ:=Rep.via fun x=>(x.of_)
instance : VRep HJ:=VRep.agg HJ
structure AS where
  a0:Int
  a1:Int
  a2:Int
  a3:Int
deriving DecidableEq,Inhabited
instance : Rep AS:=Rep.via fun x=>(x.a0,x.a1,x.a2,x.a3)
instance : VRep AS:=VRep.agg AS
def AS.toL (x:AS):List Int:=[x.a0,x.a1,x.a2,x.a3]
def AS.ofL:List Int→Option AS
  | [a0,a1,a2,a3]=>some ⟨a0,a1,a2,a3⟩
  | _=>none
theorem AS.ofL_some {l:List Int} {y:AS} (h:AS.ofL l=some y):y.toL=l:=by
  unfold AS.ofL at h
  split at h
  · cases h; rfl
  · cases h
def AS.setI (x:AS) (i:Int) (v:Int):Option AS:=(upd x.toL i v).bind AS.ofL
theorem AS.setI_some {x y:AS} {i:Int} {v:Int} (h:x.setI i v=some y):0≤i∧i<4∧y.toL=x.toL.set i.toNat v:=by
  obtain⟨l,hl,h2⟩:=Av h
  obtain⟨h0,h1,rfl⟩:=Er hl
  exact⟨h0,h1,AS.ofL_some h2⟩
structure Bd where
  a0:Bool
  a1:Bool
deriving DecidableEq,Inhabited
instance : Rep Bd:=Rep.via fun x=>(x.a0,x.a1)
instance : VRep Bd:=VRep.agg Bd
def Bd.toL (x:Bd):List Bool:=[x.a0,x.a1]
def Bd.ofL:List Bool→Option Bd
  | [a0,a1]=>some ⟨a0,a1⟩
  | _=>none
theorem Bd.ofL_some {l:List Bool} {y:Bd} (h:Bd.ofL l=some y):y.toL=l:=by
  unfold Bd.ofL at h
  split at h
  · cases h; rfl
  · cases h
def Bd.setI (x:Bd) (i:Int) (v:Bool):Option Bd:=(upd x.toL i v).bind Bd.ofL
theorem Bd.setI_some {x y:Bd} {i:Int} {v:Bool} (h:x.setI i v=some y):0≤i∧i<2∧y.toL=x.toL.set i.toNat v:=by
  obtain⟨l,hl,h2⟩:=Av h
  obtain⟨h0,h1,rfl⟩:=Er hl
  exact⟨h0,h1,Bd.ofL_some h2⟩
structure Ar where
  lD:AS
  lE:AS
  lC:Bd
deriving DecidableEq,Inhabited
instance : Rep Ar:=Rep.via fun x=>(x.lD,x.lE,x.lC)
instance : VRep Ar:=VRep.agg Ar
structure KP where
  fr:Int
  long:Int
deriving DecidableEq,Inhabited
instance : Rep KP:=Rep.via fun x=>(x.fr,x.long)
instance : VRep KP:=VRep.agg KP
def VZ (h:Ae) (v:Value) (f:Int→Option Bool):Prop:=∀ (h':Ae)(w':World),Ae.le h h'→Dk h' w'→∀ (x0:Int)(r:Bool),f x0=some r→JB Tryz.prog v #[.int .i64 x0] w' (Dq (fun h v=>v=.bool r) h' w')
theorem VZ.mono {h h':Ae} {v:Value} {f:Int→Option Bool} (H:VZ h v f) (hle:Ae.le h h'):VZ h' v f:=fun h2 w2 l=>H h2 w2 (Ae.le_trans hle l)
instance : Rep (Int→Option Bool):=⟨1,fun h f cs=>∃ fn first cap,cs=[.func fn first cap]∧VZ h (.func fn first cap) f,fun hle ⟨a,b,c,e,hr⟩=>⟨a,b,c,e,hr.mono hle⟩,fun⟨a,b,c,e,_⟩=>by subst e; rfl,fun⟨a,b,c,e,_⟩ v hv=>by subst e; simp at hv; subst hv; rfl⟩
structure Bn where
  lJ:Int
  sum:Int
deriving DecidableEq,Inhabited
instance : Rep Bn:=Rep.via fun x=>(x.lJ,x.sum)
instance : VRep Bn:=VRep.agg Bn
def Uo {σ:Type} (XS:σ→Fr→Ae→Prop) (B:Nat→Prop) (v:Value) (f:σ→Ar→Bn→Option σ):Prop:=∀ (s:σ)(F:Fr)(h:Ae)(w:World)(x0:Ar)(cs0:List Value)(_:rep h x0 cs0)(x1:Bn)(cs1:List Value)(_:rep h x1 cs1)(s':σ),XS s F h→Ah F h [] [] [] w→f s x0 x1=some s'→JB Tryz.prog v #[.agg cs0.toArray,.agg cs1.toArray] w (Vq XS B F h s')
instance : KRep Ar:=⟨fun x=>.agg #[.int .i64 x.lD.a0,.int .i64 x.lD.a1,.int .i64 x.lD.a2,.int .i64 x.lD.a3,.int .i64 x.lE.a0,.int .i64 x.lE.a1,.int .i64 x.lE.a2,.int .i64 x.lE.a3,.bool x.lC.a0,.bool x.lC.a1],fun {a b} h=>by
  rcases a with⟨⟨a0,a1,a2,a3⟩,⟨a4,a5,a6,a7⟩,⟨a8,a9⟩⟩
  rcases b with⟨⟨b0,b1,b2,b3⟩,⟨b4,b5,b6,b7⟩,⟨b8,b9⟩⟩
  simp_all⟩
def Fg (n:Nat) (n_:Int) (low:Int) (high:Int):Option Bool :=
  (bif decide (n_≥low) then
  some (decide (n_≤high))
  else
  some false)
def F0 (n:Nat) (r_:Af):Option Int :=
  some (IntKind.i64.wrap (((r_.lA.length:Nat):Int)+1))
def Hh (n:Nat) (r_:Af):Option Int :=
  some (IntKind.i64.wrap (Int.tdiv (IntKind.i64.wrap (((r_.lA.length:Nat):Int)+1)) 2))
def Hi (n:Nat) (r_:Rg) (most:Int):Option Bool :=
  ((Fg n r_.lo 0 r_.hi).bind fun x9 =>
  (bif x9 then
  some (decide (r_.hi≤most))
  else
  some false))
def Jy (n:Nat) (r_:Rg):Option Rg :=
  some r_
def Eb:Nat→Af→Int→Option (Ex Int Unit)
  | 0,_,_=>none
  | n+1,r_,aA =>
    (bif decide (aA<((r_.lA.length:Nat):Int)) then
    ((Cm r_.lA aA).bind fun dW =>
    ((Hi n dW 300).bind fun fE =>
    (bif (!fE) then
    some (Ex.ret 1)
    else
    Eb n r_ (IntKind.i64.wrap (aA+1)))))
    else
    some (Ex.go ()))
def Ec:Nat→Af→Int→Option (Ex Int Unit)
  | 0,_,_=>none
  | n+1,r_,aC =>
    (bif decide (aC<((r_.lB.length:Nat):Int)) then
    ((Cm r_.lB aC).bind fun eK =>
    ((F0 n r_).bind fun dI =>
    ((Fg n eK.stop 0 (IntKind.i64.wrap (dI-1))).bind fun x88 =>
    (bif (!x88) then
    some (Ex.ret 1)
    else
    ((Cm r_.lB aC).bind fun cC =>
    ((Hi n cC.tm 2000).bind fun eB =>
    (bif (!eB) then
    some (Ex.ret 1)
    else
    Ec n r_ (IntKind.i64.wrap (aC+1)))))))))
    else
    some (Ex.go ()))
def Ed:Nat→Af→Int→Option (Ex Int Unit)
  | 0,_,_=>none
  | n+1,r_,aH =>
    (bif decide (aH<((r_.lC.length:Nat):Int)) then
    ((Cm r_.lC aH).bind fun bX =>
    ((F0 n r_).bind fun iA =>
    ((Fg n bX.stop 0 (IntKind.i64.wrap (iA-1))).bind fun gG =>
    (bif (!gG) then
    some (Ex.ret 1)
    else
    ((Cm r_.lC aH).bind fun gH =>
    ((Fg n gH.tm 0 2000).bind fun fS =>
    (bif (!fS) then
    some (Ex.ret 1)
    else
    Ed n r_ (IntKind.i64.wrap (aH+1)))))))))
    else
    some (Ex.go ()))
def HU (n:Nat) (r_:Af):Option Int :=
  (((bif decide (((r_.lB.length:Nat):Int)>4) then
  some true
  else
  some (decide (((r_.lC.length:Nat):Int)>2))):Option Bool).bind fun o_17 =>
  (bif o_17 then
  some 3
  else
  (((bif ((Int.tmod ((r_.lA.length:Nat):Int) 2) == 0) then
  some true
  else
  (bif decide (((r_.lA.length:Nat):Int)>7) then
  some true
  else
  ((Hi n r_.turn 300).bind fun cQ =>
  (bif (!cQ) then
  some true
  else
  ((Fg n r_.lI 1 30).bind fun bZ =>
  (bif (!bZ) then
  some true
  else
  ((Fg n r_.gap 0 2000).bind fun cK =>
  (bif (!cK) then
  some true
  else
  ((Fg n r_.fr 0 r_.to_).bind fun x50 =>
  (bif (!x50) then
  some true
  else
  some (decide (r_.to_>2000)))))))))))):Option Bool).bind fun iM =>
  (bif iM then
  some 1
  else
  ((Eb n r_ 0).bind fun jP=>Ex.bind jP (fun r=>some r) fun s_134 =>
  ((Ec n r_ 0).bind fun o_188=>Ex.bind o_188 (fun r=>some r) fun s_189 =>
  ((Ed n r_ 0).bind fun jQ=>Ex.bind jQ (fun r=>some r) fun s_287 =>
  some 0)))))))
def Lw (n:Nat) (r_:Af):Option Bool :=
  (bif decide (((r_.lA.length:Nat):Int)≤10) then
  (bif decide (((r_.lB.length:Nat):Int)≤6) then
  some (decide (((r_.lC.length:Nat):Int)≤4))
  else
  some false)
  else
  some false)
def Gw:Nat→(List Int)→(List Int)→Int→Option (Ex Bool Unit)
  | 0,_,_,_=>none
  | n+1,a,b,aA =>
    (bif decide (aA<((a.length:Nat):Int)) then
    ((Cm a aA).bind fun fR =>
    ((Cm b aA).bind fun gD =>
    (bif (fR != gD) then
    some (Ex.ret false)
    else
    Gw n a b (IntKind.i64.wrap (aA+1)))))
    else
    some (Ex.go ()))
def Jz (n:Nat) (a:List Int) (b:List Int):Option Bool :=
  (bif (((a.length:Nat):Int) != ((b.length:Nat):Int)) then
  some false
  else
  ((Gw n a b 0).bind fun o_11=>Ex.bind o_11 (fun r=>some r) fun s_12 =>
  some true))
def Dz (n:Nat) (l:List Int):Option (List Int) :=
  ((Jj ([]:List Int) l).bind fun x4 =>
  some x4)
def FB (n:Nat) (a:An):Option An :=
  ((Dz n a.lD).bind fun x5 =>
  ((Dz n a.lE).bind fun x8 =>
  ((Jj ([]:List Bool) a.lC).bind fun cW =>
  some (An.mk x5 x8 cW))))
def Gx (n:Nat) (a:An):Option An :=
  ((Dz n a.lD).bind fun x5 =>
  ((Dz n a.lE).bind fun x8 =>
  ((Jj ([]:List Bool) a.lC).bind fun cW =>
  some (An.mk x5 x8 cW))))
def Gy:Nat→An→An→Int→Option (Ex Bool Unit)
  | 0,_,_,_=>none
  | n+1,a,b,aA =>
    (bif decide (aA<((a.lC.length:Nat):Int)) then
    ((Cm a.lC aA).bind fun iN =>
    ((Cm b.lC aA).bind fun cU =>
    (bif (!(iN == cU)) then
    some (Ex.ret false)
    else
    Gy n a b (IntKind.i64.wrap (aA+1)))))
    else
    some (Ex.go ()))
def Oo (n:Nat) (a:An) (b:An):Option Bool :=
  ((((Jz n a.lD b.lD).bind fun bP =>
  (bif (!bP) then
  some true
  else
  ((Jz n a.lE b.lE).bind fun bM =>
  (bif (!bM) then
  some true
  else
  some (((a.lC.length:Nat):Int) != ((b.lC.length:Nat):Int)))))):Option Bool).bind fun gP =>
  (bif gP then
  some false
  else
  ((Gy n a b 0).bind fun o_80=>Ex.bind o_80 (fun r=>some r) fun s_81 =>
  some true)))
def CE:Nat→Af→An→Int→Option (Ex Bool Unit)
  | 0,_,_,_=>none
  | n+1,r_,a,aA =>
    (bif decide (aA<((r_.lB.length:Nat):Int)) then
    ((Cm a.lD aA).bind fun bK =>
    ((Fg n bK 0 2).bind fun iO =>
    (bif (!iO) then
    some (Ex.ret false)
    else
    ((Cm a.lE aA).bind fun cA =>
    (bif (cA != (-1)) then
    ((Cm a.lE aA).bind fun dO =>
    ((Cm r_.lB aA).bind fun cF =>
    ((Hh n r_).bind fun bC =>
    ((Fg n dO cF.stop (IntKind.i64.wrap (bC-2))).bind fun x67 =>
    (bif (!x67) then
    some (Ex.ret false)
    else
    CE n r_ a (IntKind.i64.wrap (aA+1)))))))
    else
    CE n r_ a (IntKind.i64.wrap (aA+1)))))))
    else
    some (Ex.go ()))
def Gz (n:Nat) (r_:Af) (a:An):Option Bool :=
  (((bif (((a.lD.length:Nat):Int) != ((r_.lB.length:Nat):Int)) then
  some true
  else
  (bif (((a.lE.length:Nat):Int) != ((r_.lB.length:Nat):Int)) then
  some true
  else
  some (((a.lC.length:Nat):Int) != ((r_.lC.length:Nat):Int)))):Option Bool).bind fun gP =>
  (bif gP then
  some false
  else
  ((CE n r_ a 0).bind fun jR=>Ex.bind jR (fun r=>some r) fun s_61 =>
  some true)))
def J0 (n:Nat)  : Option Af :=
  some (Af.mk ([Rg.mk 10 10,Rg.mk 5 15,Rg.mk 10 12]:List Rg) (Rg.mk 0 4) ([CW.mk 0 (Rg.mk 0 0),CW.mk 0 (Rg.mk 10 20)]:List CW) ([AK.mk 2 40]:List AK) 5 37 0 50)
def Oq (n:Nat)  : Option An :=
  some (An.mk ([0,0]:List Int) ([(-1),(-1)]:List Int) ([false]:List Bool))
def Ot (n:Nat)  : Option An :=
  some (An.mk ([0,1]:List Int) ([(-1),(-1)]:List Int) ([false]:List Bool))
def Ee:Nat→Af→(List Rg)→Int→Option (List Rg)
  | 0,_,_,_=>none
  | n+1,r_,aA,aD =>
    (bif decide (aD<((r_.lA.length:Nat):Int)) then
    ((Cm r_.lA aD).bind fun aV =>
    ((Jy n aV).bind fun fG =>
    ((Jj aA ([fG]:List Rg)).bind fun cO =>
    Ee n r_ cO (IntKind.i64.wrap (aD+1)))))
    else
    some aA)
def Ef:Nat→Af→(List CW)→Int→Option (List CW)
  | 0,_,_,_=>none
  | n+1,r_,aC,aB =>
    (bif decide (aB<((r_.lB.length:Nat):Int)) then
    ((Cm r_.lB aB).bind fun cA =>
    ((Cm r_.lB aB).bind fun eQ =>
    ((Jy n eQ.tm).bind fun dM =>
    ((Jj aC ([CW.mk cA.stop dM]:List CW)).bind fun cF =>
    Ef n r_ cF (IntKind.i64.wrap (aB+1))))))
    else
    some aC)
def Eg:Nat→Af→(List AK)→Int→Option (List AK)
  | 0,_,_,_=>none
  | n+1,r_,aH,aL =>
    (bif decide (aL<((r_.lC.length:Nat):Int)) then
    ((Cm r_.lC aL).bind fun dH =>
    ((Cm r_.lC aL).bind fun bL =>
    ((Jj aH ([AK.mk dH.stop bL.tm]:List AK)).bind fun dI =>
    Eg n r_ dI (IntKind.i64.wrap (aL+1)))))
    else
    some aH)
def ET (n:Nat) (r_:Af):Option Af :=
  ((Jy n r_.turn).bind fun x9 =>
  ((Ee n r_ ([]:List Rg) 0).bind fun o_50 =>
  ((Ef n r_ ([]:List CW) 0).bind fun jP =>
  ((Eg n r_ ([]:List AK) 0).bind fun o_232 =>
  some (Af.mk o_50 x9 jP o_232 r_.lI r_.gap r_.fr r_.to_)))))
def Eh:Nat→Ap→(List (List Int))→Int→Option (List (List Int))
  | 0,_,_,_=>none
  | n+1,t_,aA,aD =>
    (bif decide (aD<((t_.lA.length:Nat):Int)) then
    ((Cm t_.lA aD).bind fun fI =>
    ((Dz n fI).bind fun dY =>
    ((Jj aA ([dY]:List (List Int))).bind fun fA =>
    Eh n t_ fA (IntKind.i64.wrap (aD+1)))))
    else
    some aA)
def GW (n:Nat) (t_:Ap):Option Ap :=
  ((Dz n t_.tm).bind fun x7 =>
  ((Dz n t_.lE).bind fun bP =>
  ((Eh n t_ ([]:List (List Int)) 0).bind fun o_56 =>
  some (Ap.mk x7 bP o_56))))
def EE:Nat→Ap→(List (List Int))→Int→Option (List (List Int))
  | 0,_,_,_=>none
  | n+1,t_,aA,aD =>
    (bif decide (aD<((t_.lA.length:Nat):Int)) then
    ((Cm t_.lA aD).bind fun fI =>
    ((Dz n fI).bind fun dY =>
    ((Jj aA ([dY]:List (List Int))).bind fun fA =>
    EE n t_ fA (IntKind.i64.wrap (aD+1)))))
    else
    some aA)
def HV (n:Nat) (t_:Ap):Option Ap :=
  ((Dz n t_.tm).bind fun x7 =>
  ((Dz n t_.lE).bind fun bP =>
  ((EE n t_ ([]:List (List Int)) 0).bind fun o_56 =>
  some (Ap.mk x7 bP o_56))))
def EU:Nat→Ap→Int→Option (Ex Bool Unit)
  | 0,_,_=>none
  | n+1,t_,aA =>
    (((bif decide (aA<((t_.lA.length:Nat):Int)) then
    some (decide (aA<9))
    else
    some false):Option Bool).bind fun o_48 =>
    (bif o_48 then
    ((Cm t_.lA aA).bind fun dE =>
    (bif decide (((dE.length:Nat):Int)>10) then
    some (Ex.ret false)
    else
    EU n t_ (IntKind.i64.wrap (aA+1))))
    else
    some (Ex.go ())))
def Kg (n:Nat) (a:An) (t_:Ap):Option Bool :=
  ((EU n t_ 0).bind fun o_34=>Ex.bind o_34 (fun r=>some r) fun s_35 =>
  (bif decide (((a.lD.length:Nat):Int)≤8) then
  (bif decide (((a.lE.length:Nat):Int)≤8) then
  (bif decide (((a.lC.length:Nat):Int)≤8) then
  (bif decide (((t_.tm.length:Nat):Int)≤8) then
  (bif decide (((t_.lE.length:Nat):Int)≤8) then
  some (decide (((t_.lA.length:Nat):Int)≤8))
  else
  some false)
  else
  some false)
  else
  some false)
  else
  some false)
  else
  some false))
def Kh (n:Nat) (r_:Af) (a:An):Option Int :=
  ((HU n r_).bind fun x7 =>
  (bif (x7 != 0) then
  some x7
  else
  ((Gz n r_ a).bind fun iJ =>
  (bif (!iJ) then
  some 2
  else
  some 0))))
def HW (n:Nat) (r_:Af) (a:An):Option Bool :=
  ((Lw n r_).bind fun x6 =>
  (bif x6 then
  ((Kg n a (Ap.mk ([]:List Int) ([]:List Int) ([]:List (List Int)))).bind fun bP =>
  (bif bP then
  ((Kh n r_ a).bind fun cP =>
  some (cP == 0))
  else
  some false))
  else
  some false))
def Hj (n:Nat) (r_:Rg) (words:List (IK .u16)) (at_:Int):Option Int :=
  (bif (((words.length:Nat):Int) == 0) then
  some r_.hi
  else
  ((nz ((words.length:Nat):Int)).bind fun bM =>
  ((Cm words (Int.tmod at_ ((words.length:Nat):Int))).bind fun cG =>
  (bif ((Int.tmod (IntKind.i64.wrap cG.n) 4) == 0) then
  some r_.lo
  else
  (bif ((Int.tmod (IntKind.i64.wrap cG.n) 4) == 1) then
  some r_.hi
  else
  ((nz (IntKind.i64.wrap ((IntKind.i64.wrap (r_.hi-r_.lo))+1))).bind fun cJ =>
  some (IntKind.i64.wrap (r_.lo+(Int.tmod (IntKind.i64.wrap cG.n) (IntKind.i64.wrap ((IntKind.i64.wrap (r_.hi-r_.lo))+1)))))))))))
def D4:Nat→Af→(List (IK .u16))→Int→(List Int)→Int→Option (List Int)
  | 0,_,_,_,_,_=>none
  | n+1,r_,words,aG,aC,aB =>
    (bif decide (aB<((r_.lA.length:Nat):Int)) then
    ((Cm r_.lA aB).bind fun aV =>
    ((Hj n aV words (IntKind.i64.wrap ((IntKind.i64.wrap (9*aG))+aB))).bind fun cR =>
    ((Jj aC ([cR]:List Int)).bind fun cJ =>
    D4 n r_ words aG cJ (IntKind.i64.wrap (aB+1)))))
    else
    some aC)
def Da:Nat→Af→(List (IK .u16))→(List Int)→(List Int)→(List (List Int))→Int→Option ((List Int)×(List Int)×(List (List Int)))
  | 0,_,_,_,_,_,_=>none
  | n+1,r_,words,aA,aD,aM,aG =>
    (bif decide (aG<(IntKind.i64.wrap (((r_.lB.length:Nat):Int)+((r_.lC.length:Nat):Int)))) then
    ((D4 n r_ words aG ([]:List Int) 0).bind fun o_90 =>
    ((Jj aM ([o_90]:List (List Int))).bind fun aZ =>
    (bif decide (aG<((r_.lB.length:Nat):Int)) then
    ((Cm r_.lB aG).bind fun eN =>
    ((Hj n eN.tm words (IntKind.i64.wrap ((IntKind.i64.wrap (9*aG))+7))).bind fun dV =>
    ((Jj aA ([dV]:List Int)).bind fun fJ =>
    ((Hj n r_.turn words (IntKind.i64.wrap ((IntKind.i64.wrap (9*aG))+8))).bind fun dH =>
    ((Jj aD ([dH]:List Int)).bind fun iB =>
    Da n r_ words fJ iB aZ (IntKind.i64.wrap (aG+1)))))))
    else
    Da n r_ words aA aD aZ (IntKind.i64.wrap (aG+1)))))
    else
    some (aA,aD,aM))
def Hk (n:Nat) (r_:Af) (words:List (IK .u16)):Option Ap :=
  ((Da n r_ words ([]:List Int) ([]:List Int) ([]:List (List Int)) 0).bind fun o_59 =>
  some (Ap.mk o_59.1 o_59.2.1 o_59.2.2))
def Bq (n:Nat) (n_:Int) (low:Int) (high:Int):Option Bool :=
  (bif decide (low≤n_) then
  some (decide (n_≤high))
  else
  some false)
def CF (n:Nat) (n_:Int):Option Bool :=
  ((Bq n n_ 0 2000).bind fun x4 =>
  some x4)
def AT (n:Nat) (r_:Af):Option Int :=
  some (IntKind.i64.wrap (((r_.lA.length:Nat):Int)+1))
def BP (n:Nat) (r_:Af):Option Int :=
  ((AT n r_).bind fun x4 =>
  some (IntKind.i64.wrap (Int.tdiv x4 2)))
def Bp (n:Nat) (r_:Af) (n_:Int):Option Bool :=
  ((AT n r_).bind fun x7 =>
  ((Bq n n_ 0 (IntKind.i64.wrap (x7-1))).bind fun x9 =>
  some x9))
def C8 (n:Nat) (r_:Rg) (most:Int):Option Bool :=
  (bif decide (0≤r_.lo) then
  (bif decide (r_.lo≤r_.hi) then
  some (decide (r_.hi≤most))
  else
  some false)
  else
  some false)
def BB (n:Nat) (r_:Rg):Option Bool :=
  ((C8 n r_ 300).bind fun x4 =>
  some x4)
def Cu (n:Nat) (r_:Rg) (n_:Int):Option Bool :=
  ((Bq n n_ r_.lo r_.hi).bind fun bP =>
  some bP)
def Al (n:Nat) (r_:Rg):Option Int :=
  some r_.lo
def Aw (n:Nat) (r_:Rg):Option Int :=
  some r_.hi
def AC (n:Nat) (r_:Af) (n_:Int):Option Bool :=
  ((Bq n n_ r_.fr r_.to_).bind fun bP =>
  some bP)
def C0 (n:Nat) (r_:Af) (b:CW) (at_:Int):Option Bool :=
  (bif (at_ == (-1)) then
  some true
  else
  ((BP n r_).bind fun cN =>
  ((Bq n at_ b.stop (IntKind.i64.wrap (cN-2))).bind fun cH =>
  some cH)))
def B4:Nat→Af→Ap→Int→Option (Ex Bool Unit)
  | 0,_,_,_=>none
  | n+1,r_,t_,aA =>
    (bif decide (aA<((r_.lB.length:Nat):Int)) then
    ((Cm r_.lB aA).bind fun fB =>
    ((Cm t_.tm aA).bind fun gE =>
    ((Cu n fB.tm gE).bind fun eQ =>
    (bif (!eQ) then
    some (Ex.ret false)
    else
    ((Cm t_.lE aA).bind fun dC =>
    ((Cu n r_.turn dC).bind fun bC =>
    (bif (!bC) then
    some (Ex.ret false)
    else
    B4 n r_ t_ (IntKind.i64.wrap (aA+1)))))))))
    else
    some (Ex.go ()))
def B5:Nat→Af→(List Int)→Int→Option (Ex Bool Unit)
  | 0,_,_,_=>none
  | n+1,r_,eO,aH =>
    (bif decide (aH<((eO.length:Nat):Int)) then
    ((Cm eO aH).bind fun iP =>
    ((Cm r_.lA aH).bind fun dX =>
    ((Cu n dX iP).bind fun gQ =>
    (bif (!gQ) then
    some (Ex.ret false)
    else
    B5 n r_ eO (IntKind.i64.wrap (aH+1))))))
    else
    some (Ex.go ()))
def B6:Nat→Af→Ap→Int→Option (Ex Bool Unit)
  | 0,_,_,_=>none
  | n+1,r_,t_,aC =>
    (bif decide (aC<((t_.lA.length:Nat):Int)) then
    ((Cm t_.lA aC).bind fun eO =>
    (bif (((eO.length:Nat):Int) != ((r_.lA.length:Nat):Int)) then
    some (Ex.ret false)
    else
    ((B5 n r_ eO 0).bind fun jS=>Ex.bind jS (fun r=>some (Ex.ret r)) fun s_218 =>
    B6 n r_ t_ (IntKind.i64.wrap (aC+1)))))
    else
    some (Ex.go ()))
def CR (n:Nat) (r_:Af) (t_:Ap):Option Bool :=
  (((bif (((t_.tm.length:Nat):Int) != ((r_.lB.length:Nat):Int)) then
  some true
  else
  (bif (((t_.lE.length:Nat):Int) != ((r_.lB.length:Nat):Int)) then
  some true
  else
  some (((t_.lA.length:Nat):Int) != (IntKind.i64.wrap (((r_.lB.length:Nat):Int)+((r_.lC.length:Nat):Int)))))):Option Bool).bind fun gP =>
  (bif gP then
  some false
  else
  ((B4 n r_ t_ 0).bind fun jR=>Ex.bind jR (fun r=>some r) fun s_61 =>
  ((B6 n r_ t_ 0).bind fun o_175=>Ex.bind o_175 (fun r=>some r) fun s_176 =>
  some true))))
def Br:Nat→AM→Ap→(List Bj)→(List A8)→Int→Option ((List Bj)×(List A8))
  | 0,_,_,_,_,_=>none
  | n+1,w_,t_,aA,aD,aM =>
    (bif decide (aM<((w_.lH.lB.length:Nat):Int)) then
    ((Cm w_.lH.lB aM).bind fun bM =>
    ((Cm t_.tm aM).bind fun dU =>
    ((Cm w_.acts.lD aM).bind fun aV =>
    ((Cm w_.acts.lE aM).bind fun cK =>
    ((Jj aA ([Bj.mk bM.stop (IntKind.i64.wrap (dU+(IntKind.i64.wrap (aV*w_.lH.lI)))) cK]:List Bj)).bind fun fB =>
    ((Cm t_.lA aM).bind fun fK =>
    ((Cm t_.lE aM).bind fun dO =>
    ((Jj aD ([A8.mk fK dO]:List A8)).bind fun dJ =>
    Br n w_ t_ fB dJ (IntKind.i64.wrap (aM+1))))))))))
    else
    some (aA,aD))
def Bg:Nat→AM→Ap→(List Bj)→(List A8)→Int→Option ((List Bj)×(List A8))
  | 0,_,_,_,_,_=>none
  | n+1,w_,t_,aC,aB,aJ =>
    (bif decide (aJ<((w_.lH.lC.length:Nat):Int)) then
    ((Cm w_.lH.lC aJ).bind fun dQ =>
    ((Cm w_.acts.lC aJ).bind fun dH =>
    (bif dH then
    ((Jj aC ([Bj.mk dQ.stop dQ.tm (-1)]:List Bj)).bind fun eC =>
    ((Cm t_.lA (IntKind.i64.wrap (((w_.lH.lB.length:Nat):Int)+aJ))).bind fun cC =>
    ((Jj aB ([A8.mk cC 0]:List A8)).bind fun x98 =>
    Bg n w_ t_ eC x98 (IntKind.i64.wrap (aJ+1)))))
    else
    Bg n w_ t_ aC aB (IntKind.i64.wrap (aJ+1)))))
    else
    some (aC,aB))
def BQ (n:Nat) (w_:AM) (t_:Ap):Option ((List Bj)×(List A8)) :=
  ((Br n w_ t_ ([]:List Bj) ([]:List A8) 0).bind fun o_63 =>
  ((Bg n w_ t_ o_63.1 o_63.2 0).bind fun o_248 =>
  some (o_248.1,o_248.2)))
def BD (n:Nat) (b:CW) (q0:Af):Option Bool :=
  ((Bp n q0 b.stop).bind fun x7 =>
  (bif x7 then
  ((C8 n b.tm 2000).bind fun cW =>
  some cW)
  else
  some false))
def BE (n:Nat) (s:AK) (q0:Af):Option Bool :=
  ((Bp n q0 s.stop).bind fun x7 =>
  (bif x7 then
  ((CF n s.tm).bind fun cW =>
  some cW)
  else
  some false))
def As:Nat→(List Rg)→(Rg→Option Bool)→Int→Option (Ex Int Unit)
  | 0,_,_,_=>none
  | n+1,s,f,aA =>
    (bif decide (aA<((s.length:Nat):Int)) then
    ((Cm s aA).bind fun cN =>
    ((f cN).bind fun cH =>
    (bif cH then
    some (Ex.ret aA)
    else
    As n s f (IntKind.i64.wrap (aA+1)))))
    else
    some (Ex.go ()))
def AN (n:Nat) (s:List Rg) (f:Rg→Option Bool):Option Int :=
  ((As n s f 0).bind fun o_6=>Ex.bind o_6 (fun r=>some r) fun s_7 =>
  some (-1))
def A1:Nat→(List CW)→(CW→Option Bool)→Int→Option (Ex Int Unit)
  | 0,_,_,_=>none
  | n+1,s,f,aA =>
    (bif decide (aA<((s.length:Nat):Int)) then
    ((Cm s aA).bind fun cN =>
    ((f cN).bind fun cH =>
    (bif cH then
    some (Ex.ret aA)
    else
    A1 n s f (IntKind.i64.wrap (aA+1)))))
    else
    some (Ex.go ()))
def Bf (n:Nat) (s:List CW) (f:CW→Option Bool):Option Int :=
  ((A1 n s f 0).bind fun o_6=>Ex.bind o_6 (fun r=>some r) fun s_7 =>
  some (-1))
def At:Nat→(List AK)→(AK→Option Bool)→Int→Option (Ex Int Unit)
  | 0,_,_,_=>none
  | n+1,s,f,aA =>
    (bif decide (aA<((s.length:Nat):Int)) then
    ((Cm s aA).bind fun cN =>
    ((f cN).bind fun cH =>
    (bif cH then
    some (Ex.ret aA)
    else
    At n s f (IntKind.i64.wrap (aA+1)))))
    else
    some (Ex.go ()))
def AO (n:Nat) (s:List AK) (f:AK→Option Bool):Option Int :=
  ((At n s f 0).bind fun o_6=>Ex.bind o_6 (fun r=>some r) fun s_7 =>
  some (-1))
def AE (n:Nat) (s:List Rg) (f:Rg→Option Bool):Option Bool :=
  ((AN n s f).bind fun x7 =>
  some (decide (x7≥0)))
def AQ (n:Nat) (s:List CW) (f:CW→Option Bool):Option Bool :=
  ((Bf n s f).bind fun x7 =>
  some (decide (x7≥0)))
def AF (n:Nat) (s:List AK) (f:AK→Option Bool):Option Bool :=
  ((AO n s f).bind fun x7 =>
  some (decide (x7≥0)))
def AU (n:Nat) (x:Rg) (q0:Rg→Option Bool):Option Bool :=
  ((q0 x).bind fun x6 =>
  some (!x6))
def Bm (n:Nat) (x:CW) (q0:CW→Option Bool):Option Bool :=
  ((q0 x).bind fun x6 =>
  some (!x6))
def AV (n:Nat) (x:AK) (q0:AK→Option Bool):Option Bool :=
  ((q0 x).bind fun x6 =>
  some (!x6))
def BW (n:Nat) (l:List Rg) (right:Rg→Option Bool):Option Bool :=
  ((AE n l (fun(y0:Rg)=>AU n y0 right)).bind fun x7 =>
  some (!x7))
def Cn (n:Nat) (l:List CW) (right:CW→Option Bool):Option Bool :=
  ((AQ n l (fun(y0:CW)=>Bm n y0 right)).bind fun x7 =>
  some (!x7))
def BX (n:Nat) (l:List AK) (right:AK→Option Bool):Option Bool :=
  ((AF n l (fun(y0:AK)=>AV n y0 right)).bind fun x7 =>
  some (!x7))
def BY (n:Nat) (r_:Af):Option Int :=
  (((bif decide (((r_.lB.length:Nat):Int)>4) then
  some true
  else
  some (decide (((r_.lC.length:Nat):Int)>2))):Option Bool).bind fun gP =>
  (bif gP then
  some 3
  else
  (((bif ((Int.tmod ((r_.lA.length:Nat):Int) 2) == 0) then
  some true
  else
  ((BP n r_).bind fun dY =>
  (bif decide (dY>4) then
  some true
  else
  ((BW n r_.lA (fun(y0:Rg)=>BB n y0)).bind fun x32 =>
  (bif (!x32) then
  some true
  else
  ((BB n r_.turn).bind fun cR =>
  (bif (!cR) then
  some true
  else
  ((Cn n r_.lB (fun(y0:CW)=>BD n y0 r_)).bind fun aZ =>
  (bif (!aZ) then
  some true
  else
  ((BX n r_.lC (fun(y0:AK)=>BE n y0 r_)).bind fun cT =>
  some (!cT))))))))))):Option Bool).bind fun o_50 =>
  (bif o_50 then
  some 1
  else
  ((Bq n r_.lI 1 30).bind fun dM =>
  (bif (!dM) then
  some 1
  else
  ((CF n r_.gap).bind fun dC =>
  (bif (!dC) then
  some 1
  else
  ((CF n r_.fr).bind fun dQ =>
  (bif (!dQ) then
  some 1
  else
  ((CF n r_.to_).bind fun dH =>
  (bif (!dH) then
  some 1
  else
  (bif decide (r_.fr>r_.to_) then
  some 1
  else
  some 0)))))))))))))
def BF:Nat→Af→An→Int→Option (Ex Int Unit)
  | 0,_,_,_=>none
  | n+1,r_,a,aA =>
    (bif decide (aA<((r_.lB.length:Nat):Int)) then
    ((Cm r_.lB aA).bind fun cU =>
    ((Cm a.lD aA).bind fun cA =>
    ((Bq n cA 0 2).bind fun fK =>
    (bif (!fK) then
    some (Ex.ret 2)
    else
    ((Cm a.lE aA).bind fun bW =>
    ((C0 n r_ cU bW).bind fun cF =>
    (bif (!cF) then
    some (Ex.ret 2)
    else
    BF n r_ a (IntKind.i64.wrap (aA+1)))))))))
    else
    some (Ex.go ()))
def Ck (n:Nat) (r_:Af) (a:An):Option Int :=
  ((BY n r_).bind fun x9 =>
  (bif (x9 != 0) then
  some x9
  else
  (((bif (((a.lD.length:Nat):Int) != ((r_.lB.length:Nat):Int)) then
  some true
  else
  (bif (((a.lE.length:Nat):Int) != ((r_.lB.length:Nat):Int)) then
  some true
  else
  some (((a.lC.length:Nat):Int) != ((r_.lC.length:Nat):Int)))):Option Bool).bind fun o_48 =>
  (bif o_48 then
  some 2
  else
  ((BF n r_ a 0).bind fun o_77=>Ex.bind o_77 (fun r=>some r) fun s_78 =>
  some 0)))))
def B1 (n:Nat) (s:List Int):Option (List Int) :=
  ((Jj ([]:List Int) s).bind fun x7 =>
  some x7)
def Cv (n:Nat) (s:List Bool):Option (List Bool) :=
  ((Jj ([]:List Bool) s).bind fun x7 =>
  some x7)
def BG:Nat→(List Int)→Int→Int→Option Int
  | 0,_,_,_=>none
  | n+1,x,aA,aD =>
    (bif decide (aA<((x.length:Nat):Int)) then
    ((Cm x aA).bind fun cV =>
    BG n x (IntKind.i64.wrap (aA+1)) (if cV>aD then cV else aD))
    else
    some aD)
def Ei (n:Nat) (x:List Int):Option Int :=
  (bif decide (((x.length:Nat):Int)<1) then
  none
  else
  ((Cm x 0).bind fun bP =>
  ((BG n x 1 bP).bind fun o_25 =>
  some o_25)))
def Cd:Nat→(List Int)→Int→Int→Option Int
  | 0,_,_,_=>none
  | n+1,x,aA,aD =>
    (bif decide (aA<((x.length:Nat):Int)) then
    ((Cm x aA).bind fun cV =>
    Cd n x (IntKind.i64.wrap (aA+1)) (if cV<aD then cV else aD))
    else
    some aD)
def Ej (n:Nat) (x:List Int):Option Int :=
  (bif decide (((x.length:Nat):Int)<1) then
  none
  else
  ((Cm x 0).bind fun bP =>
  ((Cd n x 1 bP).bind fun o_25 =>
  some o_25)))
def DH (n:Nat) (l:List Int):Option Int :=
  ((Ei n l).bind fun x4 =>
  some x4)
def C9 (n:Nat) (l:List Int):Option Int :=
  ((Ej n l).bind fun x4 =>
  some x4)
def Dd:Nat→(List Int)→(List Int)→Int→Int→Option Int
  | 0,_,_,_,_=>none
  | n+1,marks,x6,aA,aD =>
    (bif decide (aA<((x6.length:Nat):Int)) then
    ((Cm x6 aA).bind fun cW =>
    ((Cm marks aA).bind fun bM =>
    ((DH n ([aD,IntKind.i64.wrap (cW-bM)]:List Int)).bind fun cV =>
    Dd n marks x6 (IntKind.i64.wrap (aA+1)) cV)))
    else
    some aD)
def G0 (n:Nat) (marks:List Int):Option Int :=
  ((sub marks 1).bind fun x6 =>
  ((Dd n marks x6 0 0).bind fun o_15 =>
  some o_15))
def BH:Nat→Af→HJ→(List Int)→Int→Option (List Int)
  | 0,_,_,_,_=>none
  | n+1,r_,e,aA,aD =>
    (bif decide (aD<((r_.lA.length:Nat):Int)) then
    ((Cm r_.lA aD).bind fun cP =>
    ((e.of_ cP).bind fun cV =>
    ((Jj aA ([cV]:List Int)).bind fun gD =>
    BH n r_ e gD (IntKind.i64.wrap (aD+1)))))
    else
    some aA)
def BI:Nat→Af→HJ→(List Int)→(List Int)→(List Int)→(List (List Int))→Int→Option ((List Int)×(List Int)×(List Int)×(List (List Int)))
  | 0,_,_,_,_,_,_,_=>none
  | n+1,r_,e,aC,aB,aJ,aO,aN =>
    (bif decide (aN<((r_.lB.length:Nat):Int)) then
    ((Cm r_.lB aN).bind fun cQ =>
    ((e.of_ cQ.tm).bind fun cR =>
    ((Jj aB ([cR]:List Int)).bind fun cJ =>
    ((e.of_ r_.turn).bind fun dZ =>
    ((Jj aJ ([dZ]:List Int)).bind fun cA =>
    ((B1 n aC).bind fun gE =>
    ((Jj aO ([gE]:List (List Int))).bind fun eQ =>
    BI n r_ e aC cJ cA eQ (IntKind.i64.wrap (aN+1)))))))))
    else
    some (aC,aB,aJ,aO))
def BJ:Nat→Af→(List Int)→(List (List Int))→Int→Option ((List Int)×(List (List Int)))
  | 0,_,_,_,_=>none
  | n+1,r_,aH,aL,cL =>
    (bif decide (cL<((r_.lC.length:Nat):Int)) then
    ((B1 n aH).bind fun dW =>
    ((Jj aL ([dW]:List (List Int))).bind fun fE =>
    BJ n r_ aH fE (IntKind.i64.wrap (cL+1))))
    else
    some (aH,aL))
def B7 (n:Nat) (r_:Af) (e:HJ):Option Ap :=
  ((BH n r_ e ([]:List Int) 0).bind fun o_45 =>
  ((BI n r_ e o_45 ([]:List Int) ([]:List Int) ([]:List (List Int)) 0).bind fun jI =>
  ((BJ n r_ jI.1 jI.2.2.2 0).bind fun o_561 =>
  some (Ap.mk jI.2.1 jI.2.2.1 o_561.2))))
def AP {σ:Type}:Nat→(σ→Int→Int→Option (σ×Bool))→Bj→Af→A8→Int→Int→σ→Option (Ex σ σ)
  | 0,_,_,_,_,_,_,_=>none
  | n+1,eD,q0,q1,q2,aA,aD,aM =>
    ((((Bp n q1 aD).bind fun iJ =>
    (bif iJ then
    ((eD aM aD aA).bind fun cG =>
    some (cG.2,cG.1))
    else
    some (false,aM))):Option (Bool×σ)).bind fun iM =>
    (bif iM.1 then
    (bif (aD == q0.lF) then
    ((AT n q1).bind fun dY =>
    AP n eD q0 q1 q2 (IntKind.i64.wrap (aA+q2.turn)) (IntKind.i64.wrap ((IntKind.i64.wrap (dY-1))-aD)) iM.2)
    else
    (bif decide (aD<((q2.lA.length:Nat):Int)) then
    ((Cm q2.lA aD).bind fun cU =>
    AP n eD q0 q1 q2 (IntKind.i64.wrap (aA+cU)) (IntKind.i64.wrap (aD+1)) iM.2)
    else
    some (Ex.ret iM.2)))
    else
    some (Ex.go iM.2)))
def AW {σ:Type} (n:Nat) (eD:σ→Int→Int→Option (σ×Bool)) (s:σ) (q0:Bj) (q1:Af) (q2:A8):Option σ :=
  ((AP n eD q0 q1 q2 q0.tm q0.stop s).bind fun o_22=>Ex.bind o_22 (fun r=>some r) fun s_23 =>
  some s_23)
def Cl (n:Nat) (d:Ar) (r_:Af):Option An :=
  ((O8 ([d.lD.a0,d.lD.a1,d.lD.a2,d.lD.a3]:List Int) ((r_.lB.length:Nat):Int)).bind fun x9 =>
  ((O8 ([d.lE.a0,d.lE.a1,d.lE.a2,d.lE.a3]:List Int) ((r_.lB.length:Nat):Int)).bind fun cP =>
  ((O8 ([d.lC.a0,d.lC.a1]:List Bool) ((r_.lC.length:Nat):Int)).bind fun cV =>
  ((B1 n x9).bind fun bP =>
  ((B1 n cP).bind fun cH =>
  ((Cv n cV).bind fun fC =>
  some (An.mk bP cH fC)))))))
def BR (n:Nat) (r_:Af) (x:Bj) (t_:A8):Option (Bj×Af×A8) :=
  some (x,r_,t_)
def AX:Nat→Af→(List Int)→(List (Int×Rg))→(((List Int)×(List (Int×Rg)))→Prop)→Prop
  | 0,_,_,_,_=>False
  | n+1,r_,aA,aD,K =>
    ((aD=[] →
    K (aA,aD))∧(∀ k_79 x_80 rem_82,List.Perm aD ((k_79,x_80)::rem_82) →
    (∃ eP,((fun(y0:Int)=>AC n r_ y0) x_80.lo)=some eP ∧
    (bif eP then
    (∃ iC,(Jj aA ([x_80.lo]:List Int))=some iC ∧
    AX n r_ iC rem_82 K)
    else
    AX n r_ aA rem_82 K))))
def AY:Nat→Int→Int→(List (Int×Rg))→((Int×(List (Int×Rg)))→Prop)→Prop
  | 0,_,_,_,_=>False
  | n+1,cK,aH,aL,K =>
    ((aL=[] →
    K (aH,aL))∧(∀ k_242 x_243 rem_245,List.Perm aL ((k_242,x_243)::rem_245) →
    (bif decide (x_243.lo>cK) then
    (∃ dJ,(C9 n ([aH,x_243.hi]:List Int))=some dJ ∧
    AY n cK dJ rem_245 K)
    else
    AY n cK aH rem_245 K)))
def AB:Nat→Af→(DO Int Rg)→((List Int)×(List (Int×Rg)))→(List Int)→Int→Int→Int→(((List Int)×Int×Int)→Prop)→Prop
  | 0,_,_,_,_,_,_,_,_=>False
  | n+1,r_,spans,jJ,aC,aB,aJ,aO,K =>
    (bif decide (aB<((jJ.1.length:Nat):Int)) then
    (∃ cK,(Cm aC aB)=some cK ∧
    (AY n cK r_.to_ spans.l (fun s_222 =>
    (bif decide ((IntKind.i64.wrap (s_222.1-cK))>aO) then
    AB n r_ spans jJ aC (IntKind.i64.wrap (aB+1)) cK (IntKind.i64.wrap (s_222.1-cK)) K
    else
    AB n r_ spans jJ aC (IntKind.i64.wrap (aB+1)) aJ aO K))))
    else
    K (aC,aJ,aO))
def CS (n:Nat) (r_:Af) (spans:DO Int Rg) (Q:KP→Prop):Prop :=
  (AX n r_ ([r_.fr]:List Int) spans.l (fun jJ =>
  (AB n r_ spans jJ jJ.1 0 r_.fr 0 (fun s_170 =>
  Q (KP.mk s_170.2.1 s_170.2.2)))))
def A3 (m to_:Int) (l:List (Int×Rg)):Int:=l.foldl (fun e p=>if p.2.lo>m then min e p.2.hi else e) to_
def B2 (r:Af) (l:List (Int×Rg)):List Int:=r.fr::(l.filter fun p=>decide (r.fr≤p.2.lo) && decide (p.2.lo≤r.to_)).map fun p=>p.2.lo
def BS (n:Nat) (r_:Af) (spans:DO Int Rg):Option Int :=
  if 2*spans.l.length+20≤n∧spans.l.length<1000000 then some ((B2 r_ spans.l).foldl (fun b m=>max b (IntKind.i64.wrap (A3 m r_.to_ spans.l-m))) 0) else none
def Bs:Nat→(List (Option (List (Int×Rg))))→(List (Option (List (Int×Rg))))→Int→Option (List (Option (List (Int×Rg))))
  | 0,_,_,_=>none
  | n+1,cG,aA,aD =>
    (bif decide (aD<((cG.length:Nat):Int)) then
    ((Cm aA aD).bind fun gF =>
    ((upd aA aD (some ([]:List (Int×Rg)))).bind fun u_114 =>
    Bs n cG u_114 (IntKind.i64.wrap (aD+1))))
    else
    some aA)
def Bt:Nat→AM→((List Bj)×(List A8))→((List Bj)×(List A8))→(List (Option (List (Int×Rg))))→Int→Option (List (Option (List (Int×Rg))))
  | 0,_,_,_,_,_=>none
  | n+1,w_,cO,cU,aC,aB =>
    (bif decide (aB<((cO.1.length:Nat):Int)) then
    ((Cm cO.1 aB).bind fun cT =>
    ((Cm cO.2 aB).bind fun bW =>
    ((BR n w_.lH cT bW).bind fun cF =>
    ((AW n (fun(s:List (Option (List (Int×Rg))))(gI:Int)(dC:Int)=>((((Cm s gI).bind fun fJ =>
    (fJ.bind fun m_359 =>
    ((upd s gI (some (FP m_359 aB (Rg.mk dC dC)))).bind fun u_366 =>
    some u_366))):Option (List (Option (List (Int×Rg))))).bind fun s1=>some (s1,true))) aC cF.1 cF.2.1 cF.2.2).bind fun o_315 =>
    ((Cm cU.1 aB).bind fun fF =>
    ((Cm cU.2 aB).bind fun fN =>
    ((BR n w_.lH fF fN).bind fun eK =>
    ((AW n (fun(s:List (Option (List (Int×Rg))))(eL:Int)(eC:Int)=>((((Cm s eL).bind fun iP =>
    ((Cm s eL).bind fun dX =>
    (dX.bind fun m_514 =>
    ((some (Fb m_514 aB ((Rg.mk 0 0):Rg))).bind fun gQ =>
    (iP.bind fun m_527 =>
    ((upd s eL (some (FP m_527 aB (Rg.mk gQ.1.lo eC)))).bind fun u_534 =>
    some u_534)))))):Option (List (Option (List (Int×Rg))))).bind fun s1=>some (s1,true))) o_315 eK.1 eK.2.1 eK.2.2).bind fun o_456 =>
    Bt n w_ cO cU o_456 (IntKind.i64.wrap (aB+1))))))))))
    else
    some aC)
def BT (n:Nat) (w_:AM):Option (List (DO Int Rg)) :=
  ((AT n w_.lH).bind fun bM =>
  ((mk bM (none:Option (List (Int×Rg)))).bind fun cG =>
  ((Bs n cG cG 0).bind fun o_76 =>
  ((B7 n w_.lH (HJ.mk (fun(y0:Rg)=>Al n y0))).bind fun iC =>
  ((BQ n w_ iC).bind fun cO =>
  ((B7 n w_.lH (HJ.mk (fun(y0:Rg)=>Aw n y0))).bind fun iO =>
  ((BQ n w_ iO).bind fun cU =>
  ((Bt n w_ cO cU o_76 0).bind fun o_227 =>
  ((List.mapM id o_227).bind fun l_579 =>
  some (l_579.map DO.mk))))))))))
def Bu:Nat→AM→(List (DO Int Rg))→(List Int)→Int→Option (List Int)
  | 0,_,_,_,_=>none
  | n+1,w_,x6,aA,aD =>
    (bif decide (aD<((x6.length:Nat):Int)) then
    ((Cm x6 aD).bind fun bP =>
    ((BS n w_.lH bP).bind fun cH =>
    ((Jj aA ([cH]:List Int)).bind fun fR =>
    Bu n w_ x6 fR (IntKind.i64.wrap (aD+1)))))
    else
    some aA)
def Co (n:Nat) (w_:AM):Option (List Int) :=
  ((BT n w_).bind fun x6 =>
  ((Bu n w_ x6 ([]:List Int) 0).bind fun o_52 =>
  some o_52))
def B8:Nat→Af→Int→(List (DO Int Rg))→Int→Option Bool
  | 0,_,_,_,_=>none
  | n+1,r_,most,bM,aA =>
    (bif decide (aA<((bM.length:Nat):Int)) then
    ((Cm bM aA).bind fun cV =>
    ((BS n r_ cV).bind fun dU =>
    (bif decide (dU>most) then
    some false
    else
    B8 n r_ most bM (IntKind.i64.wrap (aA+1)))))
    else
    some true)
def CT (n:Nat) (r_:Af) (d:Ar) (most:Int):Option Bool :=
  ((Cl n d r_).bind fun cN =>
  ((BT n (AM.mk r_ cN)).bind fun bM =>
  ((B8 n r_ most bM 0).bind fun o_65 =>
  some o_65)))
mutual
def AZ {σ:Type}:Nat→(σ→Ar→Bn→Option σ)→Ar→Bn→Int→Int→Af→Int→AS→σ→Option (AS×σ)
  | 0,_,_,_,_,_,_,_,_,_=>none
  | n+1,cZ,d,c,at_,lB,r_,aA,aD,aM =>
    (bif decide (aA<3) then
    ((VR 4 at_).bind fun gF =>
    ((AS.setI aD at_ aA).bind fun u_57 =>
    ((control_Route_every_1 n cZ (Ar.mk u_57 d.lE d.lC) (Bn.mk (IntKind.i64.wrap (c.lJ+(if 1<aA then 1 else aA))) (IntKind.i64.wrap (c.sum+aA))) (IntKind.i64.wrap (at_+1)) lB r_ aM).bind fun cK =>
    AZ n cZ d c at_ lB r_ (IntKind.i64.wrap (aA+1)) u_57 cK)))
    else
    some (aD,aM))
def AJ {σ:Type}:Nat→(σ→Ar→Bn→Option σ)→Ar→Bn→Int→Int→Af→Int→AS→σ→Option (AS×σ)
  | 0,_,_,_,_,_,_,_,_,_=>none
  | n+1,cZ,d,c,at_,lB,r_,aC,aB,aJ =>
    ((BP n r_).bind fun fK =>
    (bif decide (aC<fK) then
    ((Cm r_.lB (IntKind.i64.wrap (at_-lB))).bind fun cF =>
    ((C0 n r_ cF aC).bind fun dV =>
    (bif dV then
    ((VR 4 (IntKind.i64.wrap (at_-lB))).bind fun fE =>
    ((AS.setI aB (IntKind.i64.wrap (at_-lB)) aC).bind fun u_165 =>
    ((control_Route_every_1 n cZ (Ar.mk d.lD u_165 d.lC) (Bn.mk (IntKind.i64.wrap (c.lJ+(if 1<(IntKind.i64.wrap (aC+1)) then 1 else(IntKind.i64.wrap (aC+1))))) c.sum) (IntKind.i64.wrap (at_+1)) lB r_ aJ).bind fun eC =>
    AJ n cZ d c at_ lB r_ (IntKind.i64.wrap (aC+1)) u_165 eC)))
    else
    AJ n cZ d c at_ lB r_ (IntKind.i64.wrap (aC+1)) aB aJ)))
    else
    some (aB,aJ)))
def Ba {σ:Type}:Nat→(σ→Ar→Bn→Option σ)→Ar→Bn→Int→Int→Af→Int→Bd→σ→Option (Bd×σ)
  | 0,_,_,_,_,_,_,_,_,_=>none
  | n+1,cZ,d,c,at_,lB,r_,aH,aL,cL =>
    (bif decide (aH<2) then
    ((VR 2 (IntKind.i64.wrap (at_-(IntKind.i64.wrap (2*lB))))).bind fun x104 =>
    ((Bd.setI aL (IntKind.i64.wrap (at_-(IntKind.i64.wrap (2*lB)))) (aH == 1)).bind fun u_241 =>
    ((control_Route_every_1 n cZ (Ar.mk d.lD d.lE u_241) (Bn.mk (IntKind.i64.wrap (c.lJ+aH)) c.sum) (IntKind.i64.wrap (at_+1)) lB r_ cL).bind fun gG =>
    Ba n cZ d c at_ lB r_ (IntKind.i64.wrap (aH+1)) u_241 gG)))
    else
    some (aL,cL))
def control_Route_every_1 {σ:Type}:Nat→(σ→Ar→Bn→Option σ)→Ar→Bn→Int→Int→Af→σ→Option σ
  | 0,_,_,_,_,_,_,_=>none
  | n+1,cZ,d,c,at_,lB,r_,s =>
    (bif decide (at_<lB) then
    ((AZ n cZ d c at_ lB r_ 0 d.lD s).bind fun o_33 =>
    some o_33.2)
    else
    (bif decide (at_<(IntKind.i64.wrap (2*lB))) then
    ((AJ n cZ d c at_ lB r_ (-1) d.lE s).bind fun o_107 =>
    some o_107.2)
    else
    (bif decide (at_<(IntKind.i64.wrap ((IntKind.i64.wrap (2*lB))+((r_.lC.length:Nat):Int)))) then
    ((Ba n cZ d c at_ lB r_ 0 d.lC s).bind fun jS =>
    some jS.2)
    else
    ((cZ s d c).bind fun cH =>
    some cH))))
end
def BZ {σ:Type} (n:Nat) (cZ:σ→Ar→Bn→Option σ) (r_:Af) (s:σ):Option σ :=
  ((control_Route_every_1 n cZ (Ar.mk (AS.mk 0 0 0 0) (AS.mk 0 0 0 0) (Bd.mk false false)) (Bn.mk 0 0) 0 ((r_.lB.length:Nat):Int) r_ s).bind fun iJ =>
  some iJ)
def Cw (n:Nat) (d:Ar) (c:Bn) (found:Bool) (least:Bn) (best:Ar) (r_:Af):Option (Bool×Bn×Ar) :=
  (((bif found then
  (bif ((c.lJ == least.lJ) && ((c.sum == least.sum) && true)) then
  some true
  else
  (bif decide (c.lJ>least.lJ) then
  some true
  else
  (bif (c.lJ == least.lJ) then
  some (decide (c.sum>least.sum))
  else
  some false)))
  else
  some false):Option Bool).bind fun o_21 =>
  (bif o_21 then
  some (found,least,best)
  else
  ((CT n r_ d r_.gap).bind fun iN =>
  (bif iN then
  some (true,c,d)
  else
  some (found,least,best)))))
def E5 (h0:Ae) (aQ aI aX:Nat) (s:Bool×Bn×Ar) (F:Fr) (h:Ae):Prop:=Ae.le h0 h∧(aQ≠aI∧aQ≠aX∧aI≠aX∧True)∧(F.X aQ=some (.cells ([.bool s.1]:List Value).toArray 4 (0,0))∧∀ o,F.h aQ o=none)∧(F.X aI=some (.cells ([.int .i64 s.2.1.lJ,.int .i64 s.2.1.sum]:List Value).toArray 107 (0,0))∧∀ o,F.h aI o=none)∧(F.X aX=some (.cells ([.int .i64 s.2.2.lD.a0,.int .i64 s.2.2.lD.a1,.int .i64 s.2.2.lD.a2,.int .i64 s.2.2.lD.a3,.int .i64 s.2.2.lE.a0,.int .i64 s.2.2.lE.a1,.int .i64 s.2.2.lE.a2,.int .i64 s.2.2.lE.a3,.bool s.2.2.lC.a0,.bool s.2.2.lC.a1]:List Value).toArray 105 (0,0))∧∀ o,F.h aX o=none)∧True
def Ge (aQ aI aX:Nat) (b:Nat):Prop:=b=aQ∨b=aI∨b=aX
def Ek (n:Nat) (r_:Af):Option (An×Int) :=
  ((BY n r_).bind fun x9 =>
  (bif (x9 != 0) then
  some ((An.mk ([]:List Int) ([]:List Int) ([]:List Bool)),x9)
  else
  ((BZ n (fun s y0 y1=>Cw n y0 y1 s.1 s.2.1 s.2.2 r_) r_ (false,Bn.mk 0 0,(Ar.mk (AS.mk 0 0 0 0) (AS.mk 0 0 0 0) (Bd.mk false false)))).bind fun cH =>
  (bif (!cH.1) then
  some ((An.mk ([]:List Int) ([]:List Int) ([]:List Bool)),9)
  else
  ((Cl n cH.2.2 r_).bind fun fC =>
  some (fC,0))))))
def Ep (n:Nat) (d:Ar) (p1:Bn) (least:Int) (tried:List (Ar×Int)) (r_:Af):Option ((List (Ar×Int))×Int) :=
  ((some (Fb tried d (0:Int))).bind fun x12 =>
  (bif (!x12.2) then
  ((Cl n d r_).bind fun fC =>
  ((Co n (AM.mk r_ fC)).bind fun fI =>
  ((DH n fI).bind fun dU =>
  ((some (Fb (FP tried d dU) d (0:Int))).bind fun eP =>
  ((C9 n ([least,eP.1]:List Int)).bind fun aV =>
  some ((FP tried d dU),aV))))))
  else
  ((some (Fb tried d (0:Int))).bind fun eP =>
  ((C9 n ([least,eP.1]:List Int)).bind fun aV =>
  some (tried,aV)))))
def El (h0:Ae) (aI aT:Nat) (s:(List (Ar×Int))×Int) (F:Fr) (h:Ae):Prop:=Ae.le h0 h∧(aI≠aT∧True)∧∃ (jT:Array MapEntry)(jU:Nat),(F.X aI=some (.cells ([.int .i64 s.2]:List Value).toArray 3 (0,0))∧∀ o,F.h aI o=none)∧F.X aT=some (.map jT jU)∧En h jT.toList jU s.1∧True
def FC (aI aT:Nat) (b:Nat):Prop:=b=aI∨b=aT
def HK (n:Nat) (r_:Af):Option (Int×Int) :=
  ((BY n r_).bind fun x8 =>
  (bif (x8 != 0) then
  some (0,x8)
  else
  ((BZ n (fun s y0 y1=>Ep n y0 y1 s.2 s.1 r_) r_ (([]:List (Ar×Int)),IntKind.i64.wrap (r_.to_-r_.fr))).bind fun dE =>
  some (dE.2,0))))
def Ew (n:Nat) (r_:Af) (a:An):Option ((List Int)×Int) :=
  ((Ck n r_ a).bind fun x9 =>
  (bif (x9 != 0) then
  some (([]:List Int),x9)
  else
  ((Co n (AM.mk r_ a)).bind fun cH =>
  some (cH,0))))
def Gf (n:Nat)  : Option Bool :=
  ((J0 n ).bind fun x8 =>
  ((Oq n ).bind fun x9 =>
  ((Ew n x8 x9).bind fun bP =>
  ((J0 n ).bind fun cN =>
  ((Ek n cN).bind fun cP =>
  ((J0 n ).bind fun fR =>
  ((HK n fR).bind fun dE =>
  (bif (bP.2 == 0) then
  ((Jz n bP.1 ([40,30,30,37]:List Int)).bind fun fA =>
  (bif fA then
  (bif (cP.2 == 0) then
  ((Ot n ).bind fun bZ =>
  ((Oo n cP.1 bZ).bind fun gO =>
  (bif gO then
  (bif (dE.2 == 0) then
  some (dE.1 == 35)
  else
  some false)
  else
  some false)))
  else
  some false)
  else
  some false))
  else
  some false))))))))
def EF:Nat→Af→Ap→Int→Option (Ex Bool Unit)
  | 0,_,_,_=>none
  | n+1,r_,t_,aA =>
    (bif decide (aA<((r_.lB.length:Nat):Int)) then
    ((Cm t_.tm aA).bind fun dZ =>
    ((Cm r_.lB aA).bind fun cT =>
    ((Cm r_.lB aA).bind fun bW =>
    ((Fg n dZ cT.tm.lo bW.tm.hi).bind fun dC =>
    (bif (!dC) then
    some (Ex.ret false)
    else
    ((Cm t_.lE aA).bind fun dQ =>
    ((Fg n dQ r_.turn.lo r_.turn.hi).bind fun iB =>
    (bif (!iB) then
    some (Ex.ret false)
    else
    EF n r_ t_ (IntKind.i64.wrap (aA+1))))))))))
    else
    some (Ex.go ()))
def EG:Nat→Af→Ap→Int→Int→Option (Ex Bool Unit)
  | 0,_,_,_,_=>none
  | n+1,r_,t_,aC,aH =>
    (bif decide (aH<((r_.lA.length:Nat):Int)) then
    ((Cm t_.lA aC).bind fun jK =>
    ((Cm jK aH).bind fun bX =>
    ((Cm r_.lA aH).bind fun dA =>
    ((Cm r_.lA aH).bind fun gJ =>
    ((Fg n bX dA.lo gJ.hi).bind fun fH =>
    (bif (!fH) then
    some (Ex.ret false)
    else
    EG n r_ t_ aC (IntKind.i64.wrap (aH+1))))))))
    else
    some (Ex.go ()))
def EH:Nat→Af→Ap→Int→Option (Ex Bool Unit)
  | 0,_,_,_=>none
  | n+1,r_,t_,aC =>
    (bif decide (aC<((t_.lA.length:Nat):Int)) then
    ((Cm t_.lA aC).bind fun x90 =>
    (bif (((x90.length:Nat):Int) != ((r_.lA.length:Nat):Int)) then
    some (Ex.ret false)
    else
    ((EG n r_ t_ aC 0).bind fun o_218=>Ex.bind o_218 (fun r=>some (Ex.ret r)) fun s_219 =>
    EH n r_ t_ (IntKind.i64.wrap (aC+1)))))
    else
    some (Ex.go ()))
def J1 (n:Nat) (r_:Af) (t_:Ap):Option Bool :=
  (((bif (((t_.tm.length:Nat):Int) != ((r_.lB.length:Nat):Int)) then
  some true
  else
  (bif (((t_.lE.length:Nat):Int) != ((r_.lB.length:Nat):Int)) then
  some true
  else
  some (((t_.lA.length:Nat):Int) != (IntKind.i64.wrap (((r_.lB.length:Nat):Int)+((r_.lC.length:Nat):Int)))))):Option Bool).bind fun gP =>
  (bif gP then
  some false
  else
  ((EF n r_ t_ 0).bind fun jR=>Ex.bind jR (fun r=>some r) fun s_61 =>
  ((EH n r_ t_ 0).bind fun o_176=>Ex.bind o_176 (fun r=>some r) fun s_177 =>
  some true))))
def Bv:Nat→Af→An→(DO Int Rg)→KP→Ap→(List Int)→(List Int)→(List (List Int))→Int→Int→(((List Int)×(List Int)×(List (List Int)))→Prop)→Prop
  | 0,_,_,_,_,_,_,_,_,_,_,_=>False
  | n+1,r_,a,gO,bK,bU,aA,aD,aM,aG,bB,K =>
    (bif decide (aG<(IntKind.i64.wrap (((r_.lB.length:Nat):Int)+((r_.lC.length:Nat):Int)))) then
    (∃ o_230,((bif (!(decide (aG<((r_.lB.length:Nat):Int)))) then
    ((Cm a.lC (IntKind.i64.wrap (aG-((r_.lB.length:Nat):Int)))).bind fun eO =>
    some (!eO))
    else
    some false):Option Bool)=some o_230 ∧
    (bif o_230 then
    Bv n r_ a gO bK bU aA aD aM (IntKind.i64.wrap (aG+1)) bB K
    else
    (∃ bL,(some (Fb gO.l bB ((Rg.mk 0 0):Rg)))=some bL ∧
    (∃ o_281,((bif bL.2 then
    some (decide (bL.1.lo>bK.fr))
    else
    some false):Option Bool)=some o_281 ∧
    (bif o_281 then
    (∃ eB,(Cm bU.lA aG)=some eB ∧
    (∃ x99,(Cm aM aG)=some x99 ∧
    (∃ jV,(upd aM aG eB)=some jV ∧
    (bif decide (aG<((r_.lB.length:Nat):Int)) then
    (∃ bX,(Cm bU.tm aG)=some bX ∧
    (∃ dA,(Cm bU.lE aG)=some dA ∧
    (∃ x117,(Cm aA aG)=some x117 ∧
    (∃ u_394,(upd aA aG bX)=some u_394 ∧
    (∃ x118,(Cm aD aG)=some x118 ∧
    (∃ u_418,(upd aD aG dA)=some u_418 ∧
    Bv n r_ a gO bK bU u_394 u_418 jV (IntKind.i64.wrap (aG+1)) (IntKind.i64.wrap (bB+1)) K))))))
    else
    Bv n r_ a gO bK bU aA aD jV (IntKind.i64.wrap (aG+1)) (IntKind.i64.wrap (bB+1)) K))))
    else
    Bv n r_ a gO bK bU aA aD aM (IntKind.i64.wrap (aG+1)) (IntKind.i64.wrap (bB+1)) K)))))
    else
    K (aA,aD,aM))
def Ey (n:Nat) (r_:Af) (a:An) (stop:Int) (Q:(Ap×Int)→Prop):Prop :=
  (∃ cV,(Ck n r_ a)=some cV ∧
  (bif (cV != 0) then
  Q ((Ap.mk ([]:List Int) ([]:List Int) ([]:List (List Int))),cV)
  else
  (∃ fA,(Bp n r_ stop)=some fA ∧
  (bif (!fA) then
  Q ((Ap.mk ([]:List Int) ([]:List Int) ([]:List (List Int))),2)
  else
  (∃ cO,(BT n (AM.mk r_ a))=some cO ∧
  (∃ gO,(Cm cO stop)=some gO ∧
  (CS n r_ gO (fun bK =>
  (∃ aZ,(B7 n r_ (HJ.mk (fun(y0:Rg)=>Al n y0)))=some aZ ∧
  (∃ bU,(B7 n r_ (HJ.mk (fun(y0:Rg)=>Aw n y0)))=some bU ∧
  (Bv n r_ a gO bK bU aZ.tm aZ.lE aZ.lA 0 0 (fun jW =>
  Q ((Ap.mk jW.1 jW.2.1 jW.2.2),0)))))))))))))
def Bw:Nat→AM→(List (List Int))→(List (List Int))→Int→Option (List (List Int))
  | 0,_,_,_,_=>none
  | n+1,w_,cG,aA,aD =>
    (bif decide (aD<((cG.length:Nat):Int)) then
    ((Cm aA aD).bind fun bZ =>
    ((upd aA aD ([w_.lH.fr,w_.lH.to_]:List Int)).bind fun u_137 =>
    Bw n w_ cG u_137 (IntKind.i64.wrap (aD+1))))
    else
    some aA)
def By:Nat→AM→((List Bj)×(List A8))→(List (List Int))→Int→Option (List (List Int))
  | 0,_,_,_,_=>none
  | n+1,w_,bK,aC,aB =>
    (bif decide (aB<((bK.1.length:Nat):Int)) then
    ((Cm bK.1 aB).bind fun cA =>
    ((Cm bK.2 aB).bind fun dO =>
    ((BR n w_.lH cA dO).bind fun dM =>
    ((AW n (fun(s:List (List Int))(bW:Int)(dJ:Int)=>(((((fun(y0:Int)=>AC n w_.lH y0) dJ).bind fun dC =>
    (bif dC then
    ((Cm s bW).bind fun dW =>
    ((Jj dW ([dJ]:List Int)).bind fun iK =>
    ((Cm s bW).bind fun dP =>
    ((upd s bW iK).bind fun u_376 =>
    some u_376))))
    else
    some s)):Option (List (List Int))).bind fun s1=>some (s1,true))) aC dM.1 dM.2.1 dM.2.2).bind fun jQ =>
    By n w_ bK jQ (IntKind.i64.wrap (aB+1))))))
    else
    some aC)
def Bz:Nat→(List (List Int))→(List (List Int))→Int→Option (List (List Int))
  | 0,_,_,_=>none
  | n+1,iD,aH,aL =>
    (bif decide (aL<((iD.length:Nat):Int)) then
    ((Cm aH aL).bind fun eK =>
    ((RH eK).bind fun u_477 =>
    ((upd aH aL u_477).bind fun jX =>
    ((Cm jX aL).bind fun cX =>
    ((RJ cX).bind fun eA =>
    ((Cm jX aL).bind fun dX =>
    ((upd jX aL eA).bind fun u_536 =>
    Bz n iD u_536 (IntKind.i64.wrap (aL+1)))))))))
    else
    some aH)
def CG (n:Nat) (w_:AM) (t_:Ap):Option (List (List Int)) :=
  ((AT n w_.lH).bind fun bM =>
  ((mk bM (([]:List Int):List Int)).bind fun cG =>
  ((Bw n w_ cG cG 0).bind fun o_95 =>
  ((BQ n w_ t_).bind fun bK =>
  ((By n w_ bK o_95 0).bind fun iD =>
  ((Bz n iD iD 0).bind fun o_440 =>
  some o_440))))))
def D5 (n:Nat) (r_:Af) (a:An) (t_:Ap):Option ((List (List Int))×Int) :=
  ((Ck n r_ a).bind fun cW =>
  (bif (cW != 0) then
  some (([]:List (List Int)),cW)
  else
  ((CR n r_ t_).bind fun bM =>
  (bif (!bM) then
  some (([]:List (List Int)),2)
  else
  ((CG n (AM.mk r_ a) t_).bind fun gD =>
  some (gD,0))))))
def CN:Nat→((List (List Int))×Int)→(List Int)→Int→Option (List Int)
  | 0,_,_,_=>none
  | n+1,bM,aA,aD =>
    (bif decide (aD<((bM.1.length:Nat):Int)) then
    ((Cm bM.1 aD).bind fun gF =>
    ((G0 n gF).bind fun aV =>
    ((Jj aA ([aV]:List Int)).bind fun fG =>
    CN n bM fG (IntKind.i64.wrap (aD+1)))))
    else
    some aA)
def EV (n:Nat) (r_:Af) (a:An) (t_:Ap):Option ((List Int)×Int) :=
  ((D5 n r_ a t_).bind fun bM =>
  (bif (bM.2 != 0) then
  some (([]:List Int),bM.2)
  else
  ((CN n bM ([]:List Int) 0).bind fun o_80 =>
  some (o_80,0))))
def De (n:Nat) (Q:(Bool→Prop)) (bZ:An×Int) (cJ:An) (K:(List An)→Prop):Prop :=
  (bif (bZ.2 == 0) then
  (∃ dZ,(Jj ([cJ]:List An) ([bZ.1]:List An))=some dZ ∧
  K dZ)
  else
  (bif (bZ.2 != 9) then
  Q false
  else
  K ([cJ]:List An)))
def B9:Nat→Af→(Bool→Prop)→Int→((List Int)×Int)→((List Int)×Int)→Int→(Unit→Prop)→Prop
  | 0,_,_,_,_,_,_,_=>False
  | n+1,r_,Q,aB,bC,bL,aH,K =>
    (bif decide (aH<((bC.1.length:Nat):Int)) then
    (∃ iQ,(Cm bL.1 aH)=some iQ ∧
    (bif decide (iQ<0) then
    Q false
    else
    (∃ gR,(Cm bL.1 aH)=some gR ∧
    (∃ iR,(Cm bC.1 aH)=some iR ∧
    (bif decide (gR>iR) then
    Q false
    else
    (bif (aB == 1) then
    (∃ iS,(Cm bC.1 aH)=some iS ∧
    (bif decide (iS>r_.gap) then
    Q false
    else
    B9 n r_ Q aB bC bL (IntKind.i64.wrap (aH+1)) K))
    else
    B9 n r_ Q aB bC bL (IntKind.i64.wrap (aH+1)) K))))))
    else
    K ())
def BU:Nat→Af→(List (IK .u16))→(IK .u8)→(Bool→Prop)→Int→(List An)→Int→((List An)→Prop)→Prop
  | 0,_,_,_,_,_,_,_,_=>False
  | n+1,r_,words,stop,Q,aV,aC,aB,K =>
    (bif decide (aB<((aC.length:Nat):Int)) then
    (∃ cF,(Cm aC aB)=some cF ∧
    (∃ dM,(ET n r_)=some dM ∧
    (∃ dC,(Gx n cF)=some dC ∧
    (∃ dV,(FB n dC)=some dV ∧
    (∃ bC,(Ew n dM dV)=some bC ∧
    (∃ dP,(Cm aC aB)=some dP ∧
    (∃ fE,(ET n r_)=some fE ∧
    (∃ dH,(Gx n dP)=some dH ∧
    (∃ fF,(FB n dH)=some fF ∧
    (∃ x79,(Hk n r_ words)=some x79 ∧
    (∃ fN,(GW n x79)=some fN ∧
    (∃ bL,(EV n fE fF fN)=some bL ∧
    (∃ cX,(Cm aC aB)=some cX ∧
    (∃ dI,(ET n r_)=some dI ∧
    (∃ eA,(Gx n cX)=some eA ∧
    (∃ dX,(FB n eA)=some dX ∧
    (Ey n dI dX (Int.tmod (IntKind.i64.wrap stop.n) aV) (fun cC =>
    (∃ o_484,((bif (bC.2 != 0) then
    some true
    else
    (bif (bL.2 != 0) then
    some true
    else
    (bif (cC.2 != 0) then
    some true
    else
    ((F0 n r_).bind fun jL =>
    (bif (((bC.1.length:Nat):Int) != jL) then
    some true
    else
    (bif (((bL.1.length:Nat):Int) != ((bC.1.length:Nat):Int)) then
    some true
    else
    ((HV n cC.1).bind fun fH =>
    ((J1 n r_ fH).bind fun fS =>
    some (!fS))))))))):Option Bool)=some o_484 ∧
    (bif o_484 then
    Q false
    else
    (B9 n r_ Q aB bC bL 0 (fun s_570 =>
    (∃ fD,(Cm aC aB)=some fD ∧
    (∃ fO,(ET n r_)=some fO ∧
    (∃ fT,(Gx n fD)=some fT ∧
    (∃ fX,(FB n fT)=some fX ∧
    (∃ gK,(HV n cC.1)=some gK ∧
    (∃ gS,(GW n gK)=some gS ∧
    (∃ dR,(EV n fO fX gS)=some dR ∧
    (bif (dR.2 != 0) then
    Q false
    else
    (bif (((dR.1.length:Nat):Int) != ((bC.1.length:Nat):Int)) then
    Q false
    else
    (∃ gT,(Cm dR.1 (Int.tmod (IntKind.i64.wrap stop.n) aV))=some gT ∧
    (∃ iT,(Cm bC.1 (Int.tmod (IntKind.i64.wrap stop.n) aV))=some iT ∧
    (bif (gT != iT) then
    Q false
    else
    BU n r_ words stop Q aV aC (IntKind.i64.wrap (aB+1)) K))))))))))))))))))))))))))))))))))
    else
    K aC)
def Ft (n:Nat) (r_:Af) (a:An) (words:List (IK .u16)) (stop:IK .u8) (Q:Bool→Prop):Prop :=
  (∃ dU,(HW n r_ a)=some dU ∧
  (bif (!dU) then
  (∃ gF,(Gf n )=some gF ∧
  Q gF)
  else
  (∃ aV,(F0 n r_)=some aV ∧
  (∃ x32,(nz aV)=some x32 ∧
  (∃ cO,(ET n r_)=some cO ∧
  (∃ bZ,(Ek n cO)=some bZ ∧
  (∃ cJ,(FB n a)=some cJ ∧
  (De n Q bZ cJ (fun s_149 =>
  (BU n r_ words stop Q aV s_149 0 (fun s_198 =>
  (∃ iU,(Gf n )=some iU ∧
  Q iU))))))))))))
abbrev XZ:=@Option.some.inj
abbrev XY:=@Exists.intro
abbrev XX:=@Option.bind_some
abbrev XW:=@cond_true
abbrev XV:=@cond_false
abbrev XU:=@Ae.le_trans
abbrev XT:=@wp_seq
abbrev Wp (x:Af)(a0 c0 a1 c1 a2 c2):=([.slice a0 x.lA.length c0,.int .i64 x.turn.lo,.int .i64 x.turn.hi,.slice a1 x.lB.length c1,.slice a2 x.lC.length c2,.int .i64 x.lI,.int .i64 x.gap,.int .i64 x.fr,.int .i64 x.to_]:List SC)
abbrev Wq (x:An)(a0 c0 a1 c1 a2 c2):=([.slice a0 x.lD.length c0,.slice a1 x.lE.length c1,.slice a2 x.lC.length c2]:List SC)
abbrev Wr (x:Ap)(a0 c0 a1 c1 a2 c2):=([.slice a0 x.tm.length c0,.slice a1 x.lE.length c1,.slice a2 x.lA.length c2]:List SC)
abbrev Ws (x:Int):SC:=.int .i64 x
abbrev Wu (a:Option Addr)(b c:Nat):SC:=.slice a b c
abbrev Wv (x:Int):Nat:=x.toNat
abbrev Ww:=Option Addr
abbrev Wx:=List Value
abbrev Wt:=IntKind.wrap .i64
abbrev CH (d)(w_:AM)(p l q m u ac ai ad aj ae ak):=([Wu d w_.lH.lA.length p,Ws w_.lH.turn.lo,Ws w_.lH.turn.hi,Wu l w_.lH.lB.length q,Wu m w_.lH.lC.length u,Ws w_.lH.lI,Ws w_.lH.gap,Ws w_.lH.fr,Ws w_.lH.to_,Wu ac w_.acts.lD.length ai,Wu ad w_.acts.lE.length aj,Wu ae w_.acts.lC.length ak]:List SC)
abbrev DA (d:Ar):=([Ws d.lD.a0,Ws d.lD.a1,Ws d.lD.a2,Ws d.lD.a3,Ws d.lE.a0,Ws d.lE.a1,Ws d.lE.a2,Ws d.lE.a3,.bool d.lC.a0,.bool d.lC.a1]:List SC)
abbrev EO:TM:=[tP 3 1 0,tP 2 0 0]
abbrev Eu (cA:Bj):=([Ws cA.stop,Ws cA.tm,Ws cA.lF]:List SC)
abbrev FJ (y z aa ab):=([(y,0),(z,0),(aa,0),(ab,0)]:Bh)
abbrev Fd (aI bN aU a m):=([(aI,0),(bN,0),(aU,0),(a,0),(m,0)]:Bh)
abbrev Fo:TM:=[tP 2 1 0,tP 1 0 0]
abbrev Ie (g)(t_:Ap)(k d f l m):=((Wr t_ g k d f l m):List SC)
abbrev JN (bh)(dO:A8)(bi):=([Wu bh dO.lA.length bi,Ws dO.turn]:List SC)
abbrev Ja (d)(w_:AM)(p l q m u):=((Wp w_.lH d p l q m u):List SC)
abbrev Nz (eN:CW):=([Ws eN.stop,Ws eN.tm.lo,Ws eN.tm.hi]:List SC)
abbrev OL (b)(a:An)(e d f g j):=((Wq a b e d f g j):List SC)
abbrev OT (aV:Rg):=([Ws aV.lo,Ws aV.hi]:List SC)
abbrev Pb (ah)(m:((List Int)×(List Int)×(List (List Int))))(ak ai al aj am):=([Wu ah m.1.length ak,Wu ai m.2.1.length al,Wu aj m.2.2.length am]:List SC)
abbrev Pz (k)(aA:List Int)(l e)(aD:List Int)(f ae)(aZ:List (List Int))(af):=([Wu k aA.length l,Wu e aD.length f,Wu ae aZ.length af]:List SC)
abbrev RM (p1:Bn):=([Ws p1.lJ,Ws p1.sum]:List SC)
abbrev RN (f)(r_:Af)(p g q l u z)(fC:An)(ac aa ad ab ae):=([Wu f r_.lA.length p,Ws r_.turn.lo,Ws r_.turn.hi,Wu g r_.lB.length q,Wu l r_.lC.length u,Ws r_.lI,Ws r_.gap,Ws r_.fr,Ws r_.to_,Wu z fC.lD.length ac,Wu aa fC.lE.length ad,Wu ab fC.lC.length ae]:List SC)
abbrev UB (a)(r_:Af)(e b f d g):=((Wp r_ a e b f d g):List SC)
abbrev UE:List SC:=[Wu none 0 0,Wu none 0 0,Wu none 0 0]
abbrev UJ (r_:Af):=([Ws r_.turn.lo,Ws r_.turn.hi]:List SC)
abbrev VX (eN:CW):=([Ws eN.tm.lo,Ws eN.tm.hi]:List SC)
abbrev Wy:=@List.getElem?_eq_getElem
abbrev Wz:=@Option.bind_some
abbrev W0:=@List.append_assoc
abbrev W1:=@Int.natCast_zero
abbrev W2:=@List.nil_append
abbrev W3:=@List.drop_zero
abbrev W4:=@List.foldlM_cons
abbrev W5:=@List.getElem_mem
abbrev W6:=@List.getElem?_eq_none
abbrev W7:=@Int.le_refl
abbrev W8:=@List.map_cons
abbrev W9:=@List.mem_cons_of_mem
abbrev WA:=@List.getElem_range
abbrev WB:=@List.filterMap_cons
abbrev WC:=@List.drop_eq_nil_of_le
abbrev WD:=@List.mem_map_of_mem
abbrev WE:=@List.getElem?_map
abbrev WF:=@List.getElem_map
abbrev WG:=@List.length_map
abbrev WH:=@List.mem_of_getElem?
abbrev WI:=@List.map_congr_left
abbrev WJ:=@List.mem_range
abbrev WK:=@List.getElem?_range
abbrev WL:=@List.all_cons
abbrev WM:=@Bool.not_true
abbrev WN:=@Bool.true_and
abbrev WO:=@Bool.false_and
abbrev WP:=@Bool.and_eq_true
abbrev WQ:=@List.all_eq_true
abbrev WS:=@List.foldl_cons
abbrev WT:=@List.length_cons
abbrev WU:=@List.length_append
abbrev WV:=@List.length_range
abbrev WW:=@List.length_filterMap_le
abbrev WX:=@List.getElem?_replicate
abbrev WY:=@List.getElem?_set_self
abbrev WZ:=@List.length_take
abbrev Xa:=@Nat.zero_add
abbrev Xb:=@Bool.eq_false_or_eq_true
abbrev Xc:=@Nat.lt_succ_self
abbrev Xd:=@Nat.lt_of_lt_of_le
abbrev Xe:=@Nat.lt_add_of_pos_right
abbrev Xf:=@Nat.le_of_ble_eq_true
end Go.Proofs.YtokchpjijlebiaaGreat
