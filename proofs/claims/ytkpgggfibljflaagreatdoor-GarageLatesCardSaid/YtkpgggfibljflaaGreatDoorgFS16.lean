/- What a proof leans on: a machine that steps through code, and what functions compute. -/
import Derived.Test.YtkpgggfibljflaaGreatDoorgFS15
import Derived.Shelf.Strings.OnBuilder
set_option linter.all false
set_option maxRecDepth 100000
namespace Go.Proofs.YtkpgggfibljflaaGreatDoor
noncomputable section
open Go Go.RowKit Go.Proofs
open Rep (rep)
def Ly:List (Nat×C):=[(0,.l 28),(3,.s 3),(9,.l 28),(10,.s 3),(11,.s 3)]
def UD:List Wo:=[⟨.exit 0,[],[(0,.l 28),(3,.s 3)],[]⟩]
def Lz:List (Nat×C):=[(6,.o 93),(25,.l 28),(26,.s 3),(27,.s 3)]
def UE:List Wo:=[⟨.exit 2,[],[(6,.o 93)],[]⟩]
def Y8:List (Nat×C):=[(0,.l 28)]
def Aee:List Wo:=[⟨.ret,[],[],[.o 93]⟩]
def PS:Nat→(List (List Ag))→Int→(List (List Ag))→Int→Int→Option ((List (List Ag)×Int×Unit))
 | 0,_,_,_,_,_=>none
 | n+1,slices,size,x9,x10,x11 =>
  bif decide (x11<x10) then((A6 x9 x11).bind fun v0 =>
  bif decide (IntKind.i64.wrap (size+(↑v0.length:Int))<0) then(none) else
  PS n slices (IntKind.i64.wrap (size+(↑v0.length:Int))) x9 x10 (IntKind.i64.wrap (x11+1))) else
  some (slices,(size,()))
def OP (n:Nat) (y:C.Ds Ty (Af Ly)):Option (YT Ty UD):=PS n y.1 y.2.1 y.2.2.1 y.2.2.2.1 y.2.2.2.2.1
def ZiH (n:Nat):St Ty→Tr (Lf Ty):=AZ Ly 0 UD (OP n)
def PT:Nat→(List Ag)→(List (List Ag))→Int→Int→Option ((List Ag×Unit))
 | 0,_,_,_,_=>none
 | n+1,newslice,x25,x26,x27 =>
  bif decide (x27<x26) then((A6 x25 x27).bind fun v0 =>
  (app newslice v0).bind fun v1 =>
  PT n v1 x25 x26 (IntKind.i64.wrap (x27+1))) else
  some (newslice,())
def OQ (n:Nat) (y:C.Ds Ty (Af Lz)):Option (YT Ty UE):=PT n y.1 y.2.1 y.2.2.1 y.2.2.2.1
def ZiI (n:Nat):St Ty→Tr (Lf Ty):=AZ Lz 0 UE (OQ n)
def AhC (n:Nat) (slices:List (List Ag)):Option ((List Ag×Unit)) :=
 (PS n slices 0 slices (↑slices.length:Int) 0).bind fun v0 =>
 (bif decide (0≤v0.snd.fst) && decide (v0.snd.fst≤1000000000) then some () else none).bind fun v1 =>
 (PT n [] v0.fst (↑v0.fst.length:Int) 0).bind fun v2 =>
 some (v2.fst,())
def Am7 (n:Nat) (y:C.Ds Ty (Af Y8)):Option (YT Ty Aee):=AhC n y.1
def Zk2 (n:Nat):A9 Ty:=AA Y8 0 Aee (Am7 n)
def ZhW (n:Nat):List (Nat×A9 Ty):=[(187,ZjV n)]
theorem Xd (n:Nat):Ap Tryz.prog (ZhW n):=⟨Aqf n,trivial⟩
def Zka (n:Nat):Az Ty:=[]
theorem AkY (n:Nat) (x:C.Ds Ty (Af Ly)):(Ax Tryz.prog 36 (Am Tryz.prog (ZhW n) []) (Ae (Zka n)) (Al 3 Tryz.f131) (Aw Ly x)).runK (A3 0 Ly UD (OP n))=OP (n+1) x:=by kernel_rfl
theorem AkZ (n:Nat):A5 true Tryz.prog 36 (ZiH n) (.loop (Al 3 Tryz.f131)):=A4 fun x y hy=>At (Fn:=OP) Aa Ab (fun n=>Ac Aa Ab (Xd n) Ah) (fun h=>by cases h) (fun h=>by cases h) (fun n=>(Ad (fn:=Tryz.f131) (L:=Zka n) (ks:=[]) trivial (by kernel_rfl) (by kernel_rfl))) (by decide) (fun _=>rfl) AkY hy
def Zkb (n:Nat):Az Ty:=[]
theorem Ala (n:Nat) (x:C.Ds Ty (Af Lz)):(Ax Tryz.prog 36 (Am Tryz.prog (ZhW n) []) (Ae (Zkb n)) (Al 11 Tryz.f131) (Aw Lz x)).runK (A3 0 Lz UE (OQ n))=OQ (n+1) x:=by kernel_rfl
theorem Alb (n:Nat):A5 true Tryz.prog 36 (ZiI n) (.loop (Al 11 Tryz.f131)):=A4 fun x y hy=>At (Fn:=OQ) Aa Ab (fun n=>Ac Aa Ab (Xd n) Ah) (fun h=>by cases h) (fun h=>by cases h) (fun n=>(Ad (fn:=Tryz.f131) (L:=Zkb n) (ks:=[]) trivial (by kernel_rfl) (by kernel_rfl))) (by decide) (fun _=>rfl) Ala hy
def Zlc (n:Nat):Az Ty:=[(.loop 3,ZiH n),(.loop 11,ZiI n)]
theorem ArE (n:Nat) (x:C.Ds Ty (Af Y8)):(Ax Tryz.prog 36 (Am Tryz.prog (ZhW n) []) (Ae (Zlc n)) (Ao Tryz.f131) (Aw Y8 x)).runK (Aq Tryz.prog Tryz.f131.results.toList 0 Aee)=Am7 n x:=by kernel_rfl
theorem Alc (n:Nat):Au Tryz.prog 131 (Zk2 n):=As Tryz.func131 rfl rfl (by decide) rfl Aa Ab (Ac Aa Ab (Xd n) Ah) (Ad (fn:=Tryz.f131) (L:=Zlc n) (ks:=[.loop 3,.loop 11]) ⟨AkZ n,⟨Alb n,trivial⟩⟩ (by kernel_rfl) (by kernel_rfl)) (ArE n)
def N6:List (Nat×C):=[(0,.s 4),(1,.s 3)]
def Sp:List Wo:=[⟨.ret,[],[],[]⟩,⟨.pan,[],[],[.i 234 (.g 234)]⟩]
def AE (n:Nat) (is:Bool) (e:Int):Option (Unit ⊕ ((AI×Unit))) :=
 bif !is then(some (.inr (AI.mk e,()))) else
 some (.inl ())
def ZH (n:Nat) (y:C.Ds Ty (Af N6)):Option (YT Ty Sp):=AE n y.1 y.2.1
def Zb3 (n:Nat):A9 Ty:=AA N6 0 Sp (ZH n)
def Zj7 (n:Nat):List (Nat×A9 Ty):=[]
theorem AgH (n:Nat):Ap Tryz.prog (Zj7 n):=trivial
def Zj8 (n:Nat):Az Ty:=[]
theorem Akn (n:Nat) (x:C.Ds Ty (Af N6)):(Ax Tryz.prog 9 (Am Tryz.prog (Zj7 n) []) (Ae (Zj8 n)) (Ao Tryz.f139) (Aw N6 x)).runK (Aq Tryz.prog Tryz.f139.results.toList 0 Sp)=ZH n x:=by kernel_rfl
theorem BB (n:Nat):Au Tryz.prog 139 (Zb3 n):=As Tryz.func139 rfl rfl (by decide) rfl Aa Ab (Ac Aa Ab (AgH n) Ah) (Ad (fn:=Tryz.f139) (L:=Zj8 n) (ks:=[]) trivial (by kernel_rfl) (by kernel_rfl)) (Akn n)
def FB:List (Nat×C):=[(0,.l 180),(1,.g 180)]
def J3:List Wo:=[⟨.ret,[],[],[.l 180]⟩]
def HN (n:Nat) (l:List A0) (x:A0):Option ((List A0×Unit)) :=
 (Akf n l).bind fun v0 =>
 (app v0.fst [x]).bind fun v1 =>
 some (v1,())
def O7 (n:Nat) (y:C.Ds Ty (Af FB)):Option (YT Ty J3):=HN n y.1 y.2.1
def ZdU (n:Nat):A9 Ty:=AA FB 0 J3 (O7 n)
def ZeY (n:Nat):List (Nat×A9 Ty):=[(340,ZjY n)]
theorem We (n:Nat):Ap Tryz.prog (ZeY n):=⟨Akg n,trivial⟩
def ZeZ (n:Nat):Az Ty:=[]
theorem Xe (n:Nat) (x:C.Ds Ty (Af FB)):(Ax Tryz.prog 10 (Am Tryz.prog (ZeY n) []) (Ae (ZeZ n)) (Ao Tryz.f308) (Aw FB x)).runK (Aq Tryz.prog Tryz.f308.results.toList 0 J3)=O7 n x:=by kernel_rfl
theorem Ti (n:Nat):Au Tryz.prog 308 (ZdU n):=As Tryz.func308 rfl rfl (by decide) rfl Aa Ab (Ac Aa Ab (We n) Ah) (Ad (fn:=Tryz.f308) (L:=ZeZ n) (ks:=[]) trivial (by kernel_rfl) (by kernel_rfl)) (Xe n)
def HO:List (Nat×C):=[(0,.g 180)]
def L0:List Wo:=[⟨.ret,[],[],[.s 4]⟩]
def Hb (n:Nat) (c:A0):Option ((Bool×Unit)) :=
 bif decide (0≤c.bus) then(bif decide (c.bus≤99) then(bif decide (1≤c.number) then(bif decide (c.number≤999) then(bif decide (0≤c.minute) then(bif decide (c.minute≤1000000) then(bif decide (IntKind.i64.wrap c.kind.n<(↑[Ld.mk (Fp.mk (↑212:Int)),Ld.mk (Fp.mk (↑212:Int)),Ld.mk (Fp.mk (↑213:Int)),Ld.mk (Fp.mk (↑214:Int))].length:Int)) then((A6 [Ld.mk (Fp.mk (↑212:Int)),Ld.mk (Fp.mk (↑212:Int)),Ld.mk (Fp.mk (↑213:Int)),Ld.mk (Fp.mk (↑214:Int))] c.kind.n).bind fun v0 =>
 ([Ld.mk (Fp.mk (↑212:Int)),Ld.mk (Fp.mk (↑212:Int)),Ld.mk (Fp.mk (↑213:Int)),Ld.mk (Fp.mk (↑214:Int))].get?Internal c.kind.n.toNat).bind fun v1 =>
 bif decide (v1.right.f=(↑212:Int)) then(bif decide (0≤c.part) then(bif decide (c.part≤15) then(some (decide (c.sg=0),())) else
 some (false,())) else
 some (false,())) else
 bif decide (v1.right.f=(↑213:Int)) then(bif decide (c.part=0) then(bif decide (1≤c.sg) then(some (decide (c.sg≤999),())) else
 some (false,())) else
 some (false,())) else
 bif decide (v1.right.f=(↑214:Int)) then(bif decide (c.part=0) then(some (decide (c.sg=0),())) else
 some (false,())) else
 none) else
 some (false,())) else
 some (false,())) else
 some (false,())) else
 some (false,())) else
 some (false,())) else
 some (false,())) else
 some (false,())
def RG (n:Nat) (y:C.Ds Ty (Af HO)):Option (YT Ty L0):=Hb n y.1
def Zfa (n:Nat):A9 Ty:=AA HO 0 L0 (RG n)
def Zgy (n:Nat):List (Nat×A9 Ty):=[]
theorem YN (n:Nat):Ap Tryz.prog (Zgy n):=trivial
def Zgz (n:Nat):Az Ty:=[]
theorem Aa8 (n:Nat) (x:C.Ds Ty (Af HO)):(Ax Tryz.prog 34 (Am Tryz.prog (Zgy n) []) (Ae (Zgz n)) (Ao Tryz.f106) (Aw HO x)).runK (Aq Tryz.prog Tryz.f106.results.toList 0 L0)=RG n x:=by kernel_rfl
theorem Wf (n:Nat):Au Tryz.prog 106 (Zfa n):=As Tryz.func106 rfl rfl (by decide) rfl Aa Ab (Ac Aa Ab (YN n) Ah) (Ad (fn:=Tryz.f106) (L:=Zgz n) (ks:=[]) trivial (by kernel_rfl) (by kernel_rfl)) (Aa8 n)
def Ix:List (Nat×C):=[(0,.l 180),(1,.f 158 [] [.p [.f 106 [] []]]),(7,.s 3),(8,.s 3)]
def PU:List Wo:=[⟨.exit 0,[.p [.f 106 [] []]],[],[]⟩,⟨.ret,[.p [.f 106 [] []]],[(4,.s 3)],[]⟩]
def Iy:List (Nat×C):=[(4,.p [.m 3 180,.o 3]),(20,.l 180),(21,.s 3),(22,.s 3)]
def PV:List Wo:=[⟨.exit 1,[.p [.m 3 180,.o 3],.q 1],[(4,.q 0)],[]⟩,⟨.ret,[.p [.m 3 180,.o 3],.q 1],[(2,.z),(3,.s 3)],[]⟩]
def RH:List (Nat×C):=[(0,.l 180)]
def Xf:List Wo:=[⟨.ret,[],[],[.z,.s 3]⟩,⟨.ret,[],[],[.p [.m 3 180,.l 3],.s 3]⟩]
def G1:Nat→(List A0)→Int→Int→Option ((((Unit×Unit)×Unit)×Unit) ⊕ ((((Unit×Unit)×Unit)×Int×Unit)))
 | 0,_,_,_=>none
 | n+1,s,x7,x8 =>
  bif decide (x8<x7) then((A6 s x8).bind fun v0 =>
  (Hb n v0).bind fun v1 =>
  bif !v1.fst then(some (.inr ((((),()),()),(x8,())))) else
  G1 n s x7 (IntKind.i64.wrap (x8+1))) else
  some (.inl ((((),()),()),()))
def L1 (n:Nat) (y:C.Ds Ty (Af Ix)):Option (YT Ty PU):=G1 n y.1 y.2.2.1 y.2.2.2.1
def ZdN (n:Nat):St Ty→Tr (Lf Ty):=AZ Ix 1 PU (L1 n)
def Cv:Nat→(List (Int×A0))→(List Int)→(List A0)→Int→Int→Option ((((List (Int×A0))×List Int×Unit)×Unit×Unit×Unit) ⊕ ((((List (Int×A0))×List Int×Unit)×Unit×Unit×Int×Unit)))
 | 0,_,_,_,_,_=>none
 | n+1,b1,b2,x20,x21,x22 =>
  bif decide (x22<x21) then((A6 x20 x22).bind fun v0 =>
  bif Dm Ce b1 v0.number then(bif !(decide ((AY Ce b1 v0.number (A0.mk 0 0 0 (IK.mk 0) 0 0)).bus=v0.bus) && (decide ((AY Ce b1 v0.number (A0.mk 0 0 0 (IK.mk 0) 0 0)).number=v0.number) && (decide ((AY Ce b1 v0.number (A0.mk 0 0 0 (IK.mk 0) 0 0)).minute=v0.minute) && (decide ((AY Ce b1 v0.number (A0.mk 0 0 0 (IK.mk 0) 0 0)).kind.n=v0.kind.n) && (decide ((AY Ce b1 v0.number (A0.mk 0 0 0 (IK.mk 0) 0 0)).part=v0.part) && (decide ((AY Ce b1 v0.number (A0.mk 0 0 0 (IK.mk 0) 0 0)).sg=v0.sg) && true)))))) then(some (.inr ((b1,(b2,())),((),((),(6,())))))) else
  bif !Dm Ce b1 v0.number then((app b2 [v0.number]).bind fun v1 =>
  Cv n (JI Ce b1 v0.number v0) v1 x20 x21 (IntKind.i64.wrap (x22+1))) else
  Cv n b1 b2 x20 x21 (IntKind.i64.wrap (x22+1))) else
  bif !Dm Ce b1 v0.number then((app b2 [v0.number]).bind fun v1 =>
  Cv n (JI Ce b1 v0.number v0) v1 x20 x21 (IntKind.i64.wrap (x22+1))) else
  Cv n b1 b2 x20 x21 (IntKind.i64.wrap (x22+1))) else
  some (.inl ((b1,(b2,())),((),((),()))))
def L2 (n:Nat) (y:C.Ds Ty (Af Iy)):Option (YT Ty PV):=Cv n y.1.1 y.1.2.1 y.2.1 y.2.2.1 y.2.2.2.1
def Zhk (n:Nat):St Ty→Tr (Lf Ty):=AZ Iy 2 PV (L2 n)
def Tj (n:Nat) (l:List A0):Option ((Unit×Int×Unit) ⊕ ((((List (Int×A0))×List Int×Unit)×Int×Unit))) :=
 bif decide ((↑l.length:Int)>40) then(some (.inl ((),(3,())))) else
 (G1 n l (↑l.length:Int) 0).bind fun v0 =>
 Sum.elim (fun v1=>(Cv n [] [] l (↑l.length:Int) 0).bind fun v2 =>
 Sum.elim (fun v3=>(Ar0 v3.fst.snd.fst).bind fun v4 =>
 some (.inr ((v3.fst.fst,(v4,())),(0,())))) (fun v3=>some (.inl ((),(v3.snd.snd.snd.fst,())))) (v2)) (fun v1=>bif !!decide (v1.snd.fst≥0) then(some (.inl ((),(1,())))) else
 (Cv n [] [] l (↑l.length:Int) 0).bind fun v2 =>
 Sum.elim (fun v3=>(Ar0 v3.fst.snd.fst).bind fun v4 =>
 some (.inr ((v3.fst.fst,(v4,())),(0,())))) (fun v3=>some (.inl ((),(v3.snd.snd.snd.fst,())))) (v2)) (v0)
def AfI (n:Nat) (y:C.Ds Ty (Af RH)):Option (YT Ty Xf):=Tj n y.1
def Zgq (n:Nat):A9 Ty:=AA RH 0 Xf (AfI n)
def ZfJ (n:Nat):List (Nat×A9 Ty):=[(106,Zfa n),(108,ZkY n)]
theorem Sq (n:Nat):Ap Tryz.prog (ZfJ n):=⟨Wf n,⟨Aqb n,trivial⟩⟩
def ZiJ (n:Nat):Az Ty:=[]
theorem AgI (n:Nat) (x:C.Ds Ty (Af Ix)):(Ax Tryz.prog 19 (Am Tryz.prog (ZfJ n) []) (Ae (ZiJ n)) (Al 2 Tryz.f210) (Aw Ix x)).runK (A3 1 Ix PU (L1 n))=L1 (n+1) x:=by kernel_rfl
theorem AgJ (n:Nat):A5 true Tryz.prog 19 (ZdN n) (.loop (Al 2 Tryz.f210)):=A4 fun x y hy=>At (Fn:=L1) Aa Ab (fun n=>Ac Aa Ab (Sq n) Ah) (fun h=>by cases h) (fun h=>by cases h) (fun n=>(Ad (fn:=Tryz.f210) (L:=ZiJ n) (ks:=[]) trivial (by kernel_rfl) (by kernel_rfl))) (by decide) (fun _=>rfl) AgI hy
def Zhl (n:Nat):YM Ty:=[(210,[(.loop 2,ZdN n)])]
theorem Xg (n:Nat):RC Tryz.prog (Zhl n):=⟨JX (f:=210) Tryz.func210 rfl (Ad (fn:=Tryz.f210) (L:=[(.loop 2,ZdN n)]) (ks:=[.loop 2]) ⟨AgJ n,trivial⟩ (by kernel_rfl) (by kernel_rfl)),trivial⟩
def ZiK (n:Nat):Az Ty:=[]
theorem AgK (n:Nat) (x:C.Ds Ty (Af Iy)):(Ax Tryz.prog 69 (Am Tryz.prog (ZfJ n) (Zhl n)) (Ae (ZiK n)) (Al 7 Tryz.f66) (Aw Iy x)).runK (A3 2 Iy PV (L2 n))=L2 (n+1) x:=by kernel_rfl
theorem AgL (n:Nat):A5 true Tryz.prog 69 (Zhk n) (.loop (Al 7 Tryz.f66)):=A4 fun x y hy=>At (Fn:=L2) Aa Ab (fun n=>Ac Aa Ab (Sq n) (Xg n)) (fun h=>by cases h) (fun h=>by cases h) (fun n=>(Ad (fn:=Tryz.f66) (L:=ZiK n) (ks:=[]) trivial (by kernel_rfl) (by kernel_rfl))) (by decide) (fun _=>rfl) AgK hy
def Zk3 (n:Nat):Az Ty:=[(.loop 7,Zhk n)]
theorem AnJ (n:Nat) (x:C.Ds Ty (Af RH)):(Ax Tryz.prog 69 (Am Tryz.prog (ZfJ n) (Zhl n)) (Ae (Zk3 n)) (Ao Tryz.f66) (Aw RH x)).runK (Aq Tryz.prog Tryz.f66.results.toList 0 Xf)=AfI n x:=by kernel_rfl
theorem VG (n:Nat):Au Tryz.prog 66 (Zgq n):=As Tryz.func66 rfl rfl (by decide) rfl Aa Ab (Ac Aa Ab (Sq n) (Xg n)) (Ad (fn:=Tryz.f66) (L:=Zk3 n) (ks:=[.loop 7]) ⟨AgL n,trivial⟩ (by kernel_rfl) (by kernel_rfl)) (AnJ n)
def HP:List (Nat×C):=[(0,.l 180)]
def L3:List Wo:=[⟨.ret,[],[],[.s 3]⟩]
def JY (n:Nat) (l:List A0):Option ((Int×Unit)) :=
 (Tj n l).bind fun v0 =>
 Sum.elim (fun v1=>some (v1.snd.fst,())) (fun v1=>some (v1.snd.fst,())) (v0)
def RI (n:Nat) (y:C.Ds Ty (Af HP)):Option (YT Ty L3):=JY n y.1
def Zfb (n:Nat):A9 Ty:=CG (AA HP 0 L3 (RI n))
def Zg0 (n:Nat):List (Nat×A9 Ty):=[(66,Zgq n)]
theorem YO (n:Nat):Ap Tryz.prog (Zg0 n):=⟨VG n,trivial⟩
def Zg1 (n:Nat):Az Ty:=[]
theorem Aa9 (n:Nat) (x:C.Ds Ty (Af HP)):(Ax Tryz.prog 11 (Am Tryz.prog (Zg0 n) []) (Ae (Zg1 n)) (Ao Tryz.f309) (Aw HP x)).runK (Aq Tryz.prog Tryz.f309.results.toList 0 L3)=RI n x:=by kernel_rfl
theorem Wg (n:Nat):Au Tryz.prog 309 (Zfb n):=AS (As Tryz.func309 rfl rfl (by decide) rfl Aa Ab (Ac Aa Ab (YO n) Ah) (Ad (fn:=Tryz.f309) (L:=Zg1 n) (ks:=[]) trivial (by kernel_rfl) (by kernel_rfl)) (Aa9 n))
def L4:List (Nat×C):=[(0,.s 3)]
def PW:List Wo:=[⟨.ret,[],[],[]⟩,⟨.pan,[],[],[.i 234 (.g 234)]⟩]
def Dn (n:Nat) (e:Int):Option (Unit ⊕ ((AI×Unit))) :=
 (AE n (decide (e=0)) e).bind fun v0 =>
 Sum.elim (fun v1=>some (.inl ())) (fun v1=>some (.inr (v1.fst,()))) (v0)
def Xh (n:Nat) (y:C.Ds Ty (Af L4)):Option (YT Ty PW):=Dn n y.1
def ZbA (n:Nat):A9 Ty:=AA L4 0 PW (Xh n)
def ZiL (n:Nat):List (Nat×A9 Ty):=[(139,Zb3 n)]
theorem Aef (n:Nat):Ap Tryz.prog (ZiL n):=⟨BB n,trivial⟩
def ZiM (n:Nat):Az Ty:=[]
theorem AgM (n:Nat) (x:C.Ds Ty (Af L4)):(Ax Tryz.prog 6 (Am Tryz.prog (ZiL n) []) (Ae (ZiM n)) (Ao Tryz.f259) (Aw L4 x)).runK (Aq Tryz.prog Tryz.f259.results.toList 0 PW)=Xh n x:=by kernel_rfl
theorem DF (n:Nat):Au Tryz.prog 259 (ZbA n):=As Tryz.func259 rfl rfl (by decide) rfl Aa Ab (Ac Aa Ab (Aef n) Ah) (Ad (fn:=Tryz.f259) (L:=ZiM n) (ks:=[]) trivial (by kernel_rfl) (by kernel_rfl)) (AgM n)
def B5:List (Nat×C):=[(0,.u 114),(3,.u 180),(11,.l 180),(12,.s 3),(13,.s 3)]
def Er:List Wo:=[⟨.exit 0,[.u 114,.u 180],[(0,.q 0),(3,.q 1)],[]⟩,⟨.pan,[.u 114,.u 180],[],[.i 234 (.g 234)]⟩]
def Dp:List (Nat×C):=[(0,.u 114),(1,.g 180)]
def G2:List Wo:=[⟨.ret,[.u 114],[],[]⟩,⟨.pan,[.u 114],[],[.i 234 (.g 234)]⟩]
def Bt:Nat→Aj→A0→(List A0)→Int→Int→Option ((Aj×A0×Unit×Unit×Unit) ⊕ ((Aj×A0×AI×Unit)))
 | 0,_,_,_,_,_=>none
 | n+1,g,c,x11,x12,x13 =>
  bif decide (x13<x12) then((A6 x11 x13).bind fun v0 =>
  (AE n (!(decide (v0.bus=c.bus) && (decide (v0.number=c.number) && (decide (v0.minute=c.minute) && (decide (v0.kind.n=c.kind.n) && (decide (v0.part=c.part) && (decide (v0.sg=c.sg) && true))))))) 6).bind fun v1 =>
  Sum.elim (fun v2=>Bt n g c x11 x12 (IntKind.i64.wrap (x13+1))) (fun v2=>some (.inr (g,(c,(v2.fst,()))))) (v1)) else
  some (.inl (g,(c,((),((),())))))
def Ci (n:Nat) (y:C.Ds Ty (Af B5)):Option (YT Ty Er):=Bt n y.1 y.2.1 y.2.2.1 y.2.2.2.1 y.2.2.2.2.1
def Zcr (n:Nat):St Ty→Tr (Lf Ty):=AZ B5 2 Er (Ci n)
def By (n:Nat) (g:Aj) (c:A0):Option ((Aj×Unit) ⊕ ((Aj×AI×Unit))) :=
 (Bt n g c g.state.cards (↑g.state.cards.length:Int) 0).bind fun v0 =>
 Sum.elim (fun v1=>(HN n v1.fst.state.cards v1.snd.fst).bind fun v2 =>
 (JY n v2.fst).bind fun v3 =>
 (Dn n v3.fst).bind fun v4 =>
 Sum.elim (fun v5=>some (.inl (Aj.mk (An.mk v2.fst v1.fst.state.outs v1.fst.state.runs v1.fst.state.records v1.fst.state.week v1.fst.state.roster),()))) (fun v5=>some (.inr (v1.fst,(v5.fst,())))) (v4)) (fun v1=>some (.inr (v1.fst,(v1.snd.snd.fst,())))) (v0)
def L5 (n:Nat) (y:C.Ds Ty (Af Dp)):Option (YT Ty G2):=By n y.1 y.2.1
def Zb4 (n:Nat):A9 Ty:=AA Dp 1 G2 (L5 n)
def Zcb (n:Nat):List (Nat×A9 Ty):=[(139,Zb3 n),(308,ZdU n),(309,Zfb n),(259,ZbA n)]
theorem JM (n:Nat):Ap Tryz.prog (Zcb n):=⟨BB n,⟨Ti n,⟨Wg n,⟨DF n,trivial⟩⟩⟩⟩
def ZcA (n:Nat):Az Ty:=[]
theorem PX (n:Nat) (x:C.Ds Ty (Af B5)):(Ax Tryz.prog 37 (Am Tryz.prog (Zcb n) []) (Ae (ZcA n)) (Al 2 Tryz.f258) (Aw B5 x)).runK (A3 2 B5 Er (Ci n))=Ci (n+1) x:=by kernel_rfl
theorem PY (n:Nat):A5 true Tryz.prog 37 (Zcr n) (.loop (Al 2 Tryz.f258)):=A4 fun x y hy=>At (Fn:=Ci) Aa Ab (fun n=>Ac Aa Ab (JM n) Ah) (fun h=>by cases h) (fun h=>by cases h) (fun n=>(Ad (fn:=Tryz.f258) (L:=ZcA n) (ks:=[]) trivial (by kernel_rfl) (by kernel_rfl))) (by decide) (fun _=>rfl) PX hy
def Zdy (n:Nat):Az Ty:=[(.loop 2,Zcr n)]
theorem Tk (n:Nat) (x:C.Ds Ty (Af Dp)):(Ax Tryz.prog 37 (Am Tryz.prog (Zcb n) []) (Ae (Zdy n)) (Ao Tryz.f258) (Aw Dp x)).runK (Aq Tryz.prog Tryz.f258.results.toList 1 G2)=L5 n x:=by kernel_rfl
theorem BS (n:Nat):Au Tryz.prog 258 (Zb4 n):=As Tryz.func258 rfl rfl (by decide) rfl Aa Ab (Ac Aa Ab (JM n) Ah) (Ad (fn:=Tryz.f258) (L:=Zdy n) (ks:=[.loop 2]) ⟨PY n,trivial⟩ (by kernel_rfl) (by kernel_rfl)) (Tk n)
def CH:List (Nat×C):=[(0,.u 114),(1,.v 3)]
def Gb:List Wo:=[⟨.ret,[.u 114],[],[]⟩,⟨.pan,[.u 114],[],[.i 234 (.g 234)]⟩]
def DX (n:Nat) (g:Aj) (n_:List Int):Option ((Aj×Unit) ⊕ ((Aj×AI×Unit))) :=
 bif n_.length.beq 5 then((A6 n_ 0).bind fun v0 =>
 (n_.get?Internal (Int.toNat 0)).bind fun v1 =>
 bif n_.length.beq 5 then((A6 n_ 1).bind fun v2 =>
 (n_.get?Internal (Int.toNat 1)).bind fun v3 =>
 bif n_.length.beq 5 then((A6 n_ 2).bind fun v4 =>
 (n_.get?Internal (Int.toNat 2)).bind fun v5 =>
 bif n_.length.beq 5 then((A6 n_ 3).bind fun v6 =>
 (n_.get?Internal (Int.toNat 3)).bind fun v7 =>
 (By n g (A0.mk v1 v3 v5 (IK.mk 0) v7 0)).bind fun v8 =>
 Sum.elim (fun v9=>some (.inl (v9.fst,()))) (fun v9=>some (.inr (v9.fst,(v9.snd.fst,())))) (v8)) else
 none) else
 none) else
 none) else
 none
def KV (n:Nat) (y:C.Ds Ty (Af CH)):Option (YT Ty Gb):=DX n y.1 y.2.1
def ZbK (n:Nat):A9 Ty:=AA CH 1 Gb (KV n)
def Zde (n:Nat):List (Nat×A9 Ty):=[(258,Zb4 n)]
theorem QT (n:Nat):Ap Tryz.prog (Zde n):=⟨BS n,trivial⟩
def Zdf (n:Nat):Az Ty:=[]
theorem Sr (n:Nat) (x:C.Ds Ty (Af CH)):(Ax Tryz.prog 15 (Am Tryz.prog (Zde n) []) (Ae (Zdf n)) (Ao Tryz.f189) (Aw CH x)).runK (Aq Tryz.prog Tryz.f189.results.toList 1 Gb)=KV n x:=by kernel_rfl
theorem HQ (n:Nat):Au Tryz.prog 189 (ZbK n):=As Tryz.func189 rfl rfl (by decide) rfl Aa Ab (Ac Aa Ab (QT n) Ah) (Ad (fn:=Tryz.f189) (L:=Zdf n) (ks:=[]) trivial (by kernel_rfl) (by kernel_rfl)) (Sr n)
def Dq:List (Nat×C):=[(0,.u 114),(1,.v 3)]
def G3:List Wo:=[⟨.ret,[.u 114],[],[]⟩,⟨.pan,[.u 114],[],[.i 234 (.g 234)]⟩]
def E9 (n:Nat) (g:Aj) (n_:List Int):Option ((Aj×Unit) ⊕ ((Aj×AI×Unit))) :=
 bif n_.length.beq 5 then((A6 n_ 0).bind fun v0 =>
 (n_.get?Internal (Int.toNat 0)).bind fun v1 =>
 bif n_.length.beq 5 then((A6 n_ 1).bind fun v2 =>
 (n_.get?Internal (Int.toNat 1)).bind fun v3 =>
 bif n_.length.beq 5 then((A6 n_ 2).bind fun v4 =>
 (n_.get?Internal (Int.toNat 2)).bind fun v5 =>
 bif n_.length.beq 5 then((A6 n_ 3).bind fun v6 =>
 (n_.get?Internal (Int.toNat 3)).bind fun v7 =>
 (By n g (A0.mk v1 v3 v5 (IK.mk 1) v7 0)).bind fun v8 =>
 Sum.elim (fun v9=>some (.inl (v9.fst,()))) (fun v9=>some (.inr (v9.fst,(v9.snd.fst,())))) (v8)) else
 none) else
 none) else
 none) else
 none
def L6 (n:Nat) (y:C.Ds Ty (Af Dq)):Option (YT Ty G3):=E9 n y.1 y.2.1
def ZbO (n:Nat):A9 Ty:=AA Dq 1 G3 (L6 n)
def Zdz (n:Nat):List (Nat×A9 Ty):=[(258,Zb4 n)]
theorem Ss (n:Nat):Ap Tryz.prog (Zdz n):=⟨BS n,trivial⟩
def Zd0 (n:Nat):Az Ty:=[]
theorem Tl (n:Nat) (x:C.Ds Ty (Af Dq)):(Ax Tryz.prog 15 (Am Tryz.prog (Zdz n) []) (Ae (Zd0 n)) (Ao Tryz.f190) (Aw Dq x)).runK (Aq Tryz.prog Tryz.f190.results.toList 1 G3)=L6 n x:=by kernel_rfl
theorem Iz (n:Nat):Au Tryz.prog 190 (ZbO n):=As Tryz.func190 rfl rfl (by decide) rfl Aa Ab (Ac Aa Ab (Ss n) Ah) (Ad (fn:=Tryz.f190) (L:=Zd0 n) (ks:=[]) trivial (by kernel_rfl) (by kernel_rfl)) (Tl n)
def Cw:List (Nat×C):=[(0,.u 114),(1,.v 3)]
def Fi:List Wo:=[⟨.ret,[.u 114],[],[]⟩,⟨.pan,[.u 114],[],[.i 234 (.g 234)]⟩]
def Dr (n:Nat) (g:Aj) (n_:List Int):Option ((Aj×Unit) ⊕ ((Aj×AI×Unit))) :=
 bif n_.length.beq 5 then((A6 n_ 0).bind fun v0 =>
 (n_.get?Internal (Int.toNat 0)).bind fun v1 =>
 bif n_.length.beq 5 then((A6 n_ 1).bind fun v2 =>
 (n_.get?Internal (Int.toNat 1)).bind fun v3 =>
 bif n_.length.beq 5 then((A6 n_ 2).bind fun v4 =>
 (n_.get?Internal (Int.toNat 2)).bind fun v5 =>
 bif n_.length.beq 5 then((A6 n_ 3).bind fun v6 =>
 (n_.get?Internal (Int.toNat 3)).bind fun v7 =>
 (By n g (A0.mk v1 v3 v5 (IK.mk 2) 0 v7)).bind fun v8 =>
 Sum.elim (fun v9=>some (.inl (v9.fst,()))) (fun v9=>some (.inr (v9.fst,(v9.snd.fst,())))) (v8)) else
 none) else
 none) else
 none) else
 none
def JN (n:Nat) (y:C.Ds Ty (Af Cw)):Option (YT Ty Fi):=Dr n y.1 y.2.1
def ZbF (n:Nat):A9 Ty:=AA Cw 1 Fi (JN n)
def ZcK (n:Nat):List (Nat×A9 Ty):=[(258,Zb4 n)]
theorem PZ (n:Nat):Ap Tryz.prog (ZcK n):=⟨BS n,trivial⟩
def ZcL (n:Nat):Az Ty:=[]
theorem QU (n:Nat) (x:C.Ds Ty (Af Cw)):(Ax Tryz.prog 15 (Am Tryz.prog (ZcK n) []) (Ae (ZcL n)) (Ao Tryz.f191) (Aw Cw x)).runK (Aq Tryz.prog Tryz.f191.results.toList 1 Fi)=JN n x:=by kernel_rfl
theorem Hc (n:Nat):Au Tryz.prog 191 (ZbF n):=As Tryz.func191 rfl rfl (by decide) rfl Aa Ab (Ac Aa Ab (PZ n) Ah) (Ad (fn:=Tryz.f191) (L:=ZcL n) (ks:=[]) trivial (by kernel_rfl) (by kernel_rfl)) (QU n)
def Cj:List (Nat×C):=[(0,.u 114),(1,.v 3)]
def Es:List Wo:=[⟨.ret,[.u 114],[],[]⟩,⟨.pan,[.u 114],[],[.i 234 (.g 234)]⟩]
def CI (n:Nat) (g:Aj) (n_:List Int):Option ((Aj×Unit) ⊕ ((Aj×AI×Unit))) :=
 bif n_.length.beq 5 then((A6 n_ 0).bind fun v0 =>
 (n_.get?Internal (Int.toNat 0)).bind fun v1 =>
 bif n_.length.beq 5 then((A6 n_ 1).bind fun v2 =>
 (n_.get?Internal (Int.toNat 1)).bind fun v3 =>
 bif n_.length.beq 5 then((A6 n_ 2).bind fun v4 =>
 (n_.get?Internal (Int.toNat 2)).bind fun v5 =>
 (By n g (A0.mk v1 v3 v5 (IK.mk 3) 0 0)).bind fun v6 =>
 Sum.elim (fun v7=>some (.inl (v7.fst,()))) (fun v7=>some (.inr (v7.fst,(v7.snd.fst,())))) (v6)) else
 none) else
 none) else
 none
def Jw (n:Nat) (y:C.Ds Ty (Af Cj)):Option (YT Ty Es):=CI n y.1 y.2.1
def ZbD (n:Nat):A9 Ty:=AA Cj 1 Es (Jw n)
def ZcB (n:Nat):List (Nat×A9 Ty):=[(258,Zb4 n)]
theorem OR (n:Nat):Ap Tryz.prog (ZcB n):=⟨BS n,trivial⟩
def ZcC (n:Nat):Az Ty:=[]
theorem Qa (n:Nat) (x:C.Ds Ty (Af Cj)):(Ax Tryz.prog 13 (Am Tryz.prog (ZcB n) []) (Ae (ZcC n)) (Ao Tryz.f192) (Aw Cj x)).runK (Aq Tryz.prog Tryz.f192.results.toList 1 Es)=Jw n x:=by kernel_rfl
theorem Gv (n:Nat):Au Tryz.prog 192 (ZbD n):=As Tryz.func192 rfl rfl (by decide) rfl Aa Ab (Ac Aa Ab (OR n) Ah) (Ad (fn:=Tryz.f192) (L:=ZcC n) (ks:=[]) trivial (by kernel_rfl) (by kernel_rfl)) (Qa n)
def IW:List (Nat×C):=[(0,.s 3),(1,.s 3),(2,.s 3)]
def Np:List Wo:=[⟨.ret,[],[],[.s 4]⟩]
def Bz (n:Nat) (n_:Int) (low:Int) (high:Int):Option ((Bool×Unit)) :=
 bif decide (low≤n_) then(some (decide (n_≤high),())) else
 some (false,())
def Tm (n:Nat) (y:C.Ds Ty (Af IW)):Option (YT Ty Np):=Bz n y.1 y.2.1 y.2.2.1
def Zb8 (n:Nat):A9 Ty:=AA IW 0 Np (Tm n)
def Zhm (n:Nat):List (Nat×A9 Ty):=[]
theorem AaA (n:Nat):Ap Tryz.prog (Zhm n):=trivial
def Zhn (n:Nat):Az Ty:=[]
theorem Ac0 (n:Nat) (x:C.Ds Ty (Af IW)):(Ax Tryz.prog 15 (Am Tryz.prog (Zhm n) []) (Ae (Zhn n)) (Ao Tryz.f75) (Aw IW x)).runK (Aq Tryz.prog Tryz.f75.results.toList 0 Np)=Tm n x:=by kernel_rfl
theorem CA (n:Nat):Au Tryz.prog 75 (Zb8 n):=As Tryz.func75 rfl rfl (by decide) rfl Aa Ab (Ac Aa Ab (AaA n) Ah) (Ad (fn:=Tryz.f75) (L:=Zhn n) (ks:=[]) trivial (by kernel_rfl) (by kernel_rfl)) (Ac0 n)
def Tn:List (Nat×C):=[(1,.s 3),(5,.s 3),(12,.l 60),(13,.s 3),(14,.s 3)]
def Aeg:List Wo:=[⟨.exit 0,[],[(5,.s 3)],[]⟩]
def AnK:List (Nat×C):=[(0,.u 114),(1,.s 3)]
def ArF:List Wo:=[⟨.ret,[.u 114],[],[.s 3]⟩]
def Ac1:Nat→Int→Int→(List Sm)→Int→Int→Option ((Int×Unit))
 | 0,_,_,_,_,_=>none
 | n+1,bus,at_,x12,x13,x14 =>
  bif decide (x14<x13) then((A6 x12 x14).bind fun v0 =>
  bif decide (v0.bus=bus) then(some (x14,())) else
  Ac1 n bus at_ x12 x13 (IntKind.i64.wrap (x14+1))) else
  some (at_,())
def Y9 (n:Nat) (y:C.Ds Ty (Af Tn)):Option (YT Ty Aeg):=Ac1 n y.1 y.2.1 y.2.2.1 y.2.2.2.1 y.2.2.2.2.1
def Zk4 (n:Nat):St Ty→Tr (Lf Ty):=AZ Tn 0 Aeg (Y9 n)
def Auj (n:Nat) (g:Aj) (bus:Int):Option ((Aj×Int×Unit)) :=
 (Ac1 n bus (-1) g.state.outs (↑g.state.outs.length:Int) 0).bind fun v0 =>
 some (g,(v0.fst,()))
def Aw2 (n:Nat) (y:C.Ds Ty (Af AnK)):Option (YT Ty ArF):=Auj n y.1 y.2.1
def ZkR (n:Nat):A9 Ty:=AA AnK 1 ArF (Aw2 n)
def Zli (n:Nat):List (Nat×A9 Ty):=[]
theorem Aqh (n:Nat):Ap Tryz.prog (Zli n):=trivial
def Zld (n:Nat):Az Ty:=[]
theorem ArG (n:Nat) (x:C.Ds Ty (Af Tn)):(Ax Tryz.prog 26 (Am Tryz.prog (Zli n) []) (Ae (Zld n)) (Al 3 Tryz.f94) (Aw Tn x)).runK (A3 0 Tn Aeg (Y9 n))=Y9 (n+1) x:=by kernel_rfl
theorem ArH (n:Nat):A5 true Tryz.prog 26 (Zk4 n) (.loop (Al 3 Tryz.f94)):=A4 fun x y hy=>At (Fn:=Y9) Aa Ab (fun n=>Ac Aa Ab (Aqh n) Ah) (fun h=>by cases h) (fun h=>by cases h) (fun n=>(Ad (fn:=Tryz.f94) (L:=Zld n) (ks:=[]) trivial (by kernel_rfl) (by kernel_rfl))) (by decide) (fun _=>rfl) ArG hy
def Zlo (n:Nat):Az Ty:=[(.loop 3,Zk4 n)]
theorem AxM (n:Nat) (x:C.Ds Ty (Af AnK)):(Ax Tryz.prog 26 (Am Tryz.prog (Zli n) []) (Ae (Zlo n)) (Ao Tryz.f94) (Aw AnK x)).runK (Aq Tryz.prog Tryz.f94.results.toList 1 ArF)=Aw2 n x:=by kernel_rfl
theorem Ako (n:Nat):Au Tryz.prog 94 (ZkR n):=As Tryz.func94 rfl rfl (by decide) rfl Aa Ab (Ac Aa Ab (Aqh n) Ah) (Ad (fn:=Tryz.f94) (L:=Zlo n) (ks:=[.loop 3]) ⟨ArH n,trivial⟩ (by kernel_rfl) (by kernel_rfl)) (AxM n)
def CB:List (Nat×C):=[(0,.y 0 69 [5,6,7] [.p [.s 3],.p [.o 3],.p [.f 109 [.p [.m 3 180,.l 3]] []]]),(1,.p [.q 4]),(2,.p [.s 3]),(10,.l 3),(11,.s 3),(12,.s 3)]
def I0:List Wo:=[⟨.exit 0,[.y 0 69 [5,6,7] [.p [.s 3],.p [.o 3],.p [.f 109 [.p [.m 3 180,.l 3]] []]],.q 1,.q 2,.q 3,.q 4,.q 5,.p [.q 4],.p [.s 3]],[],[]⟩,⟨.ret,[.y 0 69 [5,6,7] [.p [.s 3],.p [.o 3],.p [.f 109 [.p [.m 3 180,.l 3]] []]],.q 1,.q 2,.q 3,.q 4,.q 5,.p [.q 4],.p [.s 3]],[],[]⟩]
def HR:List (Nat×C):=[(0,.p [.m 3 180,.l 3]),(1,.s 3),(2,.s 3)]
def L7:List Wo:=[⟨.ret,[.p [.m 3 180,.l 3],.q 1],[],[.o 3]⟩]
def Ba:Nat→Int→(List Int)→(List (Int×A0))→(List Int)→Int→(List Int)→Int→Int→Option ((((Int×Unit)×(List Int×Unit)×(((((List (Int×A0))×List Int×Unit)×Unit)×Unit)×Unit)×Unit)×Unit×Unit×Unit×Unit×Unit×(Unit×Unit)×(Int×Unit)×Unit) ⊕ ((((Int×Unit)×(List Int×Unit)×(((((List (Int×A0))×List Int×Unit)×Unit)×Unit)×Unit)×Unit)×Unit×Unit×Unit×Unit×Unit×(Unit×Unit)×(Int×Unit)×Unit)))
 | 0,_,_,_,_,_,_,_,_=>none
 | n+1,yield1,yield2,yield3,yield4,x2,x10,x11,x12 =>
  bif decide (x12<x11) then((A6 x10 x12).bind fun v0 =>
  bif decide ((AY Ce yield3 v0 (A0.mk 0 0 0 (IK.mk 0) 0 0)).bus=x2) then(bif !decide ((AY Ce yield3 v0 (A0.mk 0 0 0 (IK.mk 0) 0 0)).kind.n=0) then(bif decide ((AY Ce yield3 v0 (A0.mk 0 0 0 (IK.mk 0) 0 0)).kind.n=1) then((AsF n yield3 yield4 (AY Ce yield3 v0 (A0.mk 0 0 0 (IK.mk 0) 0 0)) yield1).bind fun v1 =>
  bif v1.snd.snd.fst then((app yield2 [(AY Ce yield3 v0 (A0.mk 0 0 0 (IK.mk 0) 0 0)).number]).bind fun v2 =>
  Ba n yield1 v2 v1.fst.fst v1.fst.snd.fst x2 x10 x11 (IntKind.i64.wrap (x12+1))) else
  Ba n yield1 yield2 v1.fst.fst v1.fst.snd.fst x2 x10 x11 (IntKind.i64.wrap (x12+1))) else
  Ba n yield1 yield2 yield3 yield4 x2 x10 x11 (IntKind.i64.wrap (x12+1))) else
  (AsF n yield3 yield4 (AY Ce yield3 v0 (A0.mk 0 0 0 (IK.mk 0) 0 0)) yield1).bind fun v1 =>
  bif v1.snd.snd.fst then((app yield2 [(AY Ce yield3 v0 (A0.mk 0 0 0 (IK.mk 0) 0 0)).number]).bind fun v2 =>
  Ba n yield1 v2 v1.fst.fst v1.fst.snd.fst x2 x10 x11 (IntKind.i64.wrap (x12+1))) else
  Ba n yield1 yield2 v1.fst.fst v1.fst.snd.fst x2 x10 x11 (IntKind.i64.wrap (x12+1))) else
  Ba n yield1 yield2 yield3 yield4 x2 x10 x11 (IntKind.i64.wrap (x12+1))) else
  some (.inl (((yield1,()),((yield2,()),(((((yield3,(yield4,())),()),()),()),()))),((),((),((),((),((),(((),()),((x2,()),())))))))))
def EA (n:Nat) (y:C.Ds Ty (Af CB)):Option (YT Ty I0):=Ba n y.1.1.1 y.1.2.1.1 y.1.2.2.1.1.1.1.1 y.1.2.2.1.1.1.1.2.1 y.2.2.1.1 y.2.2.2.1 y.2.2.2.2.1 y.2.2.2.2.2.1
def Zcc (n:Nat):St Ty→Tr (Lf Ty):=AZ CB 8 I0 (EA n)
def JZ (n:Nat) (b1:List (Int×A0)) (b2:List Int) (bus:Int) (at_:Int):Option ((((List (Int×A0))×List Int×Unit)×Unit×List Int×Unit)) :=
 (Ba n at_ [] b1 b2 bus b2 (↑b2.length:Int) 0).bind fun v0 =>
 Sum.elim (fun v1=>some ((v1.fst.snd.snd.fst.fst.fst.fst.fst,(v1.fst.snd.snd.fst.fst.fst.fst.snd.fst,())),((),(v1.fst.snd.fst.fst,())))) (fun v1=>some ((v1.fst.snd.snd.fst.fst.fst.fst.fst,(v1.fst.snd.snd.fst.fst.fst.fst.snd.fst,())),((),(v1.fst.snd.fst.fst,())))) (v0)
def RJ (n:Nat) (y:C.Ds Ty (Af HR)):Option (YT Ty L7):=JZ n y.1.1 y.1.2.1 y.2.1 y.2.2.1
def Zfc (n:Nat):A9 Ty:=AA HR 2 L7 (RJ n)
def Zcg (n:Nat):List (Nat×A9 Ty):=[(109,Zlb n)]
theorem J4 (n:Nat):Ap Tryz.prog (Zcg n):=⟨Aqg n,trivial⟩
def Zg2 (n:Nat):Az Ty:=[]
def Zdv (n:Nat):List (Nat×A9 Ty):=(AB,Azw Tryz.prog (Am Tryz.prog (Zcg n) []) (Ae []) (Ae (Zg2 n)) 69)::Zcg n
theorem O8 (n:Nat):Ap Tryz.prog (Zdv n):=⟨Awf Aa Ab (Ac Aa Ab (J4 n) Ah) (fun _ _ _ h=>by cases h) (Ad (fn:=Tryz.f69) (c:=(RFs.rf 69).body) (N:=(RFs.rf 69).n) (L:=Zg2 n) (ks:=[]) trivial (by kernel_rfl) (by kernel_rfl)),J4 n⟩
def Ze0 (n:Nat):Az Ty:=[]
theorem Wh (n:Nat) (x:C.Ds Ty (Af CB)):(Ax Tryz.prog 37 (Am Tryz.prog (Zdv n) []) (Ae (Ze0 n)) (Al 1 Tryz.f163) (Aw CB x)).runK (A3 8 CB I0 (EA n))=EA (n+1) x:=by kernel_rfl
theorem Wi (n:Nat):A5 true Tryz.prog 37 (Zcc n) (.loop (Al 1 Tryz.f163)):=A4 fun x y hy=>At (Fn:=EA) Aa Ab (fun n=>Ac Aa Ab (O8 n) Ah) (fun h=>by cases h) (fun h=>by cases h) (fun n=>(Ad (fn:=Tryz.f163) (L:=Ze0 n) (ks:=[]) trivial (by kernel_rfl) (by kernel_rfl))) (by decide) (fun _=>rfl) Wh hy
def Zg3 (n:Nat):YM Ty:=[(163,[(.loop 1,Zcc n)])]
theorem YP (n:Nat):RC Tryz.prog (Zg3 n):=⟨JX (f:=163) Tryz.func163 rfl (Ad (fn:=Tryz.f163) (L:=[(.loop 1,Zcc n)]) (ks:=[.loop 1]) ⟨Wi n,trivial⟩ (by kernel_rfl) (by kernel_rfl)),trivial⟩
def ZfL (n:Nat):St Ty→Tr (Lf Ty):=Azm Tryz.prog (Am Tryz.prog (Zdv n) (Zg3 n)) (.tmp 13) 69 [5,6,7]
theorem Xi (n:Nat):A5 true Tryz.prog 25 (ZfL n) (PO (.rf 4) Tryz.f69):=Awm (Ac Aa Ab (O8 n) (YP n)) (by kernel_rfl) (by kernel_rfl)
def Zg4 (n:Nat):Az Ty:=[(.rf 4,ZfL n)]
theorem AaB (n:Nat) (x:C.Ds Ty (Af HR)):(Ax Tryz.prog 25 (Am Tryz.prog (Zcg n) []) (Ae (Zg4 n)) (Ao Tryz.f69) (Aw HR x)).runK (Aq Tryz.prog Tryz.f69.results.toList 2 L7)=RJ n x:=by kernel_rfl
theorem Wj (n:Nat):Au Tryz.prog 69 (Zfc n):=As Tryz.func69 rfl rfl (by decide) rfl Aa Ab (Ac Aa Ab (J4 n) Ah) (Ad (fn:=Tryz.f69) (L:=Zg4 n) (ks:=[.rf 4]) ⟨Xi n,trivial⟩ (by kernel_rfl) (by kernel_rfl)) (AaB n)
def RK:List (Nat×C):=[(0,.l 180),(1,.s 3),(2,.s 3)]
def Xj:List Wo:=[⟨.ret,[],[],[.l 3,.s 3]⟩]
def IX (n:Nat) (l:List A0) (bus:Int) (at_:Int):Option ((List Int×Int×Unit)) :=
 (Tj n l).bind fun v0 =>
 Sum.elim (fun v1=>bif v1.snd.fst != 0 then(some ([],(v1.snd.fst,()))) else
 bif decide (0≤bus) then(bif !!decide (bus≤99) then(bif decide (0≤at_) then(bif !decide (at_≤1000000) then(some ([],(2,()))) else
 none) else
 some ([],(2,()))) else
 some ([],(2,()))) else
 some ([],(2,()))) (fun v1=>bif v1.snd.fst != 0 then(some ([],(v1.snd.fst,()))) else
 bif decide (0≤bus) then(bif !!decide (bus≤99) then(bif decide (0≤at_) then(bif !decide (at_≤1000000) then(some ([],(2,()))) else
 (JZ n v1.fst.fst v1.fst.snd.fst bus at_).bind fun v2 =>
 some (v2.snd.snd.fst,(0,()))) else
 some ([],(2,()))) else
 some ([],(2,()))) else
 some ([],(2,()))) (v0)
def AfJ (n:Nat) (y:C.Ds Ty (Af RK)):Option (YT Ty Xj):=IX n y.1 y.2.1 y.2.2.1
def Zgr (n:Nat):A9 Ty:=AA RK 0 Xj (AfJ n)
def Zk5 (n:Nat):List (Nat×A9 Ty):=[(66,Zgq n),(69,Zfc n)]
theorem Ald (n:Nat):Ap Tryz.prog (Zk5 n):=⟨VG n,⟨Wj n,trivial⟩⟩
def Zk6 (n:Nat):Az Ty:=[]
theorem AnL (n:Nat) (x:C.Ds Ty (Af RK)):(Ax Tryz.prog 32 (Am Tryz.prog (Zk5 n) []) (Ae (Zk6 n)) (Ao Tryz.f29) (Aw RK x)).runK (Aq Tryz.prog Tryz.f29.results.toList 0 Xj)=AfJ n x:=by kernel_rfl
theorem VH (n:Nat):Au Tryz.prog 29 (Zgr n):=As Tryz.func29 rfl rfl (by decide) rfl Aa Ab (Ac Aa Ab (Ald n) Ah) (Ad (fn:=Tryz.f29) (L:=Zk6 n) (ks:=[]) trivial (by kernel_rfl) (by kernel_rfl)) (AnL n)
def G4:List (Nat×C):=[(0,.l 60),(1,.g 60)]
def K4:List Wo:=[⟨.ret,[],[],[.l 60]⟩]
def Gc (n:Nat) (l:List Sm) (x:Sm):Option ((List Sm×Unit)) :=
 (UB n l).bind fun v0 =>
 (app v0.fst [x]).bind fun v1 =>
 some (v1,())
def Qb (n:Nat) (y:C.Ds Ty (Af G4)):Option (YT Ty K4):=Gc n y.1 y.2.1
def Ze1 (n:Nat):A9 Ty:=AA G4 0 K4 (Qb n)
def ZfM (n:Nat):List (Nat×A9 Ty):=[(262,Zi9 n)]
theorem Xk (n:Nat):Ap Tryz.prog (ZfM n):=⟨ZF n,trivial⟩
def ZfN (n:Nat):Az Ty:=[]
theorem YQ (n:Nat) (x:C.Ds Ty (Af G4)):(Ax Tryz.prog 10 (Am Tryz.prog (ZfM n) []) (Ae (ZfN n)) (Ao Tryz.f260) (Aw G4 x)).runK (Aq Tryz.prog Tryz.f260.results.toList 0 K4)=Qb n x:=by kernel_rfl
theorem UF (n:Nat):Au Tryz.prog 260 (Ze1 n):=As Tryz.func260 rfl rfl (by decide) rfl Aa Ab (Ac Aa Ab (Xk n) Ah) (Ad (fn:=Tryz.f260) (L:=ZfN n) (ks:=[]) trivial (by kernel_rfl) (by kernel_rfl)) (YQ n)
def BD:List (Nat×C):=[(0,.u 114),(4,.s 3),(5,.s 3),(30,.l 62),(31,.s 3),(32,.s 3)]
def Fj:List Wo:=[⟨.exit 0,[.u 114],[(0,.q 0),(4,.s 3),(5,.s 3)],[]⟩,⟨.pan,[.u 114],[],[.i 234 (.g 234)]⟩]
def DY:List (Nat×C):=[(0,.u 114),(1,.v 3)]
def H4:List Wo:=[⟨.ret,[.u 114],[],[]⟩,⟨.pan,[.u 114],[],[.i 234 (.g 234)]⟩]
def AR:Nat→Aj→Int→Int→(List SM)→Int→Int→Option ((Aj×Unit×Int×Int×Unit) ⊕ ((Aj×AI×Unit)))
 | 0,_,_,_,_,_,_=>none
 | n+1,g,bus,at_,x30,x31,x32 =>
  bif decide (x32<x31) then((A6 x30 x32).bind fun v0 =>
  bif !v0.bus != bus then((AE n (decide (v0.to_≤at_)) 8).bind fun v1 =>
  Sum.elim (fun v2=>AR n g bus at_ x30 x31 (IntKind.i64.wrap (x32+1))) (fun v2=>some (.inr (g,(v2.fst,())))) (v1)) else
  (AE n true 8).bind fun v1 =>
  Sum.elim (fun v2=>AR n g bus at_ x30 x31 (IntKind.i64.wrap (x32+1))) (fun v2=>some (.inr (g,(v2.fst,())))) (v1)) else
  some (.inl (g,((),(bus,(at_,())))))
def Cx (n:Nat) (y:C.Ds Ty (Af BD)):Option (YT Ty Fj):=AR n y.1 y.2.1 y.2.2.1 y.2.2.2.1 y.2.2.2.2.1 y.2.2.2.2.2.1
def Zc1 (n:Nat):St Ty→Tr (Lf Ty):=AZ BD 1 Fj (Cx n)
def CY (n:Nat) (g:Aj) (n_:List Int):Option ((Aj×Unit) ⊕ ((Aj×AI×Unit))) :=
 bif n_.length.beq 5 then((A6 n_ 0).bind fun v0 =>
 (n_.get?Internal (Int.toNat 0)).bind fun v1 =>
 bif n_.length.beq 5 then((A6 n_ 1).bind fun v2 =>
 (n_.get?Internal (Int.toNat 1)).bind fun v3 =>
 (Bz n v1 0 99).bind fun v4 =>
 bif v4.fst then((Bz n v3 0 1000000).bind fun v5 =>
 (AE n v5.fst 2).bind fun v6 =>
 Sum.elim (fun v7=>(Auj n g v1).bind fun v8 =>
 (AE n (decide (v8.snd.fst<0)) 8).bind fun v9 =>
 Sum.elim (fun v10=>(AR n v8.fst v1 v3 v8.fst.state.runs (↑v8.fst.state.runs.length:Int) 0).bind fun v11 =>
 Sum.elim (fun v12=>(IX n v12.fst.state.cards v12.snd.snd.fst v12.snd.snd.snd.fst).bind fun v13 =>
 (Dn n v13.snd.fst).bind fun v14 =>
 Sum.elim (fun v15=>(AE n (decide ((↑v13.fst.length:Int)=0)) 11).bind fun v16 =>
 Sum.elim (fun v17=>(Gc n v12.fst.state.outs (Sm.mk v12.snd.snd.fst v12.snd.snd.snd.fst)).bind fun v18 =>
 some (.inl (Aj.mk (An.mk v12.fst.state.cards v18.fst v12.fst.state.runs v12.fst.state.records v12.fst.state.week v12.fst.state.roster),()))) (fun v17=>some (.inr (v12.fst,(v17.fst,())))) (v16)) (fun v15=>some (.inr (v12.fst,(v15.fst,())))) (v14)) (fun v12=>some (.inr (v12.fst,(v12.snd.fst,())))) (v11)) (fun v10=>some (.inr (v8.fst,(v10.fst,())))) (v9)) (fun v7=>some (.inr (g,(v7.fst,())))) (v6)) else
 (AE n false 2).bind fun v5 =>
 Sum.elim (fun v6=>(Auj n g v1).bind fun v7 =>
 (AE n (decide (v7.snd.fst<0)) 8).bind fun v8 =>
 Sum.elim (fun v9=>(AR n v7.fst v1 v3 v7.fst.state.runs (↑v7.fst.state.runs.length:Int) 0).bind fun v10 =>
 Sum.elim (fun v11=>(IX n v11.fst.state.cards v11.snd.snd.fst v11.snd.snd.snd.fst).bind fun v12 =>
 (Dn n v12.snd.fst).bind fun v13 =>
 Sum.elim (fun v14=>(AE n (decide ((↑v12.fst.length:Int)=0)) 11).bind fun v15 =>
 Sum.elim (fun v16=>(Gc n v11.fst.state.outs (Sm.mk v11.snd.snd.fst v11.snd.snd.snd.fst)).bind fun v17 =>
 some (.inl (Aj.mk (An.mk v11.fst.state.cards v17.fst v11.fst.state.runs v11.fst.state.records v11.fst.state.week v11.fst.state.roster),()))) (fun v16=>some (.inr (v11.fst,(v16.fst,())))) (v15)) (fun v14=>some (.inr (v11.fst,(v14.fst,())))) (v13)) (fun v11=>some (.inr (v11.fst,(v11.snd.fst,())))) (v10)) (fun v9=>some (.inr (v7.fst,(v9.fst,())))) (v8)) (fun v6=>some (.inr (g,(v6.fst,())))) (v5)) else
 none) else
 none
def MN (n:Nat) (y:C.Ds Ty (Af DY)):Option (YT Ty H4):=CY n y.1 y.2.1
def ZbX (n:Nat):A9 Ty:=AA DY 1 H4 (MN n)
def Zch (n:Nat):List (Nat×A9 Ty):=[(75,Zb8 n),(139,Zb3 n),(94,ZkR n),(29,Zgr n),(259,ZbA n),(260,Ze1 n)]
theorem KW (n:Nat):Ap Tryz.prog (Zch n):=⟨CA n,⟨BB n,⟨Ako n,⟨VH n,⟨DF n,⟨UF n,trivial⟩⟩⟩⟩⟩⟩
def ZcM (n:Nat):Az Ty:=[]
theorem QV (n:Nat) (x:C.Ds Ty (Af BD)):(Ax Tryz.prog 78 (Am Tryz.prog (Zch n) []) (Ae (ZcM n)) (Al 5 Tryz.f193) (Aw BD x)).runK (A3 1 BD Fj (Cx n))=Cx (n+1) x:=by kernel_rfl
theorem QW (n:Nat):A5 true Tryz.prog 78 (Zc1 n) (.loop (Al 5 Tryz.f193)):=A4 fun x y hy=>At (Fn:=Cx) Aa Ab (fun n=>Ac Aa Ab (KW n) Ah) (fun h=>by cases h) (fun h=>by cases h) (fun n=>(Ad (fn:=Tryz.f193) (L:=ZcM n) (ks:=[]) trivial (by kernel_rfl) (by kernel_rfl))) (by decide) (fun _=>rfl) QV hy
def ZdV (n:Nat):Az Ty:=[(.loop 5,Zc1 n)]
theorem UG (n:Nat) (x:C.Ds Ty (Af DY)):(Ax Tryz.prog 78 (Am Tryz.prog (Zch n) []) (Ae (ZdV n)) (Ao Tryz.f193) (Aw DY x)).runK (Aq Tryz.prog Tryz.f193.results.toList 1 H4)=MN n x:=by kernel_rfl
theorem Jx (n:Nat):Au Tryz.prog 193 (ZbX n):=As Tryz.func193 rfl rfl (by decide) rfl Aa Ab (Ac Aa Ab (KW n) Ah) (Ad (fn:=Tryz.f193) (L:=ZdV n) (ks:=[.loop 5]) ⟨QW n,trivial⟩ (by kernel_rfl) (by kernel_rfl)) (UG n)
def G5:List (Nat×C):=[(0,.l 62),(1,.g 62)]
def K5:List Wo:=[⟨.ret,[],[],[.l 62]⟩]
def Gd (n:Nat) (l:List SM) (x:SM):Option ((List SM×Unit)) :=
 (AnE n l).bind fun v0 =>
 (app v0.fst [x]).bind fun v1 =>
 some (v1,())
def Qc (n:Nat) (y:C.Ds Ty (Af G5)):Option (YT Ty K5):=Gd n y.1 y.2.1
def Ze2 (n:Nat):A9 Ty:=AA G5 0 K5 (Qc n)
def ZfO (n:Nat):List (Nat×A9 Ty):=[(310,Zkz n)]
theorem Xl (n:Nat):Ap Tryz.prog (ZfO n):=⟨AkV n,trivial⟩
def ZfP (n:Nat):Az Ty:=[]
theorem YS (n:Nat) (x:C.Ds Ty (Af G5)):(Ax Tryz.prog 10 (Am Tryz.prog (ZfO n) []) (Ae (ZfP n)) (Ao Tryz.f263) (Aw G5 x)).runK (Aq Tryz.prog Tryz.f263.results.toList 0 K5)=Qc n x:=by kernel_rfl
theorem UH (n:Nat):Au Tryz.prog 263 (Ze2 n):=As Tryz.func263 rfl rfl (by decide) rfl Aa Ab (Ac Aa Ab (Xl n) Ah) (Ad (fn:=Tryz.f263) (L:=ZfP n) (ks:=[]) trivial (by kernel_rfl) (by kernel_rfl)) (YS n)
def EB:List (Nat×C):=[(0,.u 114),(1,.v 3)]
def I1:List Wo:=[⟨.ret,[.u 114],[],[]⟩,⟨.pan,[.u 114],[],[.i 234 (.g 234)]⟩]
def DG (n:Nat) (g:Aj) (n_:List Int):Option ((Aj×Unit) ⊕ ((Aj×AI×Unit))) :=
 bif n_.length.beq 5 then((A6 n_ 0).bind fun v0 =>
 (n_.get?Internal (Int.toNat 0)).bind fun v1 =>
 (Auj n g v1).bind fun v2 =>
 (AE n (decide (v2.snd.fst≥0)) 8).bind fun v3 =>
 Sum.elim (fun v4=>(A6 v2.fst.state.outs v2.snd.fst).bind fun v5 =>
 bif n_.length.beq 5 then((A6 n_ 1).bind fun v6 =>
 (n_.get?Internal (Int.toNat 1)).bind fun v7 =>
 (Bz n v7 v5.fr 1000000).bind fun v8 =>
 bif v8.fst then(bif n_.length.beq 5 then((A6 n_ 2).bind fun v9 =>
 (n_.get?Internal (Int.toNat 2)).bind fun v10 =>
 (Bz n v10 0 1000).bind fun v11 =>
 (AE n v11.fst 2).bind fun v12 =>
 Sum.elim (fun v13=>(UB n v2.fst.state.outs).bind fun v14 =>
 (AnG n v14.fst v2.snd.fst (IntKind.i64.wrap (v2.snd.fst+1))).bind fun v15 =>
 bif n_.length.beq 5 then((A6 n_ 1).bind fun v16 =>
 (n_.get?Internal (Int.toNat 1)).bind fun v17 =>
 bif n_.length.beq 5 then((A6 n_ 2).bind fun v18 =>
 (n_.get?Internal (Int.toNat 2)).bind fun v19 =>
 (Gd n v2.fst.state.runs (SM.mk v5.bus v5.fr v17 v19)).bind fun v20 =>
 some (.inl (Aj.mk (An.mk v2.fst.state.cards v15.fst v20.fst v2.fst.state.records v2.fst.state.week v2.fst.state.roster),()))) else
 none) else
 none) (fun v13=>some (.inr (v2.fst,(v13.fst,())))) (v12)) else
 none) else
 (AE n false 2).bind fun v9 =>
 Sum.elim (fun v10=>(UB n v2.fst.state.outs).bind fun v11 =>
 (AnG n v11.fst v2.snd.fst (IntKind.i64.wrap (v2.snd.fst+1))).bind fun v12 =>
 bif n_.length.beq 5 then((A6 n_ 1).bind fun v13 =>
 (n_.get?Internal (Int.toNat 1)).bind fun v14 =>
 bif n_.length.beq 5 then((A6 n_ 2).bind fun v15 =>
 (n_.get?Internal (Int.toNat 2)).bind fun v16 =>
 (Gd n v2.fst.state.runs (SM.mk v5.bus v5.fr v14 v16)).bind fun v17 =>
 some (.inl (Aj.mk (An.mk v2.fst.state.cards v12.fst v17.fst v2.fst.state.records v2.fst.state.week v2.fst.state.roster),()))) else
 none) else
 none) (fun v10=>some (.inr (v2.fst,(v10.fst,())))) (v9)) else
 none) (fun v4=>some (.inr (v2.fst,(v4.fst,())))) (v3)) else
 none
def NO (n:Nat) (y:C.Ds Ty (Af EB)):Option (YT Ty I1):=DG n y.1 y.2.1
def Zcd (n:Nat):A9 Ty:=AA EB 1 I1 (NO n)
def Ze3 (n:Nat):List (Nat×A9 Ty):=[(94,ZkR n),(139,Zb3 n),(75,Zb8 n),(262,Zi9 n),(261,ZkS n),(263,Ze2 n)]
theorem UJ (n:Nat):Ap Tryz.prog (Ze3 n):=⟨Ako n,⟨BB n,⟨CA n,⟨ZF n,⟨AnH n,⟨UH n,trivial⟩⟩⟩⟩⟩⟩
def Ze4 (n:Nat):Az Ty:=[]
theorem Wk (n:Nat) (x:C.Ds Ty (Af EB)):(Ax Tryz.prog 65 (Am Tryz.prog (Ze3 n) []) (Ae (Ze4 n)) (Ao Tryz.f194) (Aw EB x)).runK (Aq Tryz.prog Tryz.f194.results.toList 1 I1)=NO n x:=by kernel_rfl
theorem JO (n:Nat):Au Tryz.prog 194 (Zcd n):=As Tryz.func194 rfl rfl (by decide) rfl Aa Ab (Ac Aa Ab (UJ n) Ah) (Ad (fn:=Tryz.f194) (L:=Ze4 n) (ks:=[]) trivial (by kernel_rfl) (by kernel_rfl)) (Wk n)
def B6:List (Nat×C):=[(0,.l 93),(3,.u 93),(7,.s 3),(8,.s 3)]
def Et:List Wo:=[⟨.exit 0,[.u 93],[],[]⟩,⟨.ret,[.u 93],[(4,.s 3)],[]⟩]
def Dt:List (Nat×C):=[(0,.l 93),(1,.g 93)]
def G6:List Wo:=[⟨.ret,[],[],[.s 3]⟩]
def Bu:Nat→(List Ag)→Ag→Int→Int→Option ((Ag×Unit) ⊕ ((Ag×Int×Unit)))
 | 0,_,_,_,_=>none
 | n+1,s,v,x7,x8 =>
  bif decide (x8<x7) then((A6 s x8).bind fun v0 =>
  bif decide (v.machine=v0.machine) && (decide (v.seq=v0.seq) && (decide (v.minute=v0.minute) && (decide (v.kind.n=v0.kind.n) && (decide (v.a=v0.a) && (decide (v.b=v0.b) && true))))) then(some (.inr (v,(x8,())))) else
  Bu n s v x7 (IntKind.i64.wrap (x8+1))) else
  some (.inl (v,()))
def Ck (n:Nat) (y:C.Ds Ty (Af B6)):Option (YT Ty Et):=Bu n y.1 y.2.1 y.2.2.1 y.2.2.2.1
def Zcs (n:Nat):St Ty→Tr (Lf Ty):=AZ B6 1 Et (Ck n)
def I2 (n:Nat) (s:List Ag) (v:Ag):Option ((Int×Unit)) :=
 (Bu n s v (↑s.length:Int) 0).bind fun v0 =>
 Sum.elim (fun v1=>some (-1,())) (fun v1=>some (v1.snd.fst,())) (v0)
def L8 (n:Nat) (y:C.Ds Ty (Af Dt)):Option (YT Ty G6):=I2 n y.1 y.2.1
def ZcN (n:Nat):A9 Ty:=CG (AA Dt 0 G6 (L8 n))
def Zce (n:Nat):List (Nat×A9 Ty):=[]
theorem JP (n:Nat):Ap Tryz.prog (Zce n):=trivial
def ZcD (n:Nat):Az Ty:=[]
theorem Qd (n:Nat) (x:C.Ds Ty (Af B6)):(Ax Tryz.prog 19 (Am Tryz.prog (Zce n) []) (Ae (ZcD n)) (Al 2 Tryz.f341) (Aw B6 x)).runK (A3 1 B6 Et (Ck n))=Ck (n+1) x:=by kernel_rfl
theorem Qe (n:Nat):A5 true Tryz.prog 19 (Zcs n) (.loop (Al 2 Tryz.f341)):=A4 fun x y hy=>At (Fn:=Ck) Aa Ab (fun n=>Ac Aa Ab (JP n) Ah) (fun h=>by cases h) (fun h=>by cases h) (fun n=>(Ad (fn:=Tryz.f341) (L:=ZcD n) (ks:=[]) trivial (by kernel_rfl) (by kernel_rfl))) (by decide) (fun _=>rfl) Qd hy
def Zd1 (n:Nat):Az Ty:=[(.loop 2,Zcs n)]
theorem To (n:Nat) (x:C.Ds Ty (Af Dt)):(Ax Tryz.prog 19 (Am Tryz.prog (Zce n) []) (Ae (Zd1 n)) (Ao Tryz.f341) (Aw Dt x)).runK (Aq Tryz.prog Tryz.f341.results.toList 0 G6)=L8 n x:=by kernel_rfl
theorem Qf (n:Nat):Au Tryz.prog 341 (ZcN n):=AS (As Tryz.func341 rfl rfl (by decide) rfl Aa Ab (Ac Aa Ab (JP n) Ah) (Ad (fn:=Tryz.f341) (L:=Zd1 n) (ks:=[.loop 2]) ⟨Qe n,trivial⟩ (by kernel_rfl) (by kernel_rfl)) (To n))
def Cl:List (Nat×C):=[(0,.l 93),(1,.g 93)]
def Eu:List Wo:=[⟨.ret,[],[],[.s 4]⟩]
def CK (n:Nat) (s:List Ag) (v:Ag):Option ((Bool×Unit)) :=
 (I2 n s v).bind fun v0 =>
 some (decide (v0.fst≥0),())
def Jy (n:Nat) (y:C.Ds Ty (Af Cl)):Option (YT Ty Eu):=CK n y.1 y.2.1
def Zct (n:Nat):A9 Ty:=CG (AA Cl 0 Eu (Jy n))
def ZcE (n:Nat):List (Nat×A9 Ty):=[(341,ZcN n)]
theorem OS (n:Nat):Ap Tryz.prog (ZcE n):=⟨Qf n,trivial⟩
def ZcF (n:Nat):Az Ty:=[]
theorem Qg (n:Nat) (x:C.Ds Ty (Af Cl)):(Ax Tryz.prog 9 (Am Tryz.prog (ZcE n) []) (Ae (ZcF n)) (Ao Tryz.f311) (Aw Cl x)).runK (Aq Tryz.prog Tryz.f311.results.toList 0 Eu)=Jy n x:=by kernel_rfl
theorem NP (n:Nat):Au Tryz.prog 311 (Zct n):=AS (As Tryz.func311 rfl rfl (by decide) rfl Aa Ab (Ac Aa Ab (OS n) Ah) (Ad (fn:=Tryz.f311) (L:=ZcF n) (ks:=[]) trivial (by kernel_rfl) (by kernel_rfl)) (Qg n))
def DZ:List (Nat×C):=[(0,.g 93)]
def H5:List Wo:=[⟨.ret,[],[],[.s 4]⟩]
def CZ (n:Nat) (r:Ag):Option ((Bool×Unit)) :=
 bif decide (0≤r.machine) then(bif decide (r.machine≤999) then(bif decide (1≤r.seq) then(bif decide (r.seq≤9999) then(bif decide (0≤r.minute) then(bif decide (r.minute≤1000000) then(bif decide (IntKind.i64.wrap r.kind.n<(↑[Ld.mk (Fp.mk (↑302:Int)),Ld.mk (Fp.mk (↑303:Int)),Ld.mk (Fp.mk (↑304:Int))].length:Int)) then((A6 [Ld.mk (Fp.mk (↑302:Int)),Ld.mk (Fp.mk (↑303:Int)),Ld.mk (Fp.mk (↑304:Int))] r.kind.n).bind fun v0 =>
 ([Ld.mk (Fp.mk (↑302:Int)),Ld.mk (Fp.mk (↑303:Int)),Ld.mk (Fp.mk (↑304:Int))].get?Internal r.kind.n.toNat).bind fun v1 =>
 bif decide (v1.right.f=(↑302:Int)) then(bif decide (0≤r.a) then(bif decide (r.a≤99) then(bif decide (0≤r.b) then(some (decide (r.b≤10000),())) else
 some (false,())) else
 some (false,())) else
 some (false,())) else
 bif decide (v1.right.f=(↑303:Int)) then(bif decide (0≤r.a) then(bif decide (r.a≤1000000) then(some (decide (r.b=0),())) else
 some (false,())) else
 some (false,())) else
 bif decide (v1.right.f=(↑304:Int)) then(bif decide (0≤r.a) then(bif decide (r.a≤9999) then(bif decide (0≤r.b) then(some (decide (r.b≤10000000),())) else
 some (false,())) else
 some (false,())) else
 some (false,())) else
 none) else
 some (false,())) else
 some (false,())) else
 some (false,())) else
 some (false,())) else
 some (false,())) else
 some (false,())) else
 some (false,())
def MO (n:Nat) (y:C.Ds Ty (Af DZ)):Option (YT Ty H5):=CZ n y.1
def Zdg (n:Nat):A9 Ty:=AA DZ 0 H5 (MO n)
def ZdW (n:Nat):List (Nat×A9 Ty):=[]
theorem Tp (n:Nat):Ap Tryz.prog (ZdW n):=trivial
def ZdX (n:Nat):Az Ty:=[]
theorem UK (n:Nat) (x:C.Ds Ty (Af DZ)):(Ax Tryz.prog 34 (Am Tryz.prog (ZdW n) []) (Ae (ZdX n)) (Ao Tryz.f186) (Aw DZ x)).runK (Aq Tryz.prog Tryz.f186.results.toList 0 H5)=MO n x:=by kernel_rfl
theorem QX (n:Nat):Au Tryz.prog 186 (Zdg n):=As Tryz.func186 rfl rfl (by decide) rfl Aa Ab (Ac Aa Ab (Tp n) Ah) (Ad (fn:=Tryz.f186) (L:=ZdX n) (ks:=[]) trivial (by kernel_rfl) (by kernel_rfl)) (UK n)
def Da:List (Nat×C):=[(0,.l 93),(1,.f 248 [] [.p [.f 186 [] []]]),(7,.s 3),(8,.s 3)]
def J5:List Wo:=[⟨.exit 0,[.p [.f 186 [] []]],[],[]⟩,⟨.ret,[.p [.f 186 [] []]],[(4,.s 3)],[]⟩]
def Db:List (Nat×C):=[(0,.l 28),(1,.f 246 [] [.p [.f 183 [] []]]),(7,.s 3),(8,.s 3)]
def J6:List Wo:=[⟨.exit 0,[.p [.f 183 [] []]],[],[]⟩,⟨.ret,[.p [.f 183 [] []]],[(4,.s 3)],[]⟩]
def Dc:List (Nat×C):=[(0,.l 28),(1,.f 246 [] [.p [.f 184 [] []]]),(7,.s 3),(8,.s 3)]
def J7:List Wo:=[⟨.exit 0,[.p [.f 184 [] []]],[],[]⟩,⟨.ret,[.p [.f 184 [] []]],[(4,.s 3)],[]⟩]
def IY:List (Nat×C):=[(0,.l 28)]
def Nq:List Wo:=[⟨.ret,[],[],[.s 3]⟩]
def BC:Nat→(List Ag)→Int→Int→Option ((((Unit×Unit)×Unit)×Unit) ⊕ ((((Unit×Unit)×Unit)×Int×Unit)))
 | 0,_,_,_=>none
 | n+1,s,x7,x8 =>
  bif decide (x8<x7) then((A6 s x8).bind fun v0 =>
  (CZ n v0).bind fun v1 =>
  bif !v1.fst then(some (.inr ((((),()),()),(x8,())))) else
  BC n s x7 (IntKind.i64.wrap (x8+1))) else
  some (.inl ((((),()),()),()))
def FC (n:Nat) (y:C.Ds Ty (Af Da)):Option (YT Ty J5):=BC n y.1 y.2.2.1 y.2.2.2.1
def Zb9 (n:Nat):St Ty→Tr (Lf Ty):=AZ Da 1 J5 (FC n)
def BT:Nat→(List (List Ag))→Int→Int→Option ((((Unit×Unit)×Unit)×Unit) ⊕ ((((Unit×Unit)×Unit)×Int×Unit)))
 | 0,_,_,_=>none
 | n+1,s,x7,x8 =>
  bif decide (x8<x7) then((A6 s x8).bind fun v0 =>
  bif !decide ((↑v0.length:Int)≤60) then(some (.inr ((((),()),()),(x8,())))) else
  BT n s x7 (IntKind.i64.wrap (x8+1))) else
  some (.inl ((((),()),()),()))
def FE (n:Nat) (y:C.Ds Ty (Af Db)):Option (YT Ty J6):=BT n y.1 y.2.2.1 y.2.2.2.1
def Zci (n:Nat):St Ty→Tr (Lf Ty):=AZ Db 1 J6 (FE n)
def Be:Nat→(List (List Ag))→Int→Int→Option ((((Unit×Unit)×Unit)×Unit) ⊕ ((((Unit×Unit)×Unit)×Int×Unit)))
 | 0,_,_,_=>none
 | n+1,s,x7,x8 =>
  bif decide (x8<x7) then((A6 s x8).bind fun v0 =>
  (BC n v0 (↑v0.length:Int) 0).bind fun v1 =>
  Sum.elim (fun v2=>Be n s x7 (IntKind.i64.wrap (x8+1))) (fun v2=>bif !!decide (v2.snd.fst≥0) then(some (.inr ((((),()),()),(x8,())))) else
  Be n s x7 (IntKind.i64.wrap (x8+1))) (v1)) else
  some (.inl ((((),()),()),()))
def FF (n:Nat) (y:C.Ds Ty (Af Dc)):Option (YT Ty J7):=Be n y.1 y.2.2.1 y.2.2.2.1
def Zcj (n:Nat):St Ty→Tr (Lf Ty):=AZ Dc 1 J7 (FF n)
def L9 (n:Nat) (lists:List (List Ag)):Option ((Int×Unit)) :=
 bif !decide ((↑lists.length:Int)>6) then((BT n lists (↑lists.length:Int) 0).bind fun v0 =>
 Sum.elim (fun v1=>(Be n lists (↑lists.length:Int) 0).bind fun v2 =>
 Sum.elim (fun v3=>some (0,())) (fun v3=>bif !!decide (v3.snd.fst≥0) then(some (1,())) else
 some (0,())) (v2)) (fun v1=>bif !!decide (v1.snd.fst≥0) then(some (3,())) else
 (Be n lists (↑lists.length:Int) 0).bind fun v2 =>
 Sum.elim (fun v3=>some (0,())) (fun v3=>bif !!decide (v3.snd.fst≥0) then(some (1,())) else
 some (0,())) (v2)) (v0)) else
 some (3,())
def Tq (n:Nat) (y:C.Ds Ty (Af IY)):Option (YT Ty Nq):=L9 n y.1
def ZfQ (n:Nat):A9 Ty:=CG (AA IY 0 Nq (Tq n))
def ZbP (n:Nat):List (Nat×A9 Ty):=[(186,Zdg n)]
theorem G7 (n:Nat):Ap Tryz.prog (ZbP n):=⟨QX n,trivial⟩
def Zfd (n:Nat):Az Ty:=[]
theorem Xm (n:Nat) (x:C.Ds Ty (Af Da)):(Ax Tryz.prog 19 (Am Tryz.prog (ZbP n) []) (Ae (Zfd n)) (Al 2 Tryz.f301) (Aw Da x)).runK (A3 1 Da J5 (FC n))=FC (n+1) x:=by kernel_rfl
theorem NQ (n:Nat):A5 true Tryz.prog 19 (Zb9 n) (.loop (Al 2 Tryz.f301)):=A4 fun x y hy=>At (Fn:=FC) Aa Ab (fun n=>Ac Aa Ab (G7 n) Ah) (fun h=>by cases h) (fun h=>by cases h) (fun n=>(Ad (fn:=Tryz.f301) (L:=Zfd n) (ks:=[]) trivial (by kernel_rfl) (by kernel_rfl))) (by decide) (fun _=>rfl) Xm hy
def Zdw (n:Nat):YM Ty:=[(301,[(.loop 2,Zb9 n)])]
theorem O9 (n:Nat):RC Tryz.prog (Zdw n):=⟨JX (f:=301) Tryz.func301 rfl (Ad (fn:=Tryz.f301) (L:=[(.loop 2,Zb9 n)]) (ks:=[.loop 2]) ⟨NQ n,trivial⟩ (by kernel_rfl) (by kernel_rfl)),trivial⟩
def Zfe (n:Nat):Az Ty:=[]
theorem Xn (n:Nat) (x:C.Ds Ty (Af Db)):(Ax Tryz.prog 19 (Am Tryz.prog (ZbP n) (Zdw n)) (Ae (Zfe n)) (Al 2 Tryz.f300) (Aw Db x)).runK (A3 1 Db J6 (FE n))=FE (n+1) x:=by kernel_rfl
theorem Xo (n:Nat):A5 true Tryz.prog 19 (Zci n) (.loop (Al 2 Tryz.f300)):=A4 fun x y hy=>At (Fn:=FE) Aa Ab (fun n=>Ac Aa Ab (G7 n) (O9 n)) (fun h=>by cases h) (fun h=>by cases h) (fun n=>(Ad (fn:=Tryz.f300) (L:=Zfe n) (ks:=[]) trivial (by kernel_rfl) (by kernel_rfl))) (by decide) (fun _=>rfl) Xn hy
def Zff (n:Nat):Az Ty:=[]
theorem Xp (n:Nat) (x:C.Ds Ty (Af Dc)):(Ax Tryz.prog 19 (Am Tryz.prog (ZbP n) (Zdw n)) (Ae (Zff n)) (Al 2 Tryz.f300) (Aw Dc x)).runK (A3 1 Dc J7 (FF n))=FF (n+1) x:=by kernel_rfl
theorem Xq (n:Nat):A5 true Tryz.prog 19 (Zcj n) (.loop (Al 2 Tryz.f300)):=A4 fun x y hy=>At (Fn:=FF) Aa Ab (fun n=>Ac Aa Ab (G7 n) (O9 n)) (fun h=>by cases h) (fun h=>by cases h) (fun n=>(Ad (fn:=Tryz.f300) (L:=Zff n) (ks:=[]) trivial (by kernel_rfl) (by kernel_rfl))) (by decide) (fun _=>rfl) Xp hy
def Zg5 (n:Nat):YM Ty:=[(301,[(.loop 2,Zb9 n)]),(300,[(.loop 2,Ax6 (Zci n) (Zcj n))])]
theorem YU (n:Nat):RC Tryz.prog (Zg5 n):=⟨JX (f:=301) Tryz.func301 rfl (Ad (fn:=Tryz.f301) (L:=[(.loop 2,Zb9 n)]) (ks:=[.loop 2]) ⟨NQ n,trivial⟩ (by kernel_rfl) (by kernel_rfl)),⟨JX (f:=300) Tryz.func300 rfl (Ad (fn:=Tryz.f300) (L:=[(.loop 2,Ax6 (Zci n) (Zcj n))]) (ks:=[.loop 2]) ⟨Ax7 (Xo n) (Xq n),trivial⟩ (by kernel_rfl) (by kernel_rfl)),trivial⟩⟩
def Zho (n:Nat):Az Ty:=[]
theorem Ac2 (n:Nat) (x:C.Ds Ty (Af IY)):(Ax Tryz.prog 16 (Am Tryz.prog (ZbP n) (Zg5 n)) (Ae (Zho n)) (Ao Tryz.f130) (Aw IY x)).runK (Aq Tryz.prog Tryz.f130.results.toList 0 Nq)=Tq n x:=by kernel_rfl
theorem Xr (n:Nat):Au Tryz.prog 130 (ZfQ n):=AS (As Tryz.func130 rfl rfl (by decide) rfl Aa Ab (Ac Aa Ab (G7 n) (YU n)) (Ad (fn:=Tryz.f130) (L:=Zho n) (ks:=[]) trivial (by kernel_rfl) (by kernel_rfl)) (Ac2 n))
def DH:List (Nat×C):=[(5,.m 227 93),(6,.o 93),(21,.l 93),(22,.s 3),(23,.s 3)]
def K6:List Wo:=[⟨.exit 0,[.m 227 93],[(6,.o 93)],[]⟩,⟨.ret,[.m 227 93],[(2,.l 93),(3,.s 3)],[]⟩]
def DI:List (Nat×C):=[(6,.o 93),(56,.r 93 0),(57,.s 3),(58,.s 3)]
def K7:List Wo:=[⟨.exit 2,[],[(6,.o 93)],[]⟩,⟨.ret,[],[(2,.l 93),(3,.s 3)],[]⟩]
def Ka:List (Nat×C):=[(0,.l 28)]
def Oe:List Wo:=[⟨.ret,[],[],[.l 93,.s 3]⟩]
def B1:Nat→(List (NM×Ag))→(List Ag)→(List Ag)→Int→Int→Option (((List (NM×Ag))×List Ag×Unit) ⊕ (((List (NM×Ag))×List Ag×Int×Unit)))
 | 0,_,_,_,_,_=>none
 | n+1,known,out,x21,x22,x23 =>
  bif decide (x23<x22) then((A6 x21 x23).bind fun v0 =>
  bif Dm AM known (NM.mk v0.machine v0.seq) then(bif !(decide ((AY AM known (NM.mk v0.machine v0.seq) (Ag.mk 0 0 0 (IK.mk 0) 0 0)).machine=v0.machine) && (decide ((AY AM known (NM.mk v0.machine v0.seq) (Ag.mk 0 0 0 (IK.mk 0) 0 0)).seq=v0.seq) && (decide ((AY AM known (NM.mk v0.machine v0.seq) (Ag.mk 0 0 0 (IK.mk 0) 0 0)).minute=v0.minute) && (decide ((AY AM known (NM.mk v0.machine v0.seq) (Ag.mk 0 0 0 (IK.mk 0) 0 0)).kind.n=v0.kind.n) && (decide ((AY AM known (NM.mk v0.machine v0.seq) (Ag.mk 0 0 0 (IK.mk 0) 0 0)).a=v0.a) && (decide ((AY AM known (NM.mk v0.machine v0.seq) (Ag.mk 0 0 0 (IK.mk 0) 0 0)).b=v0.b) && true)))))) then(some (.inr (known,([],(6,()))))) else
  bif !Dm AM known (NM.mk v0.machine v0.seq) then((app out [v0]).bind fun v1 =>
  B1 n (JI AM known (NM.mk v0.machine v0.seq) v0) v1 x21 x22 (IntKind.i64.wrap (x23+1))) else
  B1 n known out x21 x22 (IntKind.i64.wrap (x23+1))) else
  bif !Dm AM known (NM.mk v0.machine v0.seq) then((app out [v0]).bind fun v1 =>
  B1 n (JI AM known (NM.mk v0.machine v0.seq) v0) v1 x21 x22 (IntKind.i64.wrap (x23+1))) else
  B1 n known out x21 x22 (IntKind.i64.wrap (x23+1))) else
  some (.inl (known,(out,())))
def G8 (n:Nat) (y:C.Ds Ty (Af DH)):Option (YT Ty K6):=B1 n y.1 y.2.1 y.2.2.1 y.2.2.2.1 y.2.2.2.2.1
def Ze5 (n:Nat):St Ty→Tr (Lf Ty):=AZ DH 1 K6 (G8 n)
def Ct:Nat→(List Ag)→Int→Int→Option ((List Ag×Unit) ⊕ ((List Ag×Int×Unit)))
 | 0,_,_,_=>none
 | n+1,out,x57,x58 =>
  bif decide (x58<x57) then((A6 out x58).bind fun v0 =>
  (out.get?Internal x58.toNat).bind fun v1 =>
  bif decide (x58>0) then((A6 out (IntKind.i64.wrap (x58-1))).bind fun v2 =>
  (out.get?Internal (IntKind.i64.wrap (x58-1)).toNat).bind fun v3 =>
  bif decide (v3.machine=v1.machine) then((A6 out (IntKind.i64.wrap (x58-1))).bind fun v4 =>
  (out.get?Internal (IntKind.i64.wrap (x58-1)).toNat).bind fun v5 =>
  bif decide (v5.minute>v1.minute) then(some (.inr ([],(6,())))) else
  Ct n out x57 (IntKind.i64.wrap (x58+1))) else
  Ct n out x57 (IntKind.i64.wrap (x58+1))) else
  Ct n out x57 (IntKind.i64.wrap (x58+1))) else
  some (.inl (out,()))
def G9 (n:Nat) (y:C.Ds Ty (Af DI)):Option (YT Ty K7):=Ct n y.1 y.2.2.1 y.2.2.2.1
def Ze6 (n:Nat):St Ty→Tr (Lf Ty):=AZ DI 0 K7 (G9 n)
def N7 (n:Nat) (lists:List (List Ag)):Option ((List Ag×Int×Unit)) :=
 (L9 n lists).bind fun v0 =>
 bif v0.fst != 0 then(some ([],(v0.fst,()))) else
 (AhC n lists).bind fun v1 =>
 (B1 n [] [] v1.fst (↑v1.fst.length:Int) 0).bind fun v2 =>
 Sum.elim (fun v3=>(AtS v3.snd.fst).bind fun v4 =>
 (Ct n v4 (↑v4.length:Int) 0).bind fun v5 =>
 Sum.elim (fun v6=>some (v6.fst,(0,()))) (fun v6=>some (v6.fst,(v6.snd.fst,()))) (v5)) (fun v3=>some (v3.snd.fst,(v3.snd.snd.fst,()))) (v2)
def VI (n:Nat) (y:C.Ds Ty (Af Ka)):Option (YT Ty Oe):=N7 n y.1
def Zg6 (n:Nat):A9 Ty:=AA Ka 0 Oe (VI n)
def ZcG (n:Nat):List (Nat×A9 Ty):=[(130,ZfQ n),(131,Zk2 n),(132,ZkZ n)]
theorem LA (n:Nat):Ap Tryz.prog (ZcG n):=⟨Xr n,⟨Alc n,⟨Aqd n,trivial⟩⟩⟩
def ZfR (n:Nat):Az Ty:=[]
theorem YV (n:Nat) (x:C.Ds Ty (Af DH)):(Ax Tryz.prog 89 (Am Tryz.prog (ZcG n) []) (Ae (ZfR n)) (Al 7 Tryz.f81) (Aw DH x)).runK (A3 1 DH K6 (G8 n))=G8 (n+1) x:=by kernel_rfl
theorem YW (n:Nat):A5 true Tryz.prog 89 (Ze5 n) (.loop (Al 7 Tryz.f81)):=A4 fun x y hy=>At (Fn:=G8) Aa Ab (fun n=>Ac Aa Ab (LA n) Ah) (fun h=>by cases h) (fun h=>by cases h) (fun n=>(Ad (fn:=Tryz.f81) (L:=ZfR n) (ks:=[]) trivial (by kernel_rfl) (by kernel_rfl))) (by decide) (fun _=>rfl) YV hy
def ZfS (n:Nat):Az Ty:=[]
theorem YX (n:Nat) (x:C.Ds Ty (Af DI)):(Ax Tryz.prog 89 (Am Tryz.prog (ZcG n) []) (Ae (ZfS n)) (Al 19 Tryz.f81) (Aw DI x)).runK (A3 0 DI K7 (G9 n))=G9 (n+1) x:=by kernel_rfl
theorem YY (n:Nat):A5 true Tryz.prog 89 (Ze6 n) (.loop (Al 19 Tryz.f81)):=A4 fun x y hy=>At (Fn:=G9) Aa Ab (fun n=>Ac Aa Ab (LA n) Ah) (fun h=>by cases h) (fun h=>by cases h) (fun n=>(Ad (fn:=Tryz.f81) (L:=ZfS n) (ks:=[]) trivial (by kernel_rfl) (by kernel_rfl))) (by decide) (fun _=>rfl) YX hy
def ZhX (n:Nat):Az Ty:=[(.loop 7,Ze5 n),(.loop 19,Ze6 n)]
theorem Aeh (n:Nat) (x:C.Ds Ty (Af Ka)):(Ax Tryz.prog 89 (Am Tryz.prog (ZcG n) []) (Ae (ZhX n)) (Ao Tryz.f81) (Aw Ka x)).runK (Aq Tryz.prog Tryz.f81.results.toList 0 Oe)=VI n x:=by kernel_rfl
theorem YZ (n:Nat):Au Tryz.prog 81 (Zg6 n):=As Tryz.func81 rfl rfl (by decide) rfl Aa Ab (Ac Aa Ab (LA n) Ah) (Ad (fn:=Tryz.f81) (L:=ZhX n) (ks:=[.loop 7,.loop 19]) ⟨YW n,⟨YY n,trivial⟩⟩ (by kernel_rfl) (by kernel_rfl)) (Aeh n)
def LB:List (Nat×C):=[(0,.l 28)]
def Qh:List Wo:=[⟨.ret,[],[],[.l 93,.s 3]⟩]
def OT (n:Nat) (lists:List (List Ag)):Option ((List Ag×Int×Unit)) :=
 (N7 n lists).bind fun v0 =>
 bif v0.snd.fst != 0 then(some ([],(v0.snd.fst,()))) else
 bif decide ((↑v0.fst.length:Int)>60) then(some ([],(3,()))) else
 some (v0.fst,(0,()))
def Xs (n:Nat) (y:C.Ds Ty (Af LB)):Option (YT Ty Qh):=OT n y.1
def Zhp (n:Nat):A9 Ty:=AA LB 0 Qh (Xs n)
def ZiN (n:Nat):List (Nat×A9 Ty):=[(81,Zg6 n)]
theorem Aei (n:Nat):Ap Tryz.prog (ZiN n):=⟨YZ n,trivial⟩
def ZiO (n:Nat):Az Ty:=[]
theorem AgN (n:Nat) (x:C.Ds Ty (Af LB)):(Ax Tryz.prog 20 (Am Tryz.prog (ZiN n) []) (Ae (ZiO n)) (Ao Tryz.f312) (Aw LB x)).runK (Aq Tryz.prog Tryz.f312.results.toList 0 Qh)=Xs n x:=by kernel_rfl
theorem AaC (n:Nat):Au Tryz.prog 312 (Zhp n):=As Tryz.func312 rfl rfl (by decide) rfl Aa Ab (Ac Aa Ab (Aei n) Ah) (Ad (fn:=Tryz.f312) (L:=ZiO n) (ks:=[]) trivial (by kernel_rfl) (by kernel_rfl)) (AgN n)
def Ea:List (Nat×C):=[(0,.l 93),(1,.g 93)]
def H6:List Wo:=[⟨.ret,[],[],[.l 93]⟩]
def FG (n:Nat) (l:List Ag) (x:Ag):Option ((List Ag×Unit)) :=
 (AnF n l).bind fun v0 =>
 (app v0.fst [x]).bind fun v1 =>
 some (v1,())
def MP (n:Nat) (y:C.Ds Ty (Af Ea)):Option (YT Ty H6):=FG n y.1 y.2.1
def Zdh (n:Nat):A9 Ty:=AA Ea 0 H6 (MP n)
def ZdY (n:Nat):List (Nat×A9 Ty):=[(342,Zk0 n)]
theorem Ts (n:Nat):Ap Tryz.prog (ZdY n):=⟨AkW n,trivial⟩
def ZdZ (n:Nat):Az Ty:=[]
theorem UN (n:Nat) (x:C.Ds Ty (Af Ea)):(Ax Tryz.prog 10 (Am Tryz.prog (ZdY n) []) (Ae (ZdZ n)) (Ao Tryz.f313) (Aw Ea x)).runK (Aq Tryz.prog Tryz.f313.results.toList 0 H6)=MP n x:=by kernel_rfl
theorem QY (n:Nat):Au Tryz.prog 313 (Zdh n):=As Tryz.func313 rfl rfl (by decide) rfl Aa Ab (Ac Aa Ab (Ts n) Ah) (Ad (fn:=Tryz.f313) (L:=ZdZ n) (ks:=[]) trivial (by kernel_rfl) (by kernel_rfl)) (UN n)
def Cy:List (Nat×C):=[(0,.u 114),(1,.g 93)]
def Fk:List Wo:=[⟨.ret,[.u 114],[],[]⟩,⟨.pan,[.u 114],[],[.i 234 (.g 234)]⟩]
def B2 (n:Nat) (g:Aj) (r:Ag):Option ((Aj×Unit) ⊕ ((Aj×AI×Unit))) :=
 (CK n g.state.records r).bind fun v0 =>
 (AE n (!v0.fst) 6).bind fun v1 =>
 Sum.elim (fun v2=>(OT n [g.state.records,[r]]).bind fun v3 =>
 (Dn n v3.snd.fst).bind fun v4 =>
 Sum.elim (fun v5=>(FG n g.state.records r).bind fun v6 =>
 some (.inl (Aj.mk (An.mk g.state.cards g.state.outs g.state.runs v6.fst g.state.week g.state.roster),()))) (fun v5=>some (.inr (g,(v5.fst,())))) (v4)) (fun v2=>some (.inr (g,(v2.fst,())))) (v1)
def JQ (n:Nat) (y:C.Ds Ty (Af Cy)):Option (YT Ty Fk):=B2 n y.1 y.2.1
def Zb7 (n:Nat):A9 Ty:=AA Cy 1 Fk (JQ n)
def ZcO (n:Nat):List (Nat×A9 Ty):=[(311,Zct n),(139,Zb3 n),(312,Zhp n),(259,ZbA n),(313,Zdh n)]
theorem Qi (n:Nat):Ap Tryz.prog (ZcO n):=⟨NP n,⟨BB n,⟨AaC n,⟨DF n,⟨QY n,trivial⟩⟩⟩⟩⟩
def ZcP (n:Nat):Az Ty:=[]
theorem QZ (n:Nat) (x:C.Ds Ty (Af Cy)):(Ax Tryz.prog 40 (Am Tryz.prog (ZcO n) []) (Ae (ZcP n)) (Ao Tryz.f264) (Aw Cy x)).runK (Aq Tryz.prog Tryz.f264.results.toList 1 Fk)=JQ n x:=by kernel_rfl
theorem CT (n:Nat):Au Tryz.prog 264 (Zb7 n):=As Tryz.func264 rfl rfl (by decide) rfl Aa Ab (Ac Aa Ab (Qi n) Ah) (Ad (fn:=Tryz.f264) (L:=ZcP n) (ks:=[]) trivial (by kernel_rfl) (by kernel_rfl)) (QZ n)
def Du:List (Nat×C):=[(0,.u 114),(1,.v 3)]
def GB:List Wo:=[⟨.ret,[.u 114],[],[]⟩,⟨.pan,[.u 114],[],[.i 234 (.g 234)]⟩]
def EC (n:Nat) (g:Aj) (n_:List Int):Option ((Aj×Unit) ⊕ ((Aj×AI×Unit))) :=
 bif n_.length.beq 5 then((A6 n_ 0).bind fun v0 =>
 (n_.get?Internal (Int.toNat 0)).bind fun v1 =>
 bif n_.length.beq 5 then((A6 n_ 1).bind fun v2 =>
 (n_.get?Internal (Int.toNat 1)).bind fun v3 =>
 bif n_.length.beq 5 then((A6 n_ 2).bind fun v4 =>
 (n_.get?Internal (Int.toNat 2)).bind fun v5 =>
 bif n_.length.beq 5 then((A6 n_ 3).bind fun v6 =>
 (n_.get?Internal (Int.toNat 3)).bind fun v7 =>
 bif n_.length.beq 5 then((A6 n_ 4).bind fun v8 =>
 (n_.get?Internal (Int.toNat 4)).bind fun v9 =>
 (B2 n g (Ag.mk v1 v3 v5 (IK.mk 0) v7 v9)).bind fun v10 =>
 Sum.elim (fun v11=>some (.inl (v11.fst,()))) (fun v11=>some (.inr (v11.fst,(v11.snd.fst,())))) (v10)) else
 none) else
 none) else
 none) else
 none) else
 none
def LC (n:Nat) (y:C.Ds Ty (Af Du)):Option (YT Ty GB):=EC n y.1 y.2.1
def ZbQ (n:Nat):A9 Ty:=AA Du 1 GB (LC n)
def Zd2 (n:Nat):List (Nat×A9 Ty):=[(264,Zb7 n)]
theorem Su (n:Nat):Ap Tryz.prog (Zd2 n):=⟨CT n,trivial⟩
def Zd3 (n:Nat):Az Ty:=[]
theorem Tt (n:Nat) (x:C.Ds Ty (Af Du)):(Ax Tryz.prog 17 (Am Tryz.prog (Zd2 n) []) (Ae (Zd3 n)) (Ao Tryz.f195) (Aw Du x)).runK (Aq Tryz.prog Tryz.f195.results.toList 1 GB)=LC n x:=by kernel_rfl
theorem I3 (n:Nat):Au Tryz.prog 195 (ZbQ n):=As Tryz.func195 rfl rfl (by decide) rfl Aa Ab (Ac Aa Ab (Su n) Ah) (Ad (fn:=Tryz.f195) (L:=Zd3 n) (ks:=[]) trivial (by kernel_rfl) (by kernel_rfl)) (Tt n)
def Dv:List (Nat×C):=[(0,.u 114),(1,.v 3)]
def GC:List Wo:=[⟨.ret,[.u 114],[],[]⟩,⟨.pan,[.u 114],[],[.i 234 (.g 234)]⟩]
def ED (n:Nat) (g:Aj) (n_:List Int):Option ((Aj×Unit) ⊕ ((Aj×AI×Unit))) :=
 bif n_.length.beq 5 then((A6 n_ 0).bind fun v0 =>
 (n_.get?Internal (Int.toNat 0)).bind fun v1 =>
 bif n_.length.beq 5 then((A6 n_ 1).bind fun v2 =>
 (n_.get?Internal (Int.toNat 1)).bind fun v3 =>
 bif n_.length.beq 5 then((A6 n_ 2).bind fun v4 =>
 (n_.get?Internal (Int.toNat 2)).bind fun v5 =>
 bif n_.length.beq 5 then((A6 n_ 3).bind fun v6 =>
 (n_.get?Internal (Int.toNat 3)).bind fun v7 =>
 (B2 n g (Ag.mk v1 v3 v5 (IK.mk 1) v7 0)).bind fun v8 =>
 Sum.elim (fun v9=>some (.inl (v9.fst,()))) (fun v9=>some (.inr (v9.fst,(v9.snd.fst,())))) (v8)) else
 none) else
 none) else
 none) else
 none
def LD (n:Nat) (y:C.Ds Ty (Af Dv)):Option (YT Ty GC):=ED n y.1 y.2.1
def ZbR (n:Nat):A9 Ty:=AA Dv 1 GC (LD n)
def Zd4 (n:Nat):List (Nat×A9 Ty):=[(264,Zb7 n)]
theorem Sv (n:Nat):Ap Tryz.prog (Zd4 n):=⟨CT n,trivial⟩
def Zd5 (n:Nat):Az Ty:=[]
theorem Tu (n:Nat) (x:C.Ds Ty (Af Dv)):(Ax Tryz.prog 15 (Am Tryz.prog (Zd4 n) []) (Ae (Zd5 n)) (Ao Tryz.f196) (Aw Dv x)).runK (Aq Tryz.prog Tryz.f196.results.toList 1 GC)=LD n x:=by kernel_rfl
theorem I4 (n:Nat):Au Tryz.prog 196 (ZbR n):=As Tryz.func196 rfl rfl (by decide) rfl Aa Ab (Ac Aa Ab (Sv n) Ah) (Ad (fn:=Tryz.f196) (L:=Zd5 n) (ks:=[]) trivial (by kernel_rfl) (by kernel_rfl)) (Tu n)
def CL:List (Nat×C):=[(0,.u 114),(1,.v 3)]
def Ge:List Wo:=[⟨.ret,[.u 114],[],[]⟩,⟨.pan,[.u 114],[],[.i 234 (.g 234)]⟩]
def Eb (n:Nat) (g:Aj) (n_:List Int):Option ((Aj×Unit) ⊕ ((Aj×AI×Unit))) :=
 bif n_.length.beq 5 then((A6 n_ 0).bind fun v0 =>
 (n_.get?Internal (Int.toNat 0)).bind fun v1 =>
 bif n_.length.beq 5 then((A6 n_ 1).bind fun v2 =>
 (n_.get?Internal (Int.toNat 1)).bind fun v3 =>
 bif n_.length.beq 5 then((A6 n_ 2).bind fun v4 =>
 (n_.get?Internal (Int.toNat 2)).bind fun v5 =>
 bif n_.length.beq 5 then((A6 n_ 3).bind fun v6 =>
 (n_.get?Internal (Int.toNat 3)).bind fun v7 =>
 bif n_.length.beq 5 then((A6 n_ 4).bind fun v8 =>
 (n_.get?Internal (Int.toNat 4)).bind fun v9 =>
 (B2 n g (Ag.mk v1 v3 v5 (IK.mk 2) v7 v9)).bind fun v10 =>
 Sum.elim (fun v11=>some (.inl (v11.fst,()))) (fun v11=>some (.inr (v11.fst,(v11.snd.fst,())))) (v10)) else
 none) else
 none) else
 none) else
 none) else
 none
def KX (n:Nat) (y:C.Ds Ty (Af CL)):Option (YT Ty Ge):=Eb n y.1 y.2.1
def ZbL (n:Nat):A9 Ty:=AA CL 1 Ge (KX n)
def Zdi (n:Nat):List (Nat×A9 Ty):=[(264,Zb7 n)]
theorem Ra (n:Nat):Ap Tryz.prog (Zdi n):=⟨CT n,trivial⟩
def Zdj (n:Nat):Az Ty:=[]
theorem Sw (n:Nat) (x:C.Ds Ty (Af CL)):(Ax Tryz.prog 17 (Am Tryz.prog (Zdi n) []) (Ae (Zdj n)) (Ao Tryz.f197) (Aw CL x)).runK (Aq Tryz.prog Tryz.f197.results.toList 1 Ge)=KX n x:=by kernel_rfl
theorem HS (n:Nat):Au Tryz.prog 197 (ZbL n):=As Tryz.func197 rfl rfl (by decide) rfl Aa Ab (Ac Aa Ab (Ra n) Ah) (Ad (fn:=Tryz.f197) (L:=Zdj n) (ks:=[]) trivial (by kernel_rfl) (by kernel_rfl)) (Sw n)
def Ec:List (Nat×C):=[(0,.l 186),(1,.g 186)]
def H7:List Wo:=[⟨.ret,[],[],[.l 186]⟩]
def FH (n:Nat) (l:List AJ) (x:AJ):Option ((List AJ×Unit)) :=
 (Akb n l).bind fun v0 =>
 (app v0.fst [x]).bind fun v1 =>
 some (v1,())
def MQ (n:Nat) (y:C.Ds Ty (Af Ec)):Option (YT Ty H7):=FH n y.1 y.2.1
def Zdk (n:Nat):A9 Ty:=AA Ec 0 H7 (MQ n)
def Zea (n:Nat):List (Nat×A9 Ty):=[(314,ZjW n)]
theorem Tv (n:Nat):Ap Tryz.prog (Zea n):=⟨Akc n,trivial⟩
def Zeb (n:Nat):Az Ty:=[]
theorem UO (n:Nat) (x:C.Ds Ty (Af Ec)):(Ax Tryz.prog 10 (Am Tryz.prog (Zea n) []) (Ae (Zeb n)) (Ao Tryz.f265) (Aw Ec x)).runK (Aq Tryz.prog Tryz.f265.results.toList 0 H7)=MQ n x:=by kernel_rfl
theorem Rb (n:Nat):Au Tryz.prog 265 (Zdk n):=As Tryz.func265 rfl rfl (by decide) rfl Aa Ab (Ac Aa Ab (Tv n) Ah) (Ad (fn:=Tryz.f265) (L:=Zeb n) (ks:=[]) trivial (by kernel_rfl) (by kernel_rfl)) (UO n)
def FI:List (Nat×C):=[(0,.g 32),(1,.g 184)]
def J8:List Wo:=[⟨.ret,[],[],[.s 4]⟩]
def EE (n:Nat) (w:Ar) (d:AP):Option ((Bool×Unit)) :=
 bif decide (0≤d.day) then(bif decide (d.day≤IntKind.i64.wrap (w.days-1)) then(bif decide (0≤d.on) then(bif decide (d.on≤1439) then(bif decide (d.on≤d.off.lo) then(bif decide (d.off.lo≤d.off.hi) then(bif decide (d.off.hi≤IntKind.i64.wrap (d.on+1440)) then(bif decide (0≤d.route) then(some (decide (d.route≤15),())) else
 some (false,())) else
 some (false,())) else
 some (false,())) else
 some (false,())) else
 some (false,())) else
 some (false,())) else
 some (false,())) else
 some (false,())
def OA (n:Nat) (y:C.Ds Ty (Af FI)):Option (YT Ty J8):=EE n y.1 y.2.1
def Zec (n:Nat):A9 Ty:=AA FI 0 J8 (OA n)
def Zfg (n:Nat):List (Nat×A9 Ty):=[]
theorem Wl (n:Nat):Ap Tryz.prog (Zfg n):=trivial
def Zfh (n:Nat):Az Ty:=[]
theorem Xt (n:Nat) (x:C.Ds Ty (Af FI)):(Ax Tryz.prog 47 (Am Tryz.prog (Zfg n) []) (Ae (Zfh n)) (Ao Tryz.f116) (Aw FI x)).runK (Aq Tryz.prog Tryz.f116.results.toList 0 J8)=OA n x:=by kernel_rfl
theorem Tw (n:Nat):Au Tryz.prog 116 (Zec n):=As Tryz.func116 rfl rfl (by decide) rfl Aa Ab (Ac Aa Ab (Wl n) Ah) (Ad (fn:=Tryz.f116) (L:=Zfh n) (ks:=[]) trivial (by kernel_rfl) (by kernel_rfl)) (Xt n)
def DJ:List (Nat×C):=[(0,.l 3),(1,.s 3),(2,.s 3),(9,.l 3),(10,.s 3),(11,.s 3)]
def K8:List Wo:=[⟨.exit 0,[],[],[]⟩,⟨.ret,[],[(6,.s 4)],[]⟩]
def Kb:List (Nat×C):=[(0,.l 3),(1,.s 3),(2,.s 3)]
def Of:List Wo:=[⟨.ret,[],[],[.s 4]⟩]
def IZ:Nat→(List Int)→Int→Int→(List Int)→Int→Int→Option (Unit ⊕ ((Bool×Unit)))
 | 0,_,_,_,_,_,_=>none
 | n+1,l,low,high,x9,x10,x11 =>
  bif decide (x11<x10) then((A6 x9 x11).bind fun v0 =>
  bif decide (low≤v0) then(bif !!decide (v0≤high) then(bif decide (x11>0) then((A6 l (IntKind.i64.wrap (x11-1))).bind fun v1 =>
  bif decide (v0≤v1) then(some (.inr (false,()))) else
  IZ n l low high x9 x10 (IntKind.i64.wrap (x11+1))) else
  IZ n l low high x9 x10 (IntKind.i64.wrap (x11+1))) else
  some (.inr (false,()))) else
  some (.inr (false,()))) else
  some (.inl ())
def GD (n:Nat) (y:C.Ds Ty (Af DJ)):Option (YT Ty K8):=IZ n y.1 y.2.1 y.2.2.1 y.2.2.2.1 y.2.2.2.2.1 y.2.2.2.2.2.1
def Ze7 (n:Nat):St Ty→Tr (Lf Ty):=AZ DJ 0 K8 (GD n)
def Hy (n:Nat) (l:List Int) (low:Int) (high:Int):Option ((Bool×Unit)) :=
 (IZ n l low high l (↑l.length:Int) 0).bind fun v0 =>
 Sum.elim (fun v1=>some (true,())) (fun v1=>some (v1.fst,())) (v0)
def VJ (n:Nat) (y:C.Ds Ty (Af Kb)):Option (YT Ty Of):=Hy n y.1 y.2.1 y.2.2.1
def Zg7 (n:Nat):A9 Ty:=CG (AA Kb 0 Of (VJ n))
def Ze8 (n:Nat):List (Nat×A9 Ty):=[]
theorem RL (n:Nat):Ap Tryz.prog (Ze8 n):=trivial
def ZfT (n:Nat):Az Ty:=[]
theorem Za (n:Nat) (x:C.Ds Ty (Af DJ)):(Ax Tryz.prog 35 (Am Tryz.prog (Ze8 n) []) (Ae (ZfT n)) (Al 2 Tryz.f172) (Aw DJ x)).runK (A3 0 DJ K8 (GD n))=GD (n+1) x:=by kernel_rfl
theorem Zb (n:Nat):A5 true Tryz.prog 35 (Ze7 n) (.loop (Al 2 Tryz.f172)):=A4 fun x y hy=>At (Fn:=GD) Aa Ab (fun n=>Ac Aa Ab (RL n) Ah) (fun h=>by cases h) (fun h=>by cases h) (fun n=>(Ad (fn:=Tryz.f172) (L:=ZfT n) (ks:=[]) trivial (by kernel_rfl) (by kernel_rfl))) (by decide) (fun _=>rfl) Za hy
def ZhY (n:Nat):Az Ty:=[(.loop 2,Ze7 n)]
theorem Aej (n:Nat) (x:C.Ds Ty (Af Kb)):(Ax Tryz.prog 35 (Am Tryz.prog (Ze8 n) []) (Ae (ZhY n)) (Ao Tryz.f172) (Aw Kb x)).runK (Aq Tryz.prog Tryz.f172.results.toList 0 Of)=VJ n x:=by kernel_rfl
theorem Zc (n:Nat):Au Tryz.prog 172 (Zg7 n):=AS (As Tryz.func172 rfl rfl (by decide) rfl Aa Ab (Ac Aa Ab (RL n) Ah) (Ad (fn:=Tryz.f172) (L:=ZhY n) (ks:=[.loop 2]) ⟨Zb n,trivial⟩ (by kernel_rfl) (by kernel_rfl)) (Aej n))
def Ed:List (Nat×C):=[(0,.g 32),(1,.g 186)]
def H8:List Wo:=[⟨.ret,[],[],[.s 4]⟩]
def Dd (n:Nat) (w:Ar) (d:AJ):Option ((Bool×Unit)) :=
 (Hy n d.knows 0 15).bind fun v0 =>
 bif v0.fst then((Hy n d.leave 0 (IntKind.i64.wrap (w.days-1))).bind fun v1 =>
 bif v1.fst then((Hy n d.wish 0 (IntKind.i64.wrap (w.days-1))).bind fun v2 =>
 bif v2.fst then(bif decide (-10080≤d.off) then(bif decide (d.off≤1440) then(bif decide (0≤d.row) then(bif decide (d.row≤14) then(bif decide (0≤d.used) then(some (decide (d.used≤w.hours),())) else
 some (false,())) else
 some (false,())) else
 some (false,())) else
 some (false,())) else
 some (false,())) else
 some (false,())) else
 some (false,())) else
 some (false,())
def MR (n:Nat) (y:C.Ds Ty (Af Ed)):Option (YT Ty H8):=Dd n y.1 y.2.1
def Zdl (n:Nat):A9 Ty:=AA Ed 0 H8 (MR n)
def Zed (n:Nat):List (Nat×A9 Ty):=[(172,Zg7 n)]
theorem Tx (n:Nat):Ap Tryz.prog (Zed n):=⟨Zc n,trivial⟩
def Zee (n:Nat):Az Ty:=[]
theorem UP (n:Nat) (x:C.Ds Ty (Af Ed)):(Ax Tryz.prog 41 (Am Tryz.prog (Zed n) []) (Ae (Zee n)) (Ao Tryz.f118) (Aw Ed x)).runK (Aq Tryz.prog Tryz.f118.results.toList 0 H8)=MR n x:=by kernel_rfl
theorem Re (n:Nat):Au Tryz.prog 118 (Zdl n):=As Tryz.func118 rfl rfl (by decide) rfl Aa Ab (Ac Aa Ab (Tx n) Ah) (Ad (fn:=Tryz.f118) (L:=Zee n) (ks:=[]) trivial (by kernel_rfl) (by kernel_rfl)) (UP n)
def BU:List (Nat×C):=[(0,.l 184),(1,.f 169 [] [.p [.f 116 [.g 32] []]]),(7,.s 3),(8,.s 3)]
def GF:List Wo:=[⟨.exit 0,[.p [.f 116 [.g 32] []]],[],[]⟩,⟨.ret,[.p [.f 116 [.g 32] []]],[(4,.s 3)],[]⟩]
def BV:List (Nat×C):=[(0,.l 186),(1,.f 171 [] [.p [.f 118 [.g 32] []]]),(7,.s 3),(8,.s 3)]
def GG:List Wo:=[⟨.exit 0,[.p [.f 118 [.g 32] []]],[],[]⟩,⟨.ret,[.p [.f 118 [.g 32] []]],[(4,.s 3)],[]⟩]
def FJ:List (Nat×C):=[(0,.g 32)]
def J9:List Wo:=[⟨.ret,[],[],[.s 3]⟩]
def Bg:Nat→(List AP)→Ar→Int→Int→Option (((((Ar×Unit)×Unit)×Unit)×Unit) ⊕ (((((Ar×Unit)×Unit)×Unit)×Int×Unit)))
 | 0,_,_,_,_=>none
 | n+1,s,f,x7,x8 =>
  bif decide (x8<x7) then((A6 s x8).bind fun v0 =>
  (EE n f v0).bind fun v1 =>
  bif !v1.fst then(some (.inr ((((f,()),()),()),(x8,())))) else
  Bg n s f x7 (IntKind.i64.wrap (x8+1))) else
  some (.inl ((((f,()),()),()),()))
def Dw (n:Nat) (y:C.Ds Ty (Af BU)):Option (YT Ty GF):=Bg n y.1 y.2.1.2.1.1.1.1 y.2.2.1 y.2.2.2.1
def Zb5 (n:Nat):St Ty→Tr (Lf Ty):=AZ BU 1 GF (Dw n)
def Bh:Nat→(List AJ)→Ar→Int→Int→Option (((((Ar×Unit)×Unit)×Unit)×Unit) ⊕ (((((Ar×Unit)×Unit)×Unit)×Int×Unit)))
 | 0,_,_,_,_=>none
 | n+1,s,f,x7,x8 =>
  bif decide (x8<x7) then((A6 s x8).bind fun v0 =>
  (Dd n f v0).bind fun v1 =>
  bif !v1.fst then(some (.inr ((((f,()),()),()),(x8,())))) else
  Bh n s f x7 (IntKind.i64.wrap (x8+1))) else
  some (.inl ((((f,()),()),()),()))
def Dx (n:Nat) (y:C.Ds Ty (Af BV)):Option (YT Ty GG):=Bh n y.1 y.2.1.2.1.1.1.1 y.2.2.1 y.2.2.2.1
def ZbS (n:Nat):St Ty→Tr (Lf Ty):=AZ BV 1 GG (Dx n)
def CM (n:Nat) (w:Ar):Option ((Int×Unit)) :=
 bif !decide ((↑w.duties.length:Int)>12) then(bif decide ((↑w.drivers.length:Int)>6) then(some (3,())) else
 bif decide (1≤w.days) then(bif !!decide (w.days≤7) then(bif decide (0≤w.rest) then(bif !!decide (w.rest≤3000) then(bif decide (1≤w.run) then(bif !!decide (w.run≤14) then(bif decide (0≤w.hours) then(bif !decide (w.hours≤20000) then(some (1,())) else
 (Bg n w.duties w (↑w.duties.length:Int) 0).bind fun v0 =>
 Sum.elim (fun v1=>(Bh n w.drivers w (↑w.drivers.length:Int) 0).bind fun v2 =>
 Sum.elim (fun v3=>some (0,())) (fun v3=>bif !!decide (v3.snd.fst≥0) then(some (1,())) else
 some (0,())) (v2)) (fun v1=>bif !!!decide (v1.snd.fst≥0) then((Bh n w.drivers w (↑w.drivers.length:Int) 0).bind fun v2 =>
 Sum.elim (fun v3=>some (0,())) (fun v3=>bif !!decide (v3.snd.fst≥0) then(some (1,())) else
 some (0,())) (v2)) else
 some (1,())) (v0)) else
 some (1,())) else
 some (1,())) else
 some (1,())) else
 some (1,())) else
 some (1,())) else
 some (1,())) else
 some (1,())) else
 some (3,())
def OB (n:Nat) (y:C.Ds Ty (Af FJ)):Option (YT Ty J9):=CM n y.1
def ZbE (n:Nat):A9 Ty:=AA FJ 0 J9 (OB n)
def ZbW (n:Nat):List (Nat×A9 Ty):=[(116,Zec n),(118,Zdl n)]
theorem H9 (n:Nat):Ap Tryz.prog (ZbW n):=⟨Tw n,⟨Re n,trivial⟩⟩
def Zd6 (n:Nat):Az Ty:=[]
theorem Tz (n:Nat) (x:C.Ds Ty (Af BU)):(Ax Tryz.prog 19 (Am Tryz.prog (ZbW n) []) (Ae (Zd6 n)) (Al 2 Tryz.f234) (Aw BU x)).runK (A3 1 BU GF (Dw n))=Dw (n+1) x:=by kernel_rfl
theorem KY (n:Nat):A5 true Tryz.prog 19 (Zb5 n) (.loop (Al 2 Tryz.f234)):=A4 fun x y hy=>At (Fn:=Dw) Aa Ab (fun n=>Ac Aa Ab (H9 n) Ah) (fun h=>by cases h) (fun h=>by cases h) (fun n=>(Ad (fn:=Tryz.f234) (L:=Zd6 n) (ks:=[]) trivial (by kernel_rfl) (by kernel_rfl))) (by decide) (fun _=>rfl) Tz hy
def Ze9 (n:Nat):YM Ty:=[(234,[(.loop 2,Zb5 n)])]
theorem UQ (n:Nat):RC Tryz.prog (Ze9 n):=⟨JX (f:=234) Tryz.func234 rfl (Ad (fn:=Tryz.f234) (L:=[(.loop 2,Zb5 n)]) (ks:=[.loop 2]) ⟨KY n,trivial⟩ (by kernel_rfl) (by kernel_rfl)),trivial⟩
def Zd7 (n:Nat):Az Ty:=[]
theorem T0 (n:Nat) (x:C.Ds Ty (Af BV)):(Ax Tryz.prog 19 (Am Tryz.prog (ZbW n) (Ze9 n)) (Ae (Zd7 n)) (Al 2 Tryz.f235) (Aw BV x)).runK (A3 1 BV GG (Dx n))=Dx (n+1) x:=by kernel_rfl
theorem T3 (n:Nat):A5 true Tryz.prog 19 (ZbS n) (.loop (Al 2 Tryz.f235)):=A4 fun x y hy=>At (Fn:=Dx) Aa Ab (fun n=>Ac Aa Ab (H9 n) (UQ n)) (fun h=>by cases h) (fun h=>by cases h) (fun n=>(Ad (fn:=Tryz.f235) (L:=Zd7 n) (ks:=[]) trivial (by kernel_rfl) (by kernel_rfl))) (by decide) (fun _=>rfl) T0 hy
def ZeA (n:Nat):YM Ty:=[(234,[(.loop 2,Zb5 n)]),(235,[(.loop 2,ZbS n)])]
theorem UR (n:Nat):RC Tryz.prog (ZeA n):=⟨JX (f:=234) Tryz.func234 rfl (Ad (fn:=Tryz.f234) (L:=[(.loop 2,Zb5 n)]) (ks:=[.loop 2]) ⟨KY n,trivial⟩ (by kernel_rfl) (by kernel_rfl)),⟨JX (f:=235) Tryz.func235 rfl (Ad (fn:=Tryz.f235) (L:=[(.loop 2,ZbS n)]) (ks:=[.loop 2]) ⟨T3 n,trivial⟩ (by kernel_rfl) (by kernel_rfl)),trivial⟩⟩
def Zfi (n:Nat):Az Ty:=[]
theorem Xu (n:Nat) (x:C.Ds Ty (Af FJ)):(Ax Tryz.prog 52 (Am Tryz.prog (ZbW n) (ZeA n)) (Ae (Zfi n)) (Ao Tryz.f71) (Aw FJ x)).runK (Aq Tryz.prog Tryz.f71.results.toList 0 J9)=OB n x:=by kernel_rfl
theorem Gf (n:Nat):Au Tryz.prog 71 (ZbE n):=As Tryz.func71 rfl rfl (by decide) rfl Aa Ab (Ac Aa Ab (H9 n) (UR n)) (Ad (fn:=Tryz.f71) (L:=Zfi n) (ks:=[]) trivial (by kernel_rfl) (by kernel_rfl)) (Xu n)
def Cz:List (Nat×C):=[(0,.u 114),(1,.v 3)]
def Fl:List Wo:=[⟨.ret,[.u 114],[],[]⟩,⟨.pan,[.u 114],[],[.i 234 (.g 234)]⟩]
def BW (n:Nat) (g:Aj) (n_:List Int):Option ((Aj×Unit) ⊕ ((Aj×AI×Unit))) :=
 bif n_.length.beq 5 then((A6 n_ 0).bind fun v0 =>
 (n_.get?Internal (Int.toNat 0)).bind fun v1 =>
 bif n_.length.beq 5 then((A6 n_ 1).bind fun v2 =>
 (n_.get?Internal (Int.toNat 1)).bind fun v3 =>
 (FH n g.state.week.drivers (AJ.mk [v1] [] [] v3 0 0)).bind fun v4 =>
 (CM n (Ar.mk g.state.week.days g.state.week.duties v4.fst g.state.week.rest g.state.week.run g.state.week.hours)).bind fun v5 =>
 (Dn n v5.fst).bind fun v6 =>
 Sum.elim (fun v7=>some (.inl (Aj.mk (An.mk g.state.cards g.state.outs g.state.runs g.state.records (Ar.mk g.state.week.days g.state.week.duties v4.fst g.state.week.rest g.state.week.run g.state.week.hours) g.state.roster),()))) (fun v7=>some (.inr (g,(v7.fst,())))) (v6)) else
 none) else
 none
def JR (n:Nat) (y:C.Ds Ty (Af Cz)):Option (YT Ty Fl):=BW n y.1 y.2.1
def ZbG (n:Nat):A9 Ty:=AA Cz 1 Fl (JR n)
def ZcQ (n:Nat):List (Nat×A9 Ty):=[(265,Zdk n),(71,ZbE n),(259,ZbA n)]
theorem Qj (n:Nat):Ap Tryz.prog (ZcQ n):=⟨Rb n,⟨Gf n,⟨DF n,trivial⟩⟩⟩
def ZcR (n:Nat):Az Ty:=[]
theorem Rf (n:Nat) (x:C.Ds Ty (Af Cz)):(Ax Tryz.prog 28 (Am Tryz.prog (ZcQ n) []) (Ae (ZcR n)) (Ao Tryz.f198) (Aw Cz x)).runK (Aq Tryz.prog Tryz.f198.results.toList 1 Fl)=JR n x:=by kernel_rfl
theorem Hd (n:Nat):Au Tryz.prog 198 (ZbG n):=As Tryz.func198 rfl rfl (by decide) rfl Aa Ab (Ac Aa Ab (Qj n) Ah) (Ad (fn:=Tryz.f198) (L:=ZcR n) (ks:=[]) trivial (by kernel_rfl) (by kernel_rfl)) (Rf n)
def FK:List (Nat×C):=[(0,.l 184),(1,.g 184)]
def JA:List Wo:=[⟨.ret,[],[],[.l 184]⟩]
def HT (n:Nat) (l:List AP) (x:AP):Option ((List AP×Unit)) :=
 (Akd n l).bind fun v0 =>
 (app v0.fst [x]).bind fun v1 =>
 some (v1,())
def OC (n:Nat) (y:C.Ds Ty (Af FK)):Option (YT Ty JA):=HT n y.1 y.2.1
def Zef (n:Nat):A9 Ty:=AA FK 0 JA (OC n)
def Zfj (n:Nat):List (Nat×A9 Ty):=[(315,ZjX n)]
theorem Wm (n:Nat):Ap Tryz.prog (Zfj n):=⟨Ake n,trivial⟩
def Zfk (n:Nat):Az Ty:=[]
theorem Xv (n:Nat) (x:C.Ds Ty (Af FK)):(Ax Tryz.prog 10 (Am Tryz.prog (Zfj n) []) (Ae (Zfk n)) (Ao Tryz.f266) (Aw FK x)).runK (Aq Tryz.prog Tryz.f266.results.toList 0 JA)=OC n x:=by kernel_rfl
theorem T4 (n:Nat):Au Tryz.prog 266 (Zef n):=As Tryz.func266 rfl rfl (by decide) rfl Aa Ab (Ac Aa Ab (Wm n) Ah) (Ad (fn:=Tryz.f266) (L:=Zfk n) (ks:=[]) trivial (by kernel_rfl) (by kernel_rfl)) (Xv n)
def GH:List (Nat×C):=[(0,.l 3),(1,.s 3)]
def K9:List Wo:=[⟨.ret,[],[],[.l 3]⟩]
def Ja (n:Nat) (l:List Int) (x:Int):Option ((List Int×Unit)) :=
 (Aa6 n l).bind fun v0 =>
 (app v0.fst [x]).bind fun v1 =>
 some (v1,())
def Qk (n:Nat) (y:C.Ds Ty (Af GH)):Option (YT Ty K9):=Ja n y.1 y.2.1
def ZeB (n:Nat):A9 Ty:=AA GH 0 K9 (Qk n)
def ZfU (n:Nat):List (Nat×A9 Ty):=[(268,Zj4 n)]
theorem Xw (n:Nat):Ap Tryz.prog (ZfU n):=⟨Acs n,trivial⟩
def ZfV (n:Nat):Az Ty:=[]
theorem Zd (n:Nat) (x:C.Ds Ty (Af GH)):(Ax Tryz.prog 10 (Am Tryz.prog (ZfU n) []) (Ae (ZfV n)) (Ao Tryz.f267) (Aw GH x)).runK (Aq Tryz.prog Tryz.f267.results.toList 0 K9)=Qk n x:=by kernel_rfl
theorem US (n:Nat):Au Tryz.prog 267 (ZeB n):=As Tryz.func267 rfl rfl (by decide) rfl Aa Ab (Ac Aa Ab (Xw n) Ah) (Ad (fn:=Tryz.f267) (L:=ZfV n) (ks:=[]) trivial (by kernel_rfl) (by kernel_rfl)) (Zd n)
def Dy:List (Nat×C):=[(0,.u 114),(1,.v 3)]
def GI:List Wo:=[⟨.ret,[.u 114],[],[]⟩,⟨.pan,[.u 114],[],[.i 234 (.g 234)]⟩]
def CC (n:Nat) (g:Aj) (n_:List Int):Option ((Aj×Unit) ⊕ ((Aj×AI×Unit))) :=
 bif n_.length.beq 5 then((A6 n_ 0).bind fun v0 =>
 (n_.get?Internal (Int.toNat 0)).bind fun v1 =>
 bif n_.length.beq 5 then((A6 n_ 1).bind fun v2 =>
 (n_.get?Internal (Int.toNat 1)).bind fun v3 =>
 bif n_.length.beq 5 then((A6 n_ 2).bind fun v4 =>
 (n_.get?Internal (Int.toNat 2)).bind fun v5 =>
 bif n_.length.beq 5 then((A6 n_ 3).bind fun v6 =>
 (n_.get?Internal (Int.toNat 3)).bind fun v7 =>
 bif n_.length.beq 5 then((A6 n_ 4).bind fun v8 =>
 (n_.get?Internal (Int.toNat 4)).bind fun v9 =>
 (HT n g.state.week.duties (AP.mk v1 v3 (Rg.mk v5 v7) v9)).bind fun v10 =>
 (CM n (Ar.mk g.state.week.days v10.fst g.state.week.drivers g.state.week.rest g.state.week.run g.state.week.hours)).bind fun v11 =>
 (Dn n v11.fst).bind fun v12 =>
 Sum.elim (fun v13=>(Ja n g.state.roster (-1)).bind fun v14 =>
 some (.inl (Aj.mk (An.mk g.state.cards g.state.outs g.state.runs g.state.records (Ar.mk g.state.week.days v10.fst g.state.week.drivers g.state.week.rest g.state.week.run g.state.week.hours) v14.fst),()))) (fun v13=>some (.inr (g,(v13.fst,())))) (v12)) else
 none) else
 none) else
 none) else
 none) else
 none
def LF (n:Nat) (y:C.Ds Ty (Af Dy)):Option (YT Ty GI):=CC n y.1 y.2.1
def ZbT (n:Nat):A9 Ty:=AA Dy 1 GI (LF n)
def Zd8 (n:Nat):List (Nat×A9 Ty):=[(266,Zef n),(71,ZbE n),(259,ZbA n),(267,ZeB n)]
theorem Sx (n:Nat):Ap Tryz.prog (Zd8 n):=⟨T4 n,⟨Gf n,⟨DF n,⟨US n,trivial⟩⟩⟩⟩
def Zd9 (n:Nat):Az Ty:=[]
theorem T5 (n:Nat) (x:C.Ds Ty (Af Dy)):(Ax Tryz.prog 44 (Am Tryz.prog (Zd8 n) []) (Ae (Zd9 n)) (Ao Tryz.f199) (Aw Dy x)).runK (Aq Tryz.prog Tryz.f199.results.toList 1 GI)=LF n x:=by kernel_rfl
theorem I5 (n:Nat):Au Tryz.prog 199 (ZbT n):=As Tryz.func199 rfl rfl (by decide) rfl Aa Ab (Ac Aa Ab (Sx n) Ah) (Ad (fn:=Tryz.f199) (L:=Zd9 n) (ks:=[]) trivial (by kernel_rfl) (by kernel_rfl)) (T5 n)
def BE:List (Nat×C):=[(0,.l 3),(1,.f 174 [] [.p [.f 120 [] [.u 32]]]),(7,.s 3),(8,.s 3)]
def Fm:List Wo:=[⟨.exit 0,[.p [.f 120 [] [.u 32]],.q 1],[],[]⟩,⟨.ret,[.p [.f 120 [] [.u 32]],.q 1],[(4,.s 3)],[]⟩]
def Ee:List (Nat×C):=[(0,.g 32),(1,.l 3)]
def HA:List Wo:=[⟨.ret,[],[],[.s 4]⟩]
def Bi:Nat→(List Int)→Ar→Int→Int→Option ((((Unit×(Ar×Unit))×Unit)×Unit×Unit) ⊕ ((((Unit×(Ar×Unit))×Unit)×Unit×Int×Unit)))
 | 0,_,_,_,_=>none
 | n+1,s,f,x7,x8 =>
  bif decide (x8<x7) then((A6 s x8).bind fun v0 =>
  bif decide (-1≤v0) then(bif !decide (v0≤IntKind.i64.wrap ((↑f.drivers.length:Int)-1)) then(some (.inr ((((),(f,())),()),((),(x8,()))))) else
  Bi n s f x7 (IntKind.i64.wrap (x8+1))) else
  some (.inr ((((),(f,())),()),((),(x8,()))))) else
  some (.inl ((((),(f,())),()),((),())))
def C0 (n:Nat) (y:C.Ds Ty (Af BE)):Option (YT Ty Fm):=Bi n y.1 y.2.1.2.1.1.2.1 y.2.2.1 y.2.2.2.1
def ZbH (n:Nat):St Ty→Tr (Lf Ty):=AZ BE 2 Fm (C0 n)
def FL (n:Nat) (w:Ar) (l:List Int):Option ((Bool×Unit)) :=
 bif decide ((↑l.length:Int)=(↑w.duties.length:Int)) then((Bi n l w (↑l.length:Int) 0).bind fun v0 =>
 Sum.elim (fun v1=>some (!decide (-1≥0),())) (fun v1=>some (!decide (v1.snd.snd.fst≥0),())) (v0)) else
 some (false,())
def MS (n:Nat) (y:C.Ds Ty (Af Ee)):Option (YT Ty HA):=FL n y.1 y.2.1
def Zdm (n:Nat):A9 Ty:=CG (AA Ee 0 HA (MS n))
def Zck (n:Nat):List (Nat×A9 Ty):=[]
theorem KZ (n:Nat):Ap Tryz.prog (Zck n):=trivial
def ZcS (n:Nat):Az Ty:=[]
theorem Rh (n:Nat) (x:C.Ds Ty (Af BE)):(Ax Tryz.prog 19 (Am Tryz.prog (Zck n) []) (Ae (ZcS n)) (Al 2 Tryz.f236) (Aw BE x)).runK (A3 2 BE Fm (C0 n))=C0 (n+1) x:=by kernel_rfl
theorem Ri (n:Nat):A5 true Tryz.prog 19 (ZbH n) (.loop (Al 2 Tryz.f236)):=A4 fun x y hy=>At (Fn:=C0) Aa Ab (fun n=>Ac Aa Ab (KZ n) Ah) (fun h=>by cases h) (fun h=>by cases h) (fun n=>(Ad (fn:=Tryz.f236) (L:=ZcS n) (ks:=[]) trivial (by kernel_rfl) (by kernel_rfl))) (by decide) (fun _=>rfl) Rh hy
def ZdA (n:Nat):YM Ty:=[(236,[(.loop 2,ZbH n)])]
theorem Sy (n:Nat):RC Tryz.prog (ZdA n):=⟨JX (f:=236) Tryz.func236 rfl (Ad (fn:=Tryz.f236) (L:=[(.loop 2,ZbH n)]) (ks:=[.loop 2]) ⟨Ri n,trivial⟩ (by kernel_rfl) (by kernel_rfl)),trivial⟩
def Zeg (n:Nat):Az Ty:=[]
theorem UT (n:Nat) (x:C.Ds Ty (Af Ee)):(Ax Tryz.prog 16 (Am Tryz.prog (Zck n) (ZdA n)) (Ae (Zeg n)) (Ao Tryz.f72) (Aw Ee x)).runK (Aq Tryz.prog Tryz.f72.results.toList 0 HA)=MS n x:=by kernel_rfl
theorem Rj (n:Nat):Au Tryz.prog 72 (Zdm n):=AS (As Tryz.func72 rfl rfl (by decide) rfl Aa Ab (Ac Aa Ab (KZ n) (Sy n)) (Ad (fn:=Tryz.f72) (L:=Zeg n) (ks:=[]) trivial (by kernel_rfl) (by kernel_rfl)) (UT n))
def BX:List (Nat×C):=[(2,.o 3),(6,.l 184),(7,.s 3),(8,.s 3)]
def GJ:List Wo:=[⟨.exit 0,[],[(2,.o 3)],[]⟩]
def FM:List (Nat×C):=[(0,.g 32)]
def JB:List Wo:=[⟨.ret,[],[],[.l 3]⟩]
def CD:Nat→(List Int)→(List AP)→Int→Int→Option ((List Int×Unit))
 | 0,_,_,_,_=>none
 | n+1,out,x6,x7,x8 =>
  bif decide (x8<x7) then((A6 x6 x8).bind fun v0 =>
  (app out [v0.off.hi]).bind fun v1 =>
  CD n v1 x6 x7 (IntKind.i64.wrap (x8+1))) else
  some (out,())
def Dz (n:Nat) (y:C.Ds Ty (Af BX)):Option (YT Ty GJ):=CD n y.1 y.2.1 y.2.2.1 y.2.2.2.1
def ZcT (n:Nat):St Ty→Tr (Lf Ty):=AZ BX 0 GJ (Dz n)
def HU (n:Nat) (w:Ar):Option ((List Int×Unit)) :=
 (CD n [] w.duties (↑w.duties.length:Int) 0).bind fun v0 =>
 some (v0.fst,())
def OD (n:Nat) (y:C.Ds Ty (Af FM)):Option (YT Ty JB):=HU n y.1
def Zeh (n:Nat):A9 Ty:=AA FM 0 JB (OD n)
def Zc8 (n:Nat):List (Nat×A9 Ty):=[]
theorem MT (n:Nat):Ap Tryz.prog (Zc8 n):=trivial
def ZdB (n:Nat):Az Ty:=[]
theorem T6 (n:Nat) (x:C.Ds Ty (Af BX)):(Ax Tryz.prog 20 (Am Tryz.prog (Zc8 n) []) (Ae (ZdB n)) (Al 2 Tryz.f122) (Aw BX x)).runK (A3 0 BX GJ (Dz n))=Dz (n+1) x:=by kernel_rfl
theorem T7 (n:Nat):A5 true Tryz.prog 20 (ZcT n) (.loop (Al 2 Tryz.f122)):=A4 fun x y hy=>At (Fn:=Dz) Aa Ab (fun n=>Ac Aa Ab (MT n) Ah) (fun h=>by cases h) (fun h=>by cases h) (fun n=>(Ad (fn:=Tryz.f122) (L:=ZdB n) (ks:=[]) trivial (by kernel_rfl) (by kernel_rfl))) (by decide) (fun _=>rfl) T6 hy
def Zfl (n:Nat):Az Ty:=[(.loop 2,ZcT n)]
theorem Xx (n:Nat) (x:C.Ds Ty (Af FM)):(Ax Tryz.prog 20 (Am Tryz.prog (Zc8 n) []) (Ae (Zfl n)) (Ao Tryz.f122) (Aw FM x)).runK (Aq Tryz.prog Tryz.f122.results.toList 0 JB)=OD n x:=by kernel_rfl
theorem T8 (n:Nat):Au Tryz.prog 122 (Zeh n):=As Tryz.func122 rfl rfl (by decide) rfl Aa Ab (Ac Aa Ab (MT n) Ah) (Ad (fn:=Tryz.f122) (L:=Zfl n) (ks:=[.loop 2]) ⟨T7 n,trivial⟩ (by kernel_rfl) (by kernel_rfl)) (Xx n)
def BF:List (Nat×C):=[(2,.a 267),(6,.l 186),(7,.s 3),(8,.s 3)]
def Fo:List Wo:=[⟨.exit 0,[.a 267],[(2,.q 0)],[]⟩]
def Ef:List (Nat×C):=[(0,.g 32)]
def HB:List Wo:=[⟨.ret,[],[],[.v 267]⟩]
def BY:Nat→(List A1)→(List AJ)→Int→Int→Option ((List A1×Unit×Unit))
 | 0,_,_,_,_=>none
 | n+1,out,x6,x7,x8 =>
  bif decide (x8<x7) then((A6 x6 x8).bind fun v0 =>
  bif out.length.beq 6 then((A6 out x8).bind fun v1 =>
  (out.get?Internal x8.toNat).bind fun v2 =>
  BY n (out.set x8.toNat (A1.mk v0.off v0.row v0.used (-1))) x6 x7 (IntKind.i64.wrap (x8+1))) else
  none) else
  some (out,((),()))
def C1 (n:Nat) (y:C.Ds Ty (Af BF)):Option (YT Ty Fo):=BY n y.1 y.2.1 y.2.2.1 y.2.2.2.1
def Zc2 (n:Nat):St Ty→Tr (Lf Ty):=AZ BF 1 Fo (C1 n)
def FN (n:Nat) (w:Ar):Option ((List A1×Unit)) :=
 (BY n [A1.mk 0 0 0 0,A1.mk 0 0 0 0,A1.mk 0 0 0 0,A1.mk 0 0 0 0,A1.mk 0 0 0 0,A1.mk 0 0 0 0] w.drivers (↑w.drivers.length:Int) 0).bind fun v0 =>
 bif v0.fst.length.beq 6 then(bif v0.fst.length.beq 6 && v0.fst.length.beq 6 then(bif v0.fst.length.beq 6 then(some (v0.fst,())) else
 none) else
 none) else
 none
def MU (n:Nat) (y:C.Ds Ty (Af Ef)):Option (YT Ty HB):=FN n y.1
def Zdn (n:Nat):A9 Ty:=AA Ef 0 HB (MU n)
def Zcl (n:Nat):List (Nat×A9 Ty):=[]
theorem La (n:Nat):Ap Tryz.prog (Zcl n):=trivial
def ZcU (n:Nat):Az Ty:=[]
theorem Rk (n:Nat) (x:C.Ds Ty (Af BF)):(Ax Tryz.prog 24 (Am Tryz.prog (Zcl n) []) (Ae (ZcU n)) (Al 2 Tryz.f175) (Aw BF x)).runK (A3 1 BF Fo (C1 n))=C1 (n+1) x:=by kernel_rfl
theorem Rl (n:Nat):A5 true Tryz.prog 24 (Zc2 n) (.loop (Al 2 Tryz.f175)):=A4 fun x y hy=>At (Fn:=C1) Aa Ab (fun n=>Ac Aa Ab (La n) Ah) (fun h=>by cases h) (fun h=>by cases h) (fun n=>(Ad (fn:=Tryz.f175) (L:=ZcU n) (ks:=[]) trivial (by kernel_rfl) (by kernel_rfl))) (by decide) (fun _=>rfl) Rk hy
def Zei (n:Nat):Az Ty:=[(.loop 2,Zc2 n)]
theorem UU (n:Nat) (x:C.Ds Ty (Af Ef)):(Ax Tryz.prog 24 (Am Tryz.prog (Zcl n) []) (Ae (Zei n)) (Ao Tryz.f175) (Aw Ef x)).runK (Aq Tryz.prog Tryz.f175.results.toList 0 HB)=MU n x:=by kernel_rfl
theorem Rm (n:Nat):Au Tryz.prog 175 (Zdn n):=As Tryz.func175 rfl rfl (by decide) rfl Aa Ab (Ac Aa Ab (La n) Ah) (Ad (fn:=Tryz.f175) (L:=Zei n) (ks:=[.loop 2]) ⟨Rl n,trivial⟩ (by kernel_rfl) (by kernel_rfl)) (UU n)
def BN:List (Nat×C):=[(0,.l 3),(1,.s 3),(7,.s 3),(8,.s 3)]
def Gg:List Wo:=[⟨.exit 0,[],[],[]⟩,⟨.ret,[],[(4,.s 3)],[]⟩]
def EF:List (Nat×C):=[(0,.g 32),(1,.s 3),(2,.g 184),(3,.g 267)]
def I6:List Wo:=[⟨.ret,[],[],[.s 4]⟩]
def HC:Nat→(List Int)→Int→Int→Int→Option (Unit ⊕ ((Int×Unit)))
 | 0,_,_,_,_=>none
 | n+1,s,v,x7,x8 =>
  bif decide (x8<x7) then((A6 s x8).bind fun v0 =>
  bif decide (v=v0) then(some (.inr (x8,()))) else
  HC n s v x7 (IntKind.i64.wrap (x8+1))) else
  some (.inl ())
def CN (n:Nat) (y:C.Ds Ty (Af BN)):Option (YT Ty Gg):=HC n y.1 y.2.1 y.2.2.1 y.2.2.2.1
def ZbM (n:Nat):St Ty→Tr (Lf Ty):=AZ BN 0 Gg (CN n)
def DK (n:Nat) (w:Ar) (driver:Int) (d:AP) (_:A1):Option ((Bool×Unit)) :=
 (A6 w.drivers driver).bind fun v0 =>
 (HC n v0.knows d.route (↑v0.knows.length:Int) 0).bind fun v1 =>
 Sum.elim (fun v2=>some (decide (-1≥0),())) (fun v2=>some (decide (v2.fst≥0),())) (v1)
def NR (n:Nat) (y:C.Ds Ty (Af EF)):Option (YT Ty I6):=DK n y.1 y.2.1 y.2.2.1 y.2.2.2.1
def ZdC (n:Nat):A9 Ty:=AA EF 0 I6 (NR n)
def Zcy (n:Nat):List (Nat×A9 Ty):=[]
theorem LG (n:Nat):Ap Tryz.prog (Zcy n):=trivial
def Zdo (n:Nat):Az Ty:=[]
theorem Sz (n:Nat) (x:C.Ds Ty (Af BN)):(Ax Tryz.prog 19 (Am Tryz.prog (Zcy n) []) (Ae (Zdo n)) (Al 2 Tryz.f332) (Aw BN x)).runK (A3 0 BN Gg (CN n))=CN (n+1) x:=by kernel_rfl
theorem S0 (n:Nat):A5 true Tryz.prog 19 (ZbM n) (.loop (Al 2 Tryz.f332)):=A4 fun x y hy=>At (Fn:=CN) Aa Ab (fun n=>Ac Aa Ab (LG n) Ah) (fun h=>by cases h) (fun h=>by cases h) (fun n=>(Ad (fn:=Tryz.f332) (L:=Zdo n) (ks:=[]) trivial (by kernel_rfl) (by kernel_rfl))) (by decide) (fun _=>rfl) Sz hy
def Zej (n:Nat):YM Ty:=[(332,[(.loop 2,ZbM n)])]
theorem T9 (n:Nat):RC Tryz.prog (Zej n):=⟨JX (f:=332) Tryz.func332 rfl (Ad (fn:=Tryz.f332) (L:=[(.loop 2,ZbM n)]) (ks:=[.loop 2]) ⟨S0 n,trivial⟩ (by kernel_rfl) (by kernel_rfl)),trivial⟩
def ZeC (n:Nat):Az Ty:=[]
theorem Wn (n:Nat) (x:C.Ds Ty (Af EF)):(Ax Tryz.prog 18 (Am Tryz.prog (Zcy n) (Zej n)) (Ae (ZeC n)) (Ao Tryz.f238) (Aw EF x)).runK (Aq Tryz.prog Tryz.f238.results.toList 0 I6)=NR n x:=by kernel_rfl
theorem S1 (n:Nat):Au Tryz.prog 238 (ZdC n):=As Tryz.func238 rfl rfl (by decide) rfl Aa Ab (Ac Aa Ab (LG n) (T9 n)) (Ad (fn:=Tryz.f238) (L:=ZeC n) (ks:=[]) trivial (by kernel_rfl) (by kernel_rfl)) (Wn n)
def BZ:List (Nat×C):=[(0,.l 3),(1,.s 3),(7,.s 3),(8,.s 3)]
def GK:List Wo:=[⟨.exit 0,[],[],[]⟩,⟨.ret,[],[(4,.s 3)],[]⟩]
def FO:List (Nat×C):=[(0,.g 32),(1,.s 3),(2,.g 184),(3,.g 267)]
def JC:List Wo:=[⟨.ret,[],[],[.s 4]⟩]
def I7:Nat→(List Int)→Int→Int→Int→Option (Unit ⊕ ((Int×Unit)))
 | 0,_,_,_,_=>none
 | n+1,s,v,x7,x8 =>
  bif decide (x8<x7) then((A6 s x8).bind fun v0 =>
  bif decide (v=v0) then(some (.inr (x8,()))) else
  I7 n s v x7 (IntKind.i64.wrap (x8+1))) else
  some (.inl ())
def D0 (n:Nat) (y:C.Ds Ty (Af BZ)):Option (YT Ty GK):=I7 n y.1 y.2.1 y.2.2.1 y.2.2.2.1
def ZbU (n:Nat):St Ty→Tr (Lf Ty):=AZ BZ 0 GK (D0 n)
def EG (n:Nat) (w:Ar) (driver:Int) (d:AP) (_:A1):Option ((Bool×Unit)) :=
 (A6 w.drivers driver).bind fun v0 =>
 (I7 n v0.leave d.day (↑v0.leave.length:Int) 0).bind fun v1 =>
 Sum.elim (fun v2=>some (!decide (-1≥0),())) (fun v2=>some (!decide (v2.fst≥0),())) (v1)
def OE (n:Nat) (y:C.Ds Ty (Af FO)):Option (YT Ty JC):=EG n y.1 y.2.1 y.2.2.1 y.2.2.2.1
def Zek (n:Nat):A9 Ty:=AA FO 0 JC (OE n)
def Zc9 (n:Nat):List (Nat×A9 Ty):=[]
theorem MV (n:Nat):Ap Tryz.prog (Zc9 n):=trivial
def ZdD (n:Nat):Az Ty:=[]
theorem TA (n:Nat) (x:C.Ds Ty (Af BZ)):(Ax Tryz.prog 19 (Am Tryz.prog (Zc9 n) []) (Ae (ZdD n)) (Al 2 Tryz.f332) (Aw BZ x)).runK (A3 0 BZ GK (D0 n))=D0 (n+1) x:=by kernel_rfl
theorem TC (n:Nat):A5 true Tryz.prog 19 (ZbU n) (.loop (Al 2 Tryz.f332)):=A4 fun x y hy=>At (Fn:=D0) Aa Ab (fun n=>Ac Aa Ab (MV n) Ah) (fun h=>by cases h) (fun h=>by cases h) (fun n=>(Ad (fn:=Tryz.f332) (L:=ZdD n) (ks:=[]) trivial (by kernel_rfl) (by kernel_rfl))) (by decide) (fun _=>rfl) TA hy
def ZeD (n:Nat):YM Ty:=[(332,[(.loop 2,ZbU n)])]
theorem UW (n:Nat):RC Tryz.prog (ZeD n):=⟨JX (f:=332) Tryz.func332 rfl (Ad (fn:=Tryz.f332) (L:=[(.loop 2,ZbU n)]) (ks:=[.loop 2]) ⟨TC n,trivial⟩ (by kernel_rfl) (by kernel_rfl)),trivial⟩
def Zfm (n:Nat):Az Ty:=[]
theorem Xy (n:Nat) (x:C.Ds Ty (Af FO)):(Ax Tryz.prog 19 (Am Tryz.prog (Zc9 n) (ZeD n)) (Ae (Zfm n)) (Ao Tryz.f239) (Aw FO x)).runK (Aq Tryz.prog Tryz.f239.results.toList 0 JC)=OE n x:=by kernel_rfl
theorem TE (n:Nat):Au Tryz.prog 239 (Zek n):=As Tryz.func239 rfl rfl (by decide) rfl Aa Ab (Ac Aa Ab (MV n) (UW n)) (Ad (fn:=Tryz.f239) (L:=Zfm n) (ks:=[]) trivial (by kernel_rfl) (by kernel_rfl)) (Xy n)
def Eg:List (Nat×C):=[(0,.g 32),(1,.s 3),(2,.g 184),(3,.g 267)]
def HD:List Wo:=[⟨.ret,[],[],[.s 4]⟩]
def FP (n:Nat) (w:Ar) (_:Int) (d:AP) (s:A1):Option ((Bool×Unit)) :=
 some (s.day != d.day,())
def MW (n:Nat) (y:C.Ds Ty (Af Eg)):Option (YT Ty HD):=FP n y.1 y.2.1 y.2.2.1 y.2.2.2.1
def Zdp (n:Nat):A9 Ty:=AA Eg 0 HD (MW n)
def Zel (n:Nat):List (Nat×A9 Ty):=[]
theorem TF (n:Nat):Ap Tryz.prog (Zel n):=trivial
def Zem (n:Nat):Az Ty:=[]
theorem UX (n:Nat) (x:C.Ds Ty (Af Eg)):(Ax Tryz.prog 14 (Am Tryz.prog (Zel n) []) (Ae (Zem n)) (Ao Tryz.f240) (Aw Eg x)).runK (Aq Tryz.prog Tryz.f240.results.toList 0 HD)=MW n x:=by kernel_rfl
theorem Rn (n:Nat):Au Tryz.prog 240 (Zdp n):=As Tryz.func240 rfl rfl (by decide) rfl Aa Ab (Ac Aa Ab (TF n) Ah) (Ad (fn:=Tryz.f240) (L:=Zem n) (ks:=[]) trivial (by kernel_rfl) (by kernel_rfl)) (UX n)
def Eh:List (Nat×C):=[(0,.g 32),(1,.s 3),(2,.g 184),(3,.g 267)]
def HE:List Wo:=[⟨.ret,[],[],[.s 4]⟩]
def De (n:Nat) (w:Ar) (_:Int) (d:AP) (s:A1):Option ((Bool×Unit)) :=
 bif !decide (s.day=d.day) then(some (decide (IntKind.i64.wrap (IntKind.i64.wrap (IntKind.i64.wrap (d.day*1440)+d.on)-s.free)≥w.rest),())) else
 some (true,())
def MX (n:Nat) (y:C.Ds Ty (Af Eh)):Option (YT Ty HE):=De n y.1 y.2.1 y.2.2.1 y.2.2.2.1
def Zdq (n:Nat):A9 Ty:=AA Eh 0 HE (MX n)
def Zen (n:Nat):List (Nat×A9 Ty):=[]
theorem TG (n:Nat):Ap Tryz.prog (Zen n):=trivial
def Zeo (n:Nat):Az Ty:=[]
theorem UY (n:Nat) (x:C.Ds Ty (Af Eh)):(Ax Tryz.prog 28 (Am Tryz.prog (Zen n) []) (Ae (Zeo n)) (Ao Tryz.f241) (Aw Eh x)).runK (Aq Tryz.prog Tryz.f241.results.toList 0 HE)=MX n x:=by kernel_rfl
theorem Ro (n:Nat):Au Tryz.prog 241 (Zdq n):=As Tryz.func241 rfl rfl (by decide) rfl Aa Ab (Ac Aa Ab (TG n) Ah) (Ad (fn:=Tryz.f241) (L:=Zeo n) (ks:=[]) trivial (by kernel_rfl) (by kernel_rfl)) (UY n)
def EH:List (Nat×C):=[(0,.g 267),(1,.g 184),(2,.s 3)]
def I8:List Wo:=[⟨.ret,[],[],[.g 267]⟩]
def DL (n:Nat) (s:A1) (d:AP) (end_:Int):Option ((A1×Unit)) :=
 bif decide (s.day=d.day) then(some (A1.mk s.free s.row (IntKind.i64.wrap (s.used+IntKind.i64.wrap (end_-d.on))) s.day,())) else
 bif s.day != IntKind.i64.wrap (d.day-1) then(some (A1.mk (IntKind.i64.wrap (IntKind.i64.wrap (d.day*1440)+end_)) (IntKind.i64.wrap (0+1)) (IntKind.i64.wrap (s.used+IntKind.i64.wrap (end_-d.on))) d.day,())) else
 some (A1.mk (IntKind.i64.wrap (IntKind.i64.wrap (d.day*1440)+end_)) (IntKind.i64.wrap (s.row+1)) (IntKind.i64.wrap (s.used+IntKind.i64.wrap (end_-d.on))) d.day,())
def NS (n:Nat) (y:C.Ds Ty (Af EH)):Option (YT Ty I8):=DL n y.1 y.2.1 y.2.2.1
def Zcf (n:Nat):A9 Ty:=AA EH 0 I8 (NS n)
def ZeE (n:Nat):List (Nat×A9 Ty):=[]
theorem UZ (n:Nat):Ap Tryz.prog (ZeE n):=trivial
def ZeF (n:Nat):Az Ty:=[]
theorem Wp (n:Nat) (x:C.Ds Ty (Af EH)):(Ax Tryz.prog 42 (Am Tryz.prog (ZeE n) []) (Ae (ZeF n)) (Ao Tryz.f178) (Aw EH x)).runK (Aq Tryz.prog Tryz.f178.results.toList 0 I8)=NS n x:=by kernel_rfl
theorem JS (n:Nat):Au Tryz.prog 178 (Zcf n):=As Tryz.func178 rfl rfl (by decide) rfl Aa Ab (Ac Aa Ab (UZ n) Ah) (Ad (fn:=Tryz.f178) (L:=ZeF n) (ks:=[]) trivial (by kernel_rfl) (by kernel_rfl)) (Wp n)
def EI:List (Nat×C):=[(0,.g 32),(1,.s 3),(2,.g 184),(3,.g 267)]
def I9:List Wo:=[⟨.ret,[],[],[.s 4]⟩]
def DM (n:Nat) (w:Ar) (_:Int) (d:AP) (s:A1):Option ((Bool×Unit)) :=
 bif !decide (s.day=d.day) then((DL n s d d.on).bind fun v0 =>
 some (decide (v0.fst.row≤w.run),())) else
 some (true,())
def NT (n:Nat) (y:C.Ds Ty (Af EI)):Option (YT Ty I9):=DM n y.1 y.2.1 y.2.2.1 y.2.2.2.1
def ZdE (n:Nat):A9 Ty:=AA EI 0 I9 (NT n)
def ZeG (n:Nat):List (Nat×A9 Ty):=[(178,Zcf n)]
theorem Va (n:Nat):Ap Tryz.prog (ZeG n):=⟨JS n,trivial⟩
def ZeH (n:Nat):Az Ty:=[]
theorem Wq (n:Nat) (x:C.Ds Ty (Af EI)):(Ax Tryz.prog 25 (Am Tryz.prog (ZeG n) []) (Ae (ZeH n)) (Ao Tryz.f242) (Aw EI x)).runK (Aq Tryz.prog Tryz.f242.results.toList 0 I9)=NT n x:=by kernel_rfl
theorem S2 (n:Nat):Au Tryz.prog 242 (ZdE n):=As Tryz.func242 rfl rfl (by decide) rfl Aa Ab (Ac Aa Ab (Va n) Ah) (Ad (fn:=Tryz.f242) (L:=ZeH n) (ks:=[]) trivial (by kernel_rfl) (by kernel_rfl)) (Wq n)
def BG:List (Nat×C):=[(3,.u 32),(5,.p [.l 3]),(6,.p [.o 280]),(7,.a 267),(9,.s 3),(10,.u 184),(11,.s 3),(33,.o 278),(34,.s 3),(35,.s 3)]
def Fq:List Wo:=[⟨.exit 4,[.u 32,.p [.l 3],.p [.o 280],.a 267,.u 184],[(5,.q 1),(7,.q 3),(9,.s 3),(10,.q 4),(11,.s 3)],[]⟩]
def BH:List (Nat×C):=[(0,.y 0 121 [3,4,5,6,7] [.u 32,.p [.l 3],.p [.l 3],.p [.o 280],.a 267]),(2,.p [.s 3]),(7,.l 184),(8,.s 3),(9,.s 3)]
def Fs:List Wo:=[⟨.exit 0,[.y 0 121 [3,4,5,6,7] [.u 32,.p [.l 3],.p [.l 3],.p [.o 280],.a 267],.q 1,.q 2,.q 3,.q 4,.q 5,.p [.s 3]],[],[]⟩,⟨.ret,[.y 0 121 [3,4,5,6,7] [.u 32,.p [.l 3],.p [.l 3],.p [.o 280],.a 267],.q 1,.q 2,.q 3,.q 4,.q 5,.p [.s 3]],[],[]⟩]
def BI:List (Nat×C):=[(3,.u 32),(4,.p [.l 3]),(5,.p [.l 3]),(6,.p [.o 280]),(7,.a 267),(18,.s 3),(19,.s 3)]
def Ft:List Wo:=[⟨.exit 0,[.u 32,.p [.l 3],.p [.l 3],.p [.o 280],.a 267],[(3,.q 0),(6,.q 3),(7,.q 4)],[]⟩]
def BJ:List (Nat×C):=[(3,.u 32),(6,.p [.o 280]),(7,.a 267),(72,.s 3),(73,.s 3)]
def Fu:List Wo:=[⟨.exit 6,[.u 32,.p [.o 280],.a 267],[(6,.q 1)],[]⟩]
def Ei:List (Nat×C):=[(0,.g 32),(1,.l 3),(2,.l 3)]
def HF:List Wo:=[⟨.ret,[],[],[.o 280]⟩]
def Ai:Nat→Ar→(List Int)→(List Ay)→(List A1)→Int→AP→Int→(List Bb)→Int→Int→Option ((Ar×(List Int×Unit)×(List Ay×Unit)×List A1×AP×Unit×Unit×Int×Unit×Int×Unit))
 | 0,_,_,_,_,_,_,_,_,_,_=>none
 | n+1,w,truth,out,now,i,d,k,x33,x34,x35 =>
  bif decide (x35<x34) then((A6 x33 x35).bind fun v0 =>
  (x33.get?Internal x35.toNat).bind fun v1 =>
  bif now.length.beq 6 then((A6 now k).bind fun v2 =>
  (now.get?Internal k.toNat).bind fun v3 =>
  bif decide (v1.holds.f=(↑238:Int)) then((DK n w k d v3).bind fun v4 =>
  bif !v4.fst then((app out [Ay.mk v1.kind k i]).bind fun v5 =>
  Ai n w truth v5 now i d k x33 x34 (IntKind.i64.wrap (x35+1))) else
  Ai n w truth out now i d k x33 x34 (IntKind.i64.wrap (x35+1))) else
  bif decide (v1.holds.f=(↑239:Int)) then((EG n w k d v3).bind fun v4 =>
  bif !v4.fst then((app out [Ay.mk v1.kind k i]).bind fun v5 =>
  Ai n w truth v5 now i d k x33 x34 (IntKind.i64.wrap (x35+1))) else
  Ai n w truth out now i d k x33 x34 (IntKind.i64.wrap (x35+1))) else
  bif decide (v1.holds.f=(↑240:Int)) then((FP n w k d v3).bind fun v4 =>
  bif !v4.fst then((app out [Ay.mk v1.kind k i]).bind fun v5 =>
  Ai n w truth v5 now i d k x33 x34 (IntKind.i64.wrap (x35+1))) else
  Ai n w truth out now i d k x33 x34 (IntKind.i64.wrap (x35+1))) else
  bif decide (v1.holds.f=(↑241:Int)) then((De n w k d v3).bind fun v4 =>
  bif !v4.fst then((app out [Ay.mk v1.kind k i]).bind fun v5 =>
  Ai n w truth v5 now i d k x33 x34 (IntKind.i64.wrap (x35+1))) else
  Ai n w truth out now i d k x33 x34 (IntKind.i64.wrap (x35+1))) else
  bif decide (v1.holds.f=(↑242:Int)) then((DM n w k d v3).bind fun v4 =>
  bif !v4.fst then((app out [Ay.mk v1.kind k i]).bind fun v5 =>
  Ai n w truth v5 now i d k x33 x34 (IntKind.i64.wrap (x35+1))) else
  Ai n w truth out now i d k x33 x34 (IntKind.i64.wrap (x35+1))) else
  none) else
  none) else
  some (w,((truth,()),((out,()),(now,(d,((),((),(i,((),(k,()))))))))))
def C2 (n:Nat) (y:C.Ds Ty (Af BG)):Option (YT Ty Fq):=Ai n y.1 y.2.1.1 y.2.2.1.1 y.2.2.2.1 y.2.2.2.2.1 y.2.2.2.2.2.1 y.2.2.2.2.2.2.1 y.2.2.2.2.2.2.2.1 y.2.2.2.2.2.2.2.2.1 y.2.2.2.2.2.2.2.2.2.1
def Zc3 (n:Nat):St Ty→Tr (Lf Ty):=AZ BG 5 Fq (C2 n)
def Bj:Nat→Ar→(List Int)→(List Int)→(List Ay)→(List A1)→Int→(List AP)→Int→Int→Option (((Ar×(List Int×Unit)×(List Int×Unit)×(List Ay×Unit)×List A1×Unit)×Unit×Unit×Unit×Unit×Unit×(Int×Unit)×Unit) ⊕ (((Ar×(List Int×Unit)×(List Int×Unit)×(List Ay×Unit)×List A1×Unit)×Unit×Unit×Unit×Unit×Unit×(Int×Unit)×Unit)))
 | 0,_,_,_,_,_,_,_,_,_=>none
 | n+1,yield1,yield2,yield3,yield4,yield5,x2,x7,x8,x9 =>
  bif decide (x9<x8) then((A6 x7 x9).bind fun v0 =>
  bif decide (v0.day=x2) then((A6 yield2 x9).bind fun v1 =>
  bif decide (v1=-1) then(Bj n yield1 yield2 yield3 yield4 yield5 x2 x7 x8 (IntKind.i64.wrap (x9+1))) else
  (Ai n yield1 yield3 yield4 yield5 x9 v0 v1 [Bb.mk (IK.mk 0) (Fp.mk (↑238:Int)),Bb.mk (IK.mk 1) (Fp.mk (↑239:Int)),Bb.mk (IK.mk 2) (Fp.mk (↑240:Int)),Bb.mk (IK.mk 3) (Fp.mk (↑241:Int)),Bb.mk (IK.mk 4) (Fp.mk (↑242:Int))] (↑[Bb.mk (IK.mk 0) (Fp.mk (↑238:Int)),Bb.mk (IK.mk 1) (Fp.mk (↑239:Int)),Bb.mk (IK.mk 2) (Fp.mk (↑240:Int)),Bb.mk (IK.mk 3) (Fp.mk (↑241:Int)),Bb.mk (IK.mk 4) (Fp.mk (↑242:Int))].length:Int) 0).bind fun v2 =>
  bif v2.snd.snd.snd.fst.length.beq 6 then((A6 v2.snd.snd.snd.fst v2.snd.snd.snd.snd.snd.snd.snd.snd.snd.fst).bind fun v3 =>
  (v2.snd.snd.snd.fst.get?Internal v2.snd.snd.snd.snd.snd.snd.snd.snd.snd.fst.toNat).bind fun v4 =>
  (A6 v2.snd.fst.fst v2.snd.snd.snd.snd.snd.snd.snd.fst).bind fun v5 =>
  (DL n v4 v2.snd.snd.snd.snd.fst v5).bind fun v6 =>
  bif v2.snd.snd.snd.fst.length.beq 6 then((A6 v2.snd.snd.snd.fst v2.snd.snd.snd.snd.snd.snd.snd.snd.snd.fst).bind fun v7 =>
  (v2.snd.snd.snd.fst.get?Internal v2.snd.snd.snd.snd.snd.snd.snd.snd.snd.fst.toNat).bind fun v8 =>
  Bj n v2.fst yield2 v2.snd.fst.fst v2.snd.snd.fst.fst (v2.snd.snd.snd.fst.set v2.snd.snd.snd.snd.snd.snd.snd.snd.snd.fst.toNat v6.fst) x2 x7 x8 (IntKind.i64.wrap (x9+1))) else
  none) else
  none) else
  Bj n yield1 yield2 yield3 yield4 yield5 x2 x7 x8 (IntKind.i64.wrap (x9+1))) else
  some (.inl ((yield1,((yield2,()),((yield3,()),((yield4,()),(yield5,()))))),((),((),((),((),((),((x2,()),()))))))))
def C3 (n:Nat) (y:C.Ds Ty (Af BH)):Option (YT Ty Fs):=Bj n y.1.1 y.1.2.1.1 y.1.2.2.1.1 y.1.2.2.2.1.1 y.1.2.2.2.2.1 y.2.1.1 y.2.2.1 y.2.2.2.1 y.2.2.2.2.1
def ZbI (n:Nat):St Ty→Tr (Lf Ty):=AZ BH 7 Fs (C3 n)
def Bk:Nat→Ar→(List Int)→(List Int)→(List Ay)→(List A1)→Int→Int→Option ((Ar×(List Int×Unit)×(List Int×Unit)×(List Ay×Unit)×List A1×Unit×Unit×Unit×Unit))
 | 0,_,_,_,_,_,_,_=>none
 | n+1,w,roster,truth,out,now,x18,x19 =>
  bif decide (x19<x18) then((Bj n w roster truth out now x19 w.duties (↑w.duties.length:Int) 0).bind fun v0 =>
  Sum.elim (fun v1=>Bk n v1.fst.fst v1.fst.snd.fst.fst v1.fst.snd.snd.fst.fst v1.fst.snd.snd.snd.fst.fst v1.fst.snd.snd.snd.snd.fst x18 (IntKind.i64.wrap (x19+1))) (fun v1=>Bk n v1.fst.fst v1.fst.snd.fst.fst v1.fst.snd.snd.fst.fst v1.fst.snd.snd.snd.fst.fst v1.fst.snd.snd.snd.snd.fst x18 (IntKind.i64.wrap (x19+1))) (v0)) else
  some (w,((roster,()),((truth,()),((out,()),(now,((),((),((),()))))))))
def C4 (n:Nat) (y:C.Ds Ty (Af BI)):Option (YT Ty Ft):=Bk n y.1 y.2.1.1 y.2.2.1.1 y.2.2.2.1.1 y.2.2.2.2.1 y.2.2.2.2.2.1 y.2.2.2.2.2.2.1
def Zc4 (n:Nat):St Ty→Tr (Lf Ty):=AZ BI 5 Ft (C4 n)
def Bl:Nat→Ar→(List Ay)→(List A1)→Int→Int→Option ((Ar×(List Ay×Unit)×List A1×Unit×Unit))
 | 0,_,_,_,_,_=>none
 | n+1,w,out,now,x72,x73 =>
  bif decide (x73<x72) then(bif now.length.beq 6 then((A6 now x73).bind fun v0 =>
  (now.get?Internal x73.toNat).bind fun v1 =>
  bif decide (v1.used>w.hours) then((app out [Ay.mk (IK.mk 5) x73 0]).bind fun v2 =>
  Bl n w v2 now x72 (IntKind.i64.wrap (x73+1))) else
  Bl n w out now x72 (IntKind.i64.wrap (x73+1))) else
  none) else
  some (w,((out,()),(now,((),()))))
def C5 (n:Nat) (y:C.Ds Ty (Af BJ)):Option (YT Ty Fu):=Bl n y.1 y.2.1.1 y.2.2.1 y.2.2.2.1 y.2.2.2.2.1
def Zc5 (n:Nat):St Ty→Tr (Lf Ty):=AZ BJ 3 Fu (C5 n)
def FQ (n:Nat) (w:Ar) (roster:List Int) (truth:List Int):Option ((List Ay×Unit)) :=
 (FN n w).bind fun v0 =>
 bif [A1.mk 0 0 0 0,A1.mk 0 0 0 0,A1.mk 0 0 0 0,A1.mk 0 0 0 0,A1.mk 0 0 0 0,A1.mk 0 0 0 0].length.beq 6 && v0.fst.length.beq 6 then((Bk n w roster truth [] v0.fst w.days 0).bind fun v1 =>
 (Bl n v1.fst v1.snd.snd.snd.fst.fst v1.snd.snd.snd.snd.fst (↑v1.fst.drivers.length:Int) 0).bind fun v2 =>
 (Am2 v2.snd.fst.fst).bind fun v3 =>
 some (v3,())) else
 none
def MY (n:Nat) (y:C.Ds Ty (Af Ei)):Option (YT Ty HF):=FQ n y.1 y.2.1 y.2.2.1
def Zdr (n:Nat):A9 Ty:=AA Ei 0 HF (MY n)
def Zb2 (n:Nat):List (Nat×A9 Ty):=[(175,Zdn n),(238,ZdC n),(239,Zek n),(240,Zdp n),(241,Zdq n),(242,ZdE n),(178,Zcf n),(179,Zla n)]
theorem Bv (n:Nat):Ap Tryz.prog (Zb2 n):=⟨Rm n,⟨S1 n,⟨TE n,⟨Rn n,⟨Ro n,⟨S2 n,⟨JS n,⟨Aqe n,trivial⟩⟩⟩⟩⟩⟩⟩⟩
def ZcV (n:Nat):Az Ty:=[]
theorem Rp (n:Nat) (x:C.Ds Ty (Af BG)):(Ax Tryz.prog 92 (Ayz (Am Tryz.prog (Zb2 n) [])) (Ae (ZcV n)) (Al 11 Tryz.f121) (Aw BG x)).runK (A3 5 BG Fq (C2 n))=C2 (n+1) x:=by kernel_rfl
theorem Rq (n:Nat):A5 false Tryz.prog 92 (Zc3 n) (.loop (Al 11 Tryz.f121)):=A4 fun x y hy=>At (Fn:=C2) Aa Ab (fun n=>Arp (Ac Aa Ab (Bv n) Ah)) (fun _ _=>Ajp) (fun _=>by kernel_rfl) (fun n=>(Ad (fn:=Tryz.f121) (L:=ZcV n) (ks:=[]) trivial (by kernel_rfl) (by kernel_rfl))) (by decide) (fun _=>rfl) Rp hy
def Zep (n:Nat):Az Ty:=[(.loop 11,Zc3 n)]
def Zcm (n:Nat):List (Nat×A9 Ty):=(AB,Azw Tryz.prog (Am Tryz.prog (Zb2 n) []) (Ae []) (Ae (Zep n)) 121)::Zb2 n
theorem Lb (n:Nat):Ap Tryz.prog (Zcm n):=⟨Awf Aa Ab (Ac Aa Ab (Bv n) Ah) (fun _ _ _ h=>by cases h) (Ad (fn:=Tryz.f121) (c:=(RFs.rf 121).body) (N:=(RFs.rf 121).n) (L:=Zep n) (ks:=[.loop 11]) ⟨Rq n,trivial⟩ (by kernel_rfl) (by kernel_rfl)),Bv n⟩
def ZcW (n:Nat):Az Ty:=[]
theorem Rr (n:Nat) (x:C.Ds Ty (Af BH)):(Ax Tryz.prog 26 (Am Tryz.prog (Zcm n) []) (Ae (ZcW n)) (Al 1 Tryz.f237) (Aw BH x)).runK (A3 7 BH Fs (C3 n))=C3 (n+1) x:=by kernel_rfl
theorem Rs (n:Nat):A5 true Tryz.prog 26 (ZbI n) (.loop (Al 1 Tryz.f237)):=A4 fun x y hy=>At (Fn:=C3) Aa Ab (fun n=>Ac Aa Ab (Lb n) Ah) (fun h=>by cases h) (fun h=>by cases h) (fun n=>(Ad (fn:=Tryz.f237) (L:=ZcW n) (ks:=[]) trivial (by kernel_rfl) (by kernel_rfl))) (by decide) (fun _=>rfl) Rr hy
def Zeq (n:Nat):YM Ty:=[(237,[(.loop 1,ZbI n)])]
theorem TH (n:Nat):RC Tryz.prog (Zeq n):=⟨JX (f:=237) Tryz.func237 rfl (Ad (fn:=Tryz.f237) (L:=[(.loop 1,ZbI n)]) (ks:=[.loop 1]) ⟨Rs n,trivial⟩ (by kernel_rfl) (by kernel_rfl)),trivial⟩
def ZdF (n:Nat):St Ty→Tr (Lf Ty):=Azm Tryz.prog (Am Tryz.prog (Zcm n) (Zeq n)) (.tmp 24) 121 [3,4,5,6,7]
theorem S3 (n:Nat):A5 true Tryz.prog 92 (ZdF n) (PO (.rf 8) Tryz.f121):=Awm (Ac Aa Ab (Lb n) (TH n)) (by kernel_rfl) (by kernel_rfl)
def ZcX (n:Nat):Az Ty:=[(.rf 8,ZdF n)]
theorem Rt (n:Nat) (x:C.Ds Ty (Af BI)):(Ax Tryz.prog 92 (Am Tryz.prog (Zb2 n) []) (Ae (ZcX n)) (Al 3 Tryz.f121) (Aw BI x)).runK (A3 5 BI Ft (C4 n))=C4 (n+1) x:=by kernel_rfl
theorem Ru (n:Nat):A5 true Tryz.prog 92 (Zc4 n) (.loop (Al 3 Tryz.f121)):=A4 fun x y hy=>At (Fn:=C4) Aa Ab (fun n=>Ac Aa Ab (Bv n) Ah) (fun h=>by cases h) (fun h=>by cases h) (fun n=>(Ad (fn:=Tryz.f121) (L:=ZcX n) (ks:=[.rf 8]) ⟨S3 n,trivial⟩ (by kernel_rfl) (by kernel_rfl))) (by decide) (fun _=>rfl) Rt hy
def ZcY (n:Nat):Az Ty:=[]
theorem Rv (n:Nat) (x:C.Ds Ty (Af BJ)):(Ax Tryz.prog 92 (Am Tryz.prog (Zb2 n) []) (Ae (ZcY n)) (Al 19 Tryz.f121) (Aw BJ x)).runK (A3 3 BJ Fu (C5 n))=C5 (n+1) x:=by kernel_rfl
theorem Rw (n:Nat):A5 true Tryz.prog 92 (Zc5 n) (.loop (Al 19 Tryz.f121)):=A4 fun x y hy=>At (Fn:=C5) Aa Ab (fun n=>Ac Aa Ab (Bv n) Ah) (fun h=>by cases h) (fun h=>by cases h) (fun n=>(Ad (fn:=Tryz.f121) (L:=ZcY n) (ks:=[]) trivial (by kernel_rfl) (by kernel_rfl))) (by decide) (fun _=>rfl) Rv hy
def Zer (n:Nat):Az Ty:=[(.loop 3,Zc4 n),(.loop 19,Zc5 n)]
theorem Vb (n:Nat) (x:C.Ds Ty (Af Ei)):(Ax Tryz.prog 92 (Am Tryz.prog (Zb2 n) []) (Ae (Zer n)) (Ao Tryz.f121) (Aw Ei x)).runK (Aq Tryz.prog Tryz.f121.results.toList 0 HF)=MY n x:=by kernel_rfl
theorem Rx (n:Nat):Au Tryz.prog 121 (Zdr n):=As Tryz.func121 rfl rfl (by decide) rfl Aa Ab (Ac Aa Ab (Bv n) Ah) (Ad (fn:=Tryz.f121) (L:=Zer n) (ks:=[.loop 3,.loop 19]) ⟨Ru n,⟨Rw n,trivial⟩⟩ (by kernel_rfl) (by kernel_rfl)) (Vb n)
def EJ:List (Nat×C):=[(0,.g 32),(1,.l 3)]
def IA:List Wo:=[⟨.ret,[],[],[.s 4]⟩]
def GL (n:Nat) (w:Ar) (roster:List Int):Option ((Bool×Unit)) :=
 (HU n w).bind fun v0 =>
 (FQ n w roster v0.fst).bind fun v1 =>
 some (decide ((↑v1.fst.length:Int)=0),())
def NU (n:Nat) (y:C.Ds Ty (Af EJ)):Option (YT Ty IA):=GL n y.1 y.2.1
def ZdG (n:Nat):A9 Ty:=CG (AA EJ 0 IA (NU n))
def ZeI (n:Nat):List (Nat×A9 Ty):=[(122,Zeh n),(121,Zdr n)]
theorem Vc (n:Nat):Ap Tryz.prog (ZeI n):=⟨T8 n,⟨Rx n,trivial⟩⟩
def ZeJ (n:Nat):Az Ty:=[]
theorem Wr (n:Nat) (x:C.Ds Ty (Af EJ)):(Ax Tryz.prog 12 (Am Tryz.prog (ZeI n) []) (Ae (ZeJ n)) (Ao Tryz.f73) (Aw EJ x)).runK (Aq Tryz.prog Tryz.f73.results.toList 0 IA)=NU n x:=by kernel_rfl
theorem S4 (n:Nat):Au Tryz.prog 73 (ZdG n):=AS (As Tryz.func73 rfl rfl (by decide) rfl Aa Ab (Ac Aa Ab (Vc n) Ah) (Ad (fn:=Tryz.f73) (L:=ZeJ n) (ks:=[]) trivial (by kernel_rfl) (by kernel_rfl)) (Wr n))
def Df:List (Nat×C):=[(2,.s 3),(5,.l 3),(6,.s 3),(7,.s 3)]
def JD:List Wo:=[⟨.exit 0,[],[(2,.s 3)],[]⟩]
def Jb:List (Nat×C):=[(0,.l 3)]
def Nr:List Wo:=[⟨.ret,[],[],[.s 3]⟩]
def CO:Nat→Int→(List Int)→Int→Int→Option ((Int×Unit))
 | 0,_,_,_,_=>none
 | n+1,n_,x5,x6,x7 =>
  bif decide (x7<x6) then((A6 x5 x7).bind fun v0 =>
  bif v0 != -1 then(CO n (IntKind.i64.wrap (n_+1)) x5 x6 (IntKind.i64.wrap (x7+1))) else
  CO n n_ x5 x6 (IntKind.i64.wrap (x7+1))) else
  some (n_,())
def FR (n:Nat) (y:C.Ds Ty (Af Df)):Option (YT Ty JD):=CO n y.1 y.2.1 y.2.2.1 y.2.2.2.1
def Zes (n:Nat):St Ty→Tr (Lf Ty):=AZ Df 0 JD (FR n)
def LH (n:Nat) (roster:List Int):Option ((Int×Unit)) :=
 (CO n 0 roster (↑roster.length:Int) 0).bind fun v0 =>
 some (v0.fst,())
def TI (n:Nat) (y:C.Ds Ty (Af Jb)):Option (YT Ty Nr):=LH n y.1
def ZfW (n:Nat):A9 Ty:=CG (AA Jb 0 Nr (TI n))
def ZdO (n:Nat):List (Nat×A9 Ty):=[]
theorem Ql (n:Nat):Ap Tryz.prog (ZdO n):=trivial
def Zfn (n:Nat):Az Ty:=[]
theorem Xz (n:Nat) (x:C.Ds Ty (Af Df)):(Ax Tryz.prog 17 (Am Tryz.prog (ZdO n) []) (Ae (Zfn n)) (Al 2 Tryz.f74) (Aw Df x)).runK (A3 0 Df JD (FR n))=FR (n+1) x:=by kernel_rfl
theorem X1 (n:Nat):A5 true Tryz.prog 17 (Zes n) (.loop (Al 2 Tryz.f74)):=A4 fun x y hy=>At (Fn:=FR) Aa Ab (fun n=>Ac Aa Ab (Ql n) Ah) (fun h=>by cases h) (fun h=>by cases h) (fun n=>(Ad (fn:=Tryz.f74) (L:=Zfn n) (ks:=[]) trivial (by kernel_rfl) (by kernel_rfl))) (by decide) (fun _=>rfl) Xz hy
def Zhq (n:Nat):Az Ty:=[(.loop 2,Zes n)]
theorem Ac3 (n:Nat) (x:C.Ds Ty (Af Jb)):(Ax Tryz.prog 17 (Am Tryz.prog (ZdO n) []) (Ae (Zhq n)) (Ao Tryz.f74) (Aw Jb x)).runK (Aq Tryz.prog Tryz.f74.results.toList 0 Nr)=TI n x:=by kernel_rfl
theorem X2 (n:Nat):Au Tryz.prog 74 (ZfW n):=AS (As Tryz.func74 rfl rfl (by decide) rfl Aa Ab (Ac Aa Ab (Ql n) Ah) (Ad (fn:=Tryz.f74) (L:=Zhq n) (ks:=[.loop 2]) ⟨X1 n,trivial⟩ (by kernel_rfl) (by kernel_rfl)) (Ac3 n))
def Ej:List (Nat×C):=[(0,.g 32),(1,.l 3),(2,.s 3)]
def HG:List Wo:=[⟨.ret,[],[],[.s 4]⟩]
def Dg (n:Nat) (w:Ar) (roster:List Int) (least:Int):Option ((Bool×Unit)) :=
 (CM n w).bind fun v0 =>
 bif decide (v0.fst=0) then((FL n w roster).bind fun v1 =>
 bif v1.fst then((GL n w roster).bind fun v2 =>
 bif v2.fst then((LH n roster).bind fun v3 =>
 some (decide (v3.fst≥least),())) else
 some (false,())) else
 some (false,())) else
 some (false,())
def MZ (n:Nat) (y:C.Ds Ty (Af Ej)):Option (YT Ty HG):=Dg n y.1 y.2.1 y.2.2.1
def Zds (n:Nat):A9 Ty:=CG (AA Ej 0 HG (MZ n))
def Zet (n:Nat):List (Nat×A9 Ty):=[(71,ZbE n),(72,Zdm n),(73,ZdG n),(74,ZfW n)]
theorem TJ (n:Nat):Ap Tryz.prog (Zet n):=⟨Gf n,⟨Rj n,⟨S4 n,⟨X2 n,trivial⟩⟩⟩⟩
def Zeu (n:Nat):Az Ty:=[]
theorem Vd (n:Nat) (x:C.Ds Ty (Af Ej)):(Ax Tryz.prog 26 (Am Tryz.prog (Zet n) []) (Ae (Zeu n)) (Ao Tryz.f33) (Aw Ej x)).runK (Aq Tryz.prog Tryz.f33.results.toList 0 HG)=MZ n x:=by kernel_rfl
theorem Ry (n:Nat):Au Tryz.prog 33 (Zds n):=AS (As Tryz.func33 rfl rfl (by decide) rfl Aa Ab (Ac Aa Ab (TJ n) Ah) (Ad (fn:=Tryz.f33) (L:=Zeu n) (ks:=[]) trivial (by kernel_rfl) (by kernel_rfl)) (Vd n))
def D1:List (Nat×C):=[(0,.u 114),(1,.v 3)]
def GM:List Wo:=[⟨.ret,[.u 114],[],[]⟩,⟨.pan,[.u 114],[],[.i 234 (.g 234)]⟩]
def CE (n:Nat) (g:Aj) (n_:List Int):Option ((Aj×Unit) ⊕ ((Aj×AI×Unit))) :=
 bif n_.length.beq 5 then((A6 n_ 0).bind fun v0 =>
 (n_.get?Internal (Int.toNat 0)).bind fun v1 =>
 (Bz n v1 0 (IntKind.i64.wrap ((↑g.state.roster.length:Int)-1))).bind fun v2 =>
 bif v2.fst then(bif n_.length.beq 5 then((A6 n_ 1).bind fun v3 =>
 (n_.get?Internal (Int.toNat 1)).bind fun v4 =>
 (Bz n v4 (-1) (IntKind.i64.wrap ((↑g.state.week.drivers.length:Int)-1))).bind fun v5 =>
 (AE n v5.fst 2).bind fun v6 =>
 Sum.elim (fun v7=>(Aa6 n g.state.roster).bind fun v8 =>
 bif n_.length.beq 5 then((A6 n_ 0).bind fun v9 =>
 (n_.get?Internal (Int.toNat 0)).bind fun v10 =>
 bif n_.length.beq 5 then((A6 n_ 1).bind fun v11 =>
 (n_.get?Internal (Int.toNat 1)).bind fun v12 =>
 (A6 v8.fst v10).bind fun v13 =>
 (v8.fst.get?Internal v10.toNat).bind fun v14 =>
 (Dg n g.state.week (v8.fst.set v10.toNat v12) 0).bind fun v15 =>
 (AE n v15.fst 10).bind fun v16 =>
 Sum.elim (fun v17=>some (.inl (Aj.mk (An.mk g.state.cards g.state.outs g.state.runs g.state.records g.state.week (v8.fst.set v10.toNat v12)),()))) (fun v17=>some (.inr (g,(v17.fst,())))) (v16)) else
 none) else
 none) (fun v7=>some (.inr (g,(v7.fst,())))) (v6)) else
 none) else
 (AE n false 2).bind fun v3 =>
 Sum.elim (fun v4=>(Aa6 n g.state.roster).bind fun v5 =>
 bif n_.length.beq 5 then((A6 n_ 0).bind fun v6 =>
 (n_.get?Internal (Int.toNat 0)).bind fun v7 =>
 bif n_.length.beq 5 then((A6 n_ 1).bind fun v8 =>
 (n_.get?Internal (Int.toNat 1)).bind fun v9 =>
 (A6 v5.fst v7).bind fun v10 =>
 (v5.fst.get?Internal v7.toNat).bind fun v11 =>
 (Dg n g.state.week (v5.fst.set v7.toNat v9) 0).bind fun v12 =>
 (AE n v12.fst 10).bind fun v13 =>
 Sum.elim (fun v14=>some (.inl (Aj.mk (An.mk g.state.cards g.state.outs g.state.runs g.state.records g.state.week (v5.fst.set v7.toNat v9)),()))) (fun v14=>some (.inr (g,(v14.fst,())))) (v13)) else
 none) else
 none) (fun v4=>some (.inr (g,(v4.fst,())))) (v3)) else
 none
def LJ (n:Nat) (y:C.Ds Ty (Af D1)):Option (YT Ty GM):=CE n y.1 y.2.1
def ZbV (n:Nat):A9 Ty:=AA D1 1 GM (LJ n)
def ZdH (n:Nat):List (Nat×A9 Ty):=[(75,Zb8 n),(139,Zb3 n),(268,Zj4 n),(33,Zds n)]
theorem S5 (n:Nat):Ap Tryz.prog (ZdH n):=⟨CA n,⟨BB n,⟨Acs n,⟨Ry n,trivial⟩⟩⟩⟩
def ZdI (n:Nat):Az Ty:=[]
theorem TK (n:Nat) (x:C.Ds Ty (Af D1)):(Ax Tryz.prog 54 (Am Tryz.prog (ZdH n) []) (Ae (ZdI n)) (Ao Tryz.f200) (Aw D1 x)).runK (Aq Tryz.prog Tryz.f200.results.toList 1 GM)=LJ n x:=by kernel_rfl
theorem IB (n:Nat):Au Tryz.prog 200 (ZbV n):=As Tryz.func200 rfl rfl (by decide) rfl Aa Ab (Ac Aa Ab (S5 n) Ah) (Ad (fn:=Tryz.f200) (L:=ZdI n) (ks:=[]) trivial (by kernel_rfl) (by kernel_rfl)) (TK n)
def AhD:List (Nat×C):=[]
def AnM:List Wo:=[⟨.ret,[],[],[.m 9 237]⟩]
def Aw3 (n:Nat):Option (((List (ByteArray×F9))×Unit)) :=
 some (JI Ep (JI Ep (JI Ep (JI Ep (JI Ep (JI Ep (JI Ep (JI Ep (JI Ep (JI Ep (JI Ep (JI Ep [] (B [102,111,117,110,100]) (F9.mk 4 (Fp.mk (↑189:Int)))) (B [104,101,108,100]) (F9.mk 4 (Fp.mk (↑190:Int)))) (B [115,105,103,110,101,100]) (F9.mk 4 (Fp.mk (↑191:Int)))) (B [99,104,101,99,107,101,100]) (F9.mk 3 (Fp.mk (↑192:Int)))) (B [111,117,116]) (F9.mk 2 (Fp.mk (↑193:Int)))) (B [105,110]) (F9.mk 3 (Fp.mk (↑194:Int)))) (B [115,97,108,101]) (F9.mk 5 (Fp.mk (↑195:Int)))) (B [115,121,110,99]) (F9.mk 4 (Fp.mk (↑196:Int)))) (B [99,108,111,115,101]) (F9.mk 5 (Fp.mk (↑197:Int)))) (B [100,114,105,118,101,114]) (F9.mk 2 (Fp.mk (↑198:Int)))) (B [100,117,116,121]) (F9.mk 5 (Fp.mk (↑199:Int)))) (B [103,105,118,101]) (F9.mk 2 (Fp.mk (↑200:Int))),())
def AsH (n:Nat) (y:C.Ds Ty (Af AhD)):Option (YT Ty AnM):=Aw3 n
def Zle (n:Nat):A9 Ty:=AA AhD 0 AnM (AsH n)
def Zlk (n:Nat):List (Nat×A9 Ty):=[(189,ZbK n),(190,ZbO n),(191,ZbF n),(192,ZbD n),(193,ZbX n),(194,Zcd n),(195,ZbQ n),(196,ZbR n),(197,ZbL n),(198,ZbG n),(199,ZbT n),(200,ZbV n)]
theorem Auk (n:Nat):Ap Tryz.prog (Zlk n):=⟨HQ n,⟨Iz n,⟨Hc n,⟨Gv n,⟨Jx n,⟨JO n,⟨I3 n,⟨I4 n,⟨HS n,⟨Hd n,⟨I5 n,⟨IB n,trivial⟩⟩⟩⟩⟩⟩⟩⟩⟩⟩⟩⟩
def Zll (n:Nat):Az Ty:=[]
theorem Aw4 (n:Nat) (x:C.Ds Ty (Af AhD)):(Ax Tryz.prog 15 (Am Tryz.prog (Zlk n) []) (Ae (Zll n)) (Ao Tryz.f138) (Aw AhD x)).runK (Aq Tryz.prog Tryz.f138.results.toList 0 AnM)=AsH n x:=by kernel_rfl
theorem Aqi (n:Nat):Au Tryz.prog 138 (Zle n):=As Tryz.func138 rfl rfl (by decide) rfl Aa Ab (Ac Aa Ab (Auk n) Ah) (Ad (fn:=Tryz.f138) (L:=Zll n) (ks:=[]) trivial (by kernel_rfl) (by kernel_rfl)) (Aw4 n)
def Jc:List (Nat×C):=[(0,.s 9)]
def Ns:List Wo:=[⟨.ret,[],[],[.s 3]⟩,⟨.pan,[],[],[.i 234 (.g 234)]⟩]
def LK (n:Nat) (s:ByteArray):Option ((Int×Unit) ⊕ ((AI×Unit))) :=
 (ZC s).bind fun v0 =>
 Sum.elim (fun v1=>(AfE n v1).bind fun v2 =>
 bif v2.fst.beq s then((Bz n v1 (-999999999) 999999999).bind fun v3 =>
 (AE n v3.fst 4).bind fun v4 =>
 Sum.elim (fun v5=>some (.inl (v1,()))) (fun v5=>some (.inr (v5.fst,()))) (v4)) else
 (AE n false 4).bind fun v3 =>
 Sum.elim (fun v4=>some (.inl (v1,()))) (fun v4=>some (.inr (v4.fst,()))) (v3)) (fun v1=>(AE n false 4).bind fun v2 =>
 Sum.elim (fun v3=>some (.inl (v1,()))) (fun v3=>some (.inr (v3.fst,()))) (v2)) (v0)
def TL (n:Nat) (y:C.Ds Ty (Af Jc)):Option (YT Ty Ns):=LK n y.1
def ZfX (n:Nat):A9 Ty:=AA Jc 0 Ns (TL n)
def Zhr (n:Nat):List (Nat×A9 Ty):=[(113,ZhV n),(89,ZjZ n),(75,Zb8 n),(139,Zb3 n)]
theorem AaD (n:Nat):Ap Tryz.prog (Zhr n):=⟨AfG n,⟨AfF n,⟨CA n,⟨BB n,trivial⟩⟩⟩⟩
def Zhs (n:Nat):Az Ty:=[]
theorem Ac4 (n:Nat) (x:C.Ds Ty (Af Jc)):(Ax Tryz.prog 24 (Am Tryz.prog (Zhr n) []) (Ae (Zhs n)) (Ao Tryz.f140) (Aw Jc x)).runK (Aq Tryz.prog Tryz.f140.results.toList 0 Ns)=TL n x:=by kernel_rfl
theorem X3 (n:Nat):Au Tryz.prog 140 (ZfX n):=As Tryz.func140 rfl rfl (by decide) rfl Aa Ab (Ac Aa Ab (AaD n) Ah) (Ad (fn:=Tryz.f140) (L:=Zhs n) (ks:=[]) trivial (by kernel_rfl) (by kernel_rfl)) (Ac4 n)
def ZI:Nat→Code→Code
 | n+1,.seq _ b=>ZI n b
 | _,c=>c
def Qm:List (Nat×C):=[(0,.u 114),(4,.p [.s 3]),(6,.u 237),(8,.a 3),(33,.l 9),(34,.s 3),(35,.s 3)]
def AaE:List Wo:=[⟨.exit 0,[.u 114,.p [.s 3],.u 237,.a 3],[(0,.q 0),(4,.q 1),(6,.q 2),(8,.q 3)],[]⟩,⟨.pan,[.u 114,.p [.s 3],.u 237,.a 3],[(4,.q 1)],[.i 234 (.g 234)]⟩]
def RM:List (Nat×C):=[(0,.u 114),(1,.s 9),(4,.p [.s 37])]
def Ve:List Wo:=[⟨.ret,[.u 114,.p [.s 37]],[(4,.q 1)],[]⟩,⟨.pan,[.u 114,.p [.s 37]],[(4,.q 1)],[.i 234 (.g 234)]⟩]
def Qn:Nat→Aj→Int→F9→(List Int)→(List ByteArray)→Int→Int→Option ((Aj×(Int×Unit)×F9×List Int×Unit×Unit×Unit×Unit×Unit) ⊕ ((Aj×(Int×Unit)×F9×List Int×Unit×AI×Unit)))
 | 0,_,_,_,_,_,_,_=>none
 | n+1,g,e,x,n_,x33,x34,x35 =>
  bif decide (x35<x34) then((A6 x33 x35).bind fun v0 =>
  (LK n v0).bind fun v1 =>
  Sum.elim (fun v2=>bif n_.length.beq 5 then((A6 n_ x35).bind fun v3 =>
  (n_.get?Internal x35.toNat).bind fun v4 =>
  Qn n g e x (n_.set x35.toNat v2.fst) x33 x34 (IntKind.i64.wrap (x35+1))) else
  none) (fun v2=>some (.inr (g,((e,()),(x,(n_,((),(v2.fst,())))))))) (v1)) else
  some (.inl (g,((e,()),(x,(n_,((),((),((),((),())))))))))
def Vf (n:Nat) (y:C.Ds Ty (Af Qm)):Option (YT Ty AaE):=Qn n y.1 y.2.1.1 y.2.2.1 y.2.2.2.1 y.2.2.2.2.1 y.2.2.2.2.2.1 y.2.2.2.2.2.2.1
def Zkc (n:Nat):St Ty→Tr (Lf Ty):=AZ Qm 4 AaE (Vf n)
def Aqj (n:Nat) (g:Aj) (text:ByteArray) (e:Int):Option ((Aj×(Int×Unit)×Unit×Unit) ⊕ ((Aj×(Int×Unit)×Unit×AI×Unit))) :=
 (Aec n text (B [32])).bind fun v0 =>
 (Aw3 n).bind fun v1 =>
 (A6 v0.fst 0).bind fun v2 =>
 bif Dm Ep v1.fst v2 then((AE n (decide ((↑v0.fst.length:Int)=IntKind.i64.wrap ((AY Ep v1.fst v2 (F9.mk 0 (Fp.mk (-1)))).many+1))) 4).bind fun v3 =>
 Sum.elim (fun v4=>(K0 v0.fst 1 (↑v0.fst.length:Int)).bind fun v5 =>
 (Qn n g e (AY Ep v1.fst v2 (F9.mk 0 (Fp.mk (-1)))) [0,0,0,0,0] v5 (↑v5.length:Int) 0).bind fun v6 =>
 Sum.elim (fun v7=>bif v7.snd.snd.snd.fst.length.beq 5 then(bif decide (v7.snd.snd.fst.do_.f=(↑189:Int)) then((DX n v7.fst v7.snd.snd.snd.fst).bind fun v8 =>
 Sum.elim (fun v9=>some (.inl (v9.fst,((0,()),((),()))))) (fun v9=>some (.inr (v9.fst,((v7.snd.fst.fst,()),((),(v9.snd.fst,())))))) (v8)) else
 bif decide (v7.snd.snd.fst.do_.f=(↑190:Int)) then((E9 n v7.fst v7.snd.snd.snd.fst).bind fun v8 =>
 Sum.elim (fun v9=>some (.inl (v9.fst,((0,()),((),()))))) (fun v9=>some (.inr (v9.fst,((v7.snd.fst.fst,()),((),(v9.snd.fst,())))))) (v8)) else
 bif decide (v7.snd.snd.fst.do_.f=(↑191:Int)) then((Dr n v7.fst v7.snd.snd.snd.fst).bind fun v8 =>
 Sum.elim (fun v9=>some (.inl (v9.fst,((0,()),((),()))))) (fun v9=>some (.inr (v9.fst,((v7.snd.fst.fst,()),((),(v9.snd.fst,())))))) (v8)) else
 bif decide (v7.snd.snd.fst.do_.f=(↑192:Int)) then((CI n v7.fst v7.snd.snd.snd.fst).bind fun v8 =>
 Sum.elim (fun v9=>some (.inl (v9.fst,((0,()),((),()))))) (fun v9=>some (.inr (v9.fst,((v7.snd.fst.fst,()),((),(v9.snd.fst,())))))) (v8)) else
 bif decide (v7.snd.snd.fst.do_.f=(↑193:Int)) then((CY n v7.fst v7.snd.snd.snd.fst).bind fun v8 =>
 Sum.elim (fun v9=>some (.inl (v9.fst,((0,()),((),()))))) (fun v9=>some (.inr (v9.fst,((v7.snd.fst.fst,()),((),(v9.snd.fst,())))))) (v8)) else
 bif decide (v7.snd.snd.fst.do_.f=(↑194:Int)) then((DG n v7.fst v7.snd.snd.snd.fst).bind fun v8 =>
 Sum.elim (fun v9=>some (.inl (v9.fst,((0,()),((),()))))) (fun v9=>some (.inr (v9.fst,((v7.snd.fst.fst,()),((),(v9.snd.fst,())))))) (v8)) else
 bif decide (v7.snd.snd.fst.do_.f=(↑195:Int)) then((EC n v7.fst v7.snd.snd.snd.fst).bind fun v8 =>
 Sum.elim (fun v9=>some (.inl (v9.fst,((0,()),((),()))))) (fun v9=>some (.inr (v9.fst,((v7.snd.fst.fst,()),((),(v9.snd.fst,())))))) (v8)) else
 bif decide (v7.snd.snd.fst.do_.f=(↑196:Int)) then((ED n v7.fst v7.snd.snd.snd.fst).bind fun v8 =>
 Sum.elim (fun v9=>some (.inl (v9.fst,((0,()),((),()))))) (fun v9=>some (.inr (v9.fst,((v7.snd.fst.fst,()),((),(v9.snd.fst,())))))) (v8)) else
 bif decide (v7.snd.snd.fst.do_.f=(↑197:Int)) then((Eb n v7.fst v7.snd.snd.snd.fst).bind fun v8 =>
 Sum.elim (fun v9=>some (.inl (v9.fst,((0,()),((),()))))) (fun v9=>some (.inr (v9.fst,((v7.snd.fst.fst,()),((),(v9.snd.fst,())))))) (v8)) else
 bif decide (v7.snd.snd.fst.do_.f=(↑198:Int)) then((BW n v7.fst v7.snd.snd.snd.fst).bind fun v8 =>
 Sum.elim (fun v9=>some (.inl (v9.fst,((0,()),((),()))))) (fun v9=>some (.inr (v9.fst,((v7.snd.fst.fst,()),((),(v9.snd.fst,())))))) (v8)) else
 bif decide (v7.snd.snd.fst.do_.f=(↑199:Int)) then((CC n v7.fst v7.snd.snd.snd.fst).bind fun v8 =>
 Sum.elim (fun v9=>some (.inl (v9.fst,((0,()),((),()))))) (fun v9=>some (.inr (v9.fst,((v7.snd.fst.fst,()),((),(v9.snd.fst,())))))) (v8)) else
 bif decide (v7.snd.snd.fst.do_.f=(↑200:Int)) then((CE n v7.fst v7.snd.snd.snd.fst).bind fun v8 =>
 Sum.elim (fun v9=>some (.inl (v9.fst,((0,()),((),()))))) (fun v9=>some (.inr (v9.fst,((v7.snd.fst.fst,()),((),(v9.snd.fst,())))))) (v8)) else
 none) else
 none) (fun v7=>some (.inr (v7.fst,((v7.snd.fst.fst,()),((),(v7.snd.snd.snd.snd.snd.fst,())))))) (v6)) (fun v4=>some (.inr (g,((e,()),((),(v4.fst,())))))) (v3)) else
 (AE n false 4).bind fun v3 =>
 Sum.elim (fun v4=>(K0 v0.fst 1 (↑v0.fst.length:Int)).bind fun v5 =>
 (Qn n g e (AY Ep v1.fst v2 (F9.mk 0 (Fp.mk (-1)))) [0,0,0,0,0] v5 (↑v5.length:Int) 0).bind fun v6 =>
 Sum.elim (fun v7=>bif v7.snd.snd.snd.fst.length.beq 5 then(bif decide (v7.snd.snd.fst.do_.f=(↑189:Int)) then((DX n v7.fst v7.snd.snd.snd.fst).bind fun v8 =>
 Sum.elim (fun v9=>some (.inl (v9.fst,((0,()),((),()))))) (fun v9=>some (.inr (v9.fst,((v7.snd.fst.fst,()),((),(v9.snd.fst,())))))) (v8)) else
 bif decide (v7.snd.snd.fst.do_.f=(↑190:Int)) then((E9 n v7.fst v7.snd.snd.snd.fst).bind fun v8 =>
 Sum.elim (fun v9=>some (.inl (v9.fst,((0,()),((),()))))) (fun v9=>some (.inr (v9.fst,((v7.snd.fst.fst,()),((),(v9.snd.fst,())))))) (v8)) else
 bif decide (v7.snd.snd.fst.do_.f=(↑191:Int)) then((Dr n v7.fst v7.snd.snd.snd.fst).bind fun v8 =>
 Sum.elim (fun v9=>some (.inl (v9.fst,((0,()),((),()))))) (fun v9=>some (.inr (v9.fst,((v7.snd.fst.fst,()),((),(v9.snd.fst,())))))) (v8)) else
 bif decide (v7.snd.snd.fst.do_.f=(↑192:Int)) then((CI n v7.fst v7.snd.snd.snd.fst).bind fun v8 =>
 Sum.elim (fun v9=>some (.inl (v9.fst,((0,()),((),()))))) (fun v9=>some (.inr (v9.fst,((v7.snd.fst.fst,()),((),(v9.snd.fst,())))))) (v8)) else
 bif decide (v7.snd.snd.fst.do_.f=(↑193:Int)) then((CY n v7.fst v7.snd.snd.snd.fst).bind fun v8 =>
 Sum.elim (fun v9=>some (.inl (v9.fst,((0,()),((),()))))) (fun v9=>some (.inr (v9.fst,((v7.snd.fst.fst,()),((),(v9.snd.fst,())))))) (v8)) else
 bif decide (v7.snd.snd.fst.do_.f=(↑194:Int)) then((DG n v7.fst v7.snd.snd.snd.fst).bind fun v8 =>
 Sum.elim (fun v9=>some (.inl (v9.fst,((0,()),((),()))))) (fun v9=>some (.inr (v9.fst,((v7.snd.fst.fst,()),((),(v9.snd.fst,())))))) (v8)) else
 bif decide (v7.snd.snd.fst.do_.f=(↑195:Int)) then((EC n v7.fst v7.snd.snd.snd.fst).bind fun v8 =>
 Sum.elim (fun v9=>some (.inl (v9.fst,((0,()),((),()))))) (fun v9=>some (.inr (v9.fst,((v7.snd.fst.fst,()),((),(v9.snd.fst,())))))) (v8)) else
 bif decide (v7.snd.snd.fst.do_.f=(↑196:Int)) then((ED n v7.fst v7.snd.snd.snd.fst).bind fun v8 =>
 Sum.elim (fun v9=>some (.inl (v9.fst,((0,()),((),()))))) (fun v9=>some (.inr (v9.fst,((v7.snd.fst.fst,()),((),(v9.snd.fst,())))))) (v8)) else
 bif decide (v7.snd.snd.fst.do_.f=(↑197:Int)) then((Eb n v7.fst v7.snd.snd.snd.fst).bind fun v8 =>
 Sum.elim (fun v9=>some (.inl (v9.fst,((0,()),((),()))))) (fun v9=>some (.inr (v9.fst,((v7.snd.fst.fst,()),((),(v9.snd.fst,())))))) (v8)) else
 bif decide (v7.snd.snd.fst.do_.f=(↑198:Int)) then((BW n v7.fst v7.snd.snd.snd.fst).bind fun v8 =>
 Sum.elim (fun v9=>some (.inl (v9.fst,((0,()),((),()))))) (fun v9=>some (.inr (v9.fst,((v7.snd.fst.fst,()),((),(v9.snd.fst,())))))) (v8)) else
 bif decide (v7.snd.snd.fst.do_.f=(↑199:Int)) then((CC n v7.fst v7.snd.snd.snd.fst).bind fun v8 =>
 Sum.elim (fun v9=>some (.inl (v9.fst,((0,()),((),()))))) (fun v9=>some (.inr (v9.fst,((v7.snd.fst.fst,()),((),(v9.snd.fst,())))))) (v8)) else
 bif decide (v7.snd.snd.fst.do_.f=(↑200:Int)) then((CE n v7.fst v7.snd.snd.snd.fst).bind fun v8 =>
 Sum.elim (fun v9=>some (.inl (v9.fst,((0,()),((),()))))) (fun v9=>some (.inr (v9.fst,((v7.snd.fst.fst,()),((),(v9.snd.fst,())))))) (v8)) else
 none) else
 none) (fun v7=>some (.inr (v7.fst,((v7.snd.fst.fst,()),((),(v7.snd.snd.snd.snd.snd.fst,())))))) (v6)) (fun v4=>some (.inr (g,((e,()),((),(v4.fst,())))))) (v3)
def Ac5 (n:Nat) (y:C.Ds Ty (Af RM)):Option (YT Ty Ve):=Aqj n y.1 y.2.1 y.2.2.1.1
def ZkX (n:Nat):List (Nat×A9 Ty):=[(112,Zj5 n),(138,Zle n),(139,Zb3 n),(140,ZfX n),(189,ZbK n),(190,ZbO n),(191,ZbF n),(192,ZbD n),(193,ZbX n),(194,Zcd n),(195,ZbQ n),(196,ZbR n),(197,ZbL n),(198,ZbG n),(199,ZbT n),(200,ZbV n)]
theorem Am8 (n:Nat):Ap Tryz.prog (ZkX n):=⟨Acv n,⟨Aqi n,⟨BB n,⟨X3 n,⟨HQ n,⟨Iz n,⟨Hc n,⟨Gv n,⟨Jx n,⟨JO n,⟨I3 n,⟨I4 n,⟨HS n,⟨Hd n,⟨I5 n,⟨IB n,trivial⟩⟩⟩⟩⟩⟩⟩⟩⟩⟩⟩⟩⟩⟩⟩⟩
def ZkT (n:Nat):Az Ty:=[]
theorem Aqk (n:Nat) (x:C.Ds Ty (Af Qm)):(Ax Tryz.prog 50 (Am Tryz.prog (ZkX n) []) (Ae (ZkT n)) (Al 7 Tryz.f84) (Aw Qm x)).runK (A3 4 Qm AaE (Vf n))=Vf (n+1) x:=by kernel_rfl
theorem Aql (n:Nat):A5 true Tryz.prog 50 (Zkc n) (.loop (Al 7 Tryz.f84)):=A4 fun x y hy=>At (Fn:=Vf) Aa Ab (fun n=>Ac Aa Ab (Am8 n) Ah) (fun h=>by cases h) (fun h=>by cases h) (fun n=>(Ad (fn:=Tryz.f84) (L:=ZkT n) (ks:=[]) trivial (by kernel_rfl) (by kernel_rfl))) (by decide) (fun _=>rfl) Aqk hy
def Zlm (n:Nat):Az Ty:=[(.loop 7,Zkc n)]
theorem Aw5 (n:Nat) (x:C.Ds Ty (Af RM)):(Ax Tryz.prog 50 (Am Tryz.prog (ZkX n) []) (Ae (Zlm n)) (ZI 2 (Ao Tryz.f84)) (Aw RM x)).runK (PL 2 Ve)=Ac5 n x:=by kernel_rfl
theorem Aul (n:Nat) {x:C.Ds Ty (Af RM)} {y:YT Ty Ve} (hy:Ac5 n x=some y):As3 true Tryz.prog 50 (ZI 2 (Ao Tryz.f84)) RM 2 Ve x y:=Ay8 Aa Ab (Ac Aa Ab (Am8 n) Ah) (fun h=>by cases h) (fun h=>by cases h) (Ad (c:=ZI 2 (Ao Tryz.f84)) (fn:=Tryz.f84) (L:=Zlm n) (ks:=[.loop 7]) ⟨Aql n,trivial⟩ (by kernel_rfl) (by kernel_rfl)) ((Aw5 n x).trans hy)
end
end Go.Proofs.YtkpgggfibljflaaGreatDoor
