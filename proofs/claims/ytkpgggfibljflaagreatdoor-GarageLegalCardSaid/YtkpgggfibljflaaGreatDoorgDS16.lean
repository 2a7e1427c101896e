/- What a proof leans on: a machine that steps through code, and what functions compute. -/
import Derived.Test.YtkpgggfibljflaaGreatDoorgDS15
import Derived.Shelf.Strings.OnBuilder
set_option linter.all false
set_option maxRecDepth 100000
namespace Go.Proofs.YtkpgggfibljflaaGreatDoor
open Go Go.RowKit Go.Proofs
open Rep (rep)
def Jv:List (Nat×C):=[(0,.l 28),(3,.s 3),(9,.l 28),(10,.s 3),(11,.s 3)]
def PT:List Wo:=[⟨.exit 0,[],[(0,.l 28),(3,.s 3)],[]⟩]
def Jw:List (Nat×C):=[(6,.o 93),(25,.l 28),(26,.s 3),(27,.s 3)]
def PU:List Wo:=[⟨.exit 2,[],[(6,.o 93)],[]⟩]
def Tb:List (Nat×C):=[(0,.l 28)]
def Xo:List Wo:=[⟨.ret,[],[],[.o 93]⟩]
def Mn:Nat→(List (List Aj))→Int→(List (List Aj))→Int→Int→Option ((List (List Aj)×Int×Unit))
  | 0,_,_,_,_,_=>none
  | n+1,slices,size,x9,x10,x11 =>
    bif decide (x11<x10) then((AC x9 x11).bind fun v0 =>
    bif decide (IntKind.i64.wrap (size+(↑v0.length:Int))<0) then(none) else
    Mn n slices (IntKind.i64.wrap (size+(↑v0.length:Int))) x9 x10 (IntKind.i64.wrap (x11+1))) else
    some (slices,(size,()))
def L2 (n:Nat) (y:C.Ds Ty (Ai Jv)):Option (YT Ty PT):=Mn n y.1 y.2.1 y.2.2.1 y.2.2.2.1 y.2.2.2.2.1
noncomputable def concatR_l1_cut (n:Nat):St Ty→Tr (Lf Ty):=C3 Jv 0 PT (L2 n)
def Mp:Nat→(List Aj)→(List (List Aj))→Int→Int→Option ((List Aj×Unit))
  | 0,_,_,_,_=>none
  | n+1,newslice,x25,x26,x27 =>
    bif decide (x27<x26) then((AC x25 x27).bind fun v0 =>
    (app newslice v0).bind fun v1 =>
    Mp n v1 x25 x26 (IntKind.i64.wrap (x27+1))) else
    some (newslice,())
def L3 (n:Nat) (y:C.Ds Ty (Ai Jw)):Option (YT Ty PU):=Mp n y.1 y.2.1 y.2.2.1 y.2.2.2.1
noncomputable def concatR_l2_cut (n:Nat):St Ty→Tr (Lf Ty):=C3 Jw 0 PU (L3 n)
def Aab (n:Nat) (slices:List (List Aj)):Option ((List Aj×Unit)) :=
    (Mn n slices 0 slices (↑slices.length:Int) 0).bind fun v0 =>
    (bif decide (0≤v0.snd.fst) && decide (v0.snd.fst≤1000000000) then some () else none).bind fun v1 =>
    (Mp n [] v0.fst (↑v0.fst.length:Int) 0).bind fun v2 =>
    some (v2.fst,())
def AeY (n:Nat) (y:C.Ds Ty (Ai Tb)):Option (YT Ty Xo):=Aab n y.1
noncomputable def concatR_law (n:Nat):AH Ty:=AI Tb 0 Xo (AeY n)
noncomputable def concatR_T (n:Nat):List (Nat×AH Ty):=[(187,growS_law n)]
theorem RT (n:Nat):Au Tryz.prog (concatR_T n):=⟨Aiq n,trivial⟩
noncomputable def concatR_l1_C (n:Nat):A7 Ty:=[]
theorem Ad3 (n:Nat) (x:C.Ds Ty (Ai Jv)):(A1 Tryz.prog 36 (An Tryz.prog (concatR_T n) []) (Ah (concatR_l1_C n)) (Ar 3 Tryz.f131) (A0 Jv x)).runK (AJ 0 Jv PT (L2 n))=L2 (n+1) x:=by kernel_rfl
theorem Ad4 (n:Nat):AF true Tryz.prog 36 (concatR_l1_cut n) (.loop (Ar 3 Tryz.f131)):=AM fun x y hy=>A6 (Fn:=L2) Aa Ab (fun n=>Ac Aa Ab (RT n) Ak) (fun h=>by cases h) (fun h=>by cases h) (fun n=>(Ae (fn:=Tryz.f131) (L:=concatR_l1_C n) (ks:=[]) trivial (by kernel_rfl) (by kernel_rfl))) (by decide) (fun _=>rfl) Ad3 hy
noncomputable def concatR_l2_C (n:Nat):A7 Ty:=[]
theorem Ad5 (n:Nat) (x:C.Ds Ty (Ai Jw)):(A1 Tryz.prog 36 (An Tryz.prog (concatR_T n) []) (Ah (concatR_l2_C n)) (Ar 11 Tryz.f131) (A0 Jw x)).runK (AJ 0 Jw PU (L3 n))=L3 (n+1) x:=by kernel_rfl
theorem Ad6 (n:Nat):AF true Tryz.prog 36 (concatR_l2_cut n) (.loop (Ar 11 Tryz.f131)):=AM fun x y hy=>A6 (Fn:=L3) Aa Ab (fun n=>Ac Aa Ab (RT n) Ak) (fun h=>by cases h) (fun h=>by cases h) (fun n=>(Ae (fn:=Tryz.f131) (L:=concatR_l2_C n) (ks:=[]) trivial (by kernel_rfl) (by kernel_rfl))) (by decide) (fun _=>rfl) Ad5 hy
noncomputable def concatR_C (n:Nat):A7 Ty:=[(.loop 3,concatR_l1_cut n),(.loop 11,concatR_l2_cut n)]
theorem Aj9 (n:Nat) (x:C.Ds Ty (Ai Tb)):(A1 Tryz.prog 36 (An Tryz.prog (concatR_T n) []) (Ah (concatR_C n)) (Ap Tryz.f131) (A0 Tb x)).runK (Aw Tryz.prog Tryz.f131.results.toList 0 Xo)=AeY n x:=by kernel_rfl
theorem Ad7 (n:Nat):Av Tryz.prog 131 (concatR_law n):=Ax Tryz.func131 rfl rfl (by decide) rfl Aa Ab (Ac Aa Ab (RT n) Ak) (Ae (fn:=Tryz.f131) (L:=concatR_C n) (ks:=[.loop 3,.loop 11]) ⟨Ad4 n,⟨Ad6 n,trivial⟩⟩ (by kernel_rfl) (by kernel_rfl)) (Aj9 n)
def KA:List (Nat×C):=[(0,.s 4),(1,.s 3)]
def NV:List Wo:=[⟨.ret,[],[],[]⟩,⟨.pan,[],[],[.i 234 (.g 234)]⟩]
def AA (n:Nat) (is:Bool) (e:Int):Option (Unit ⊕ ((AE×Unit))) :=
    bif !is then(some (.inr (AE.mk e,()))) else
    some (.inl ())
def Ua (n:Nat) (y:C.Ds Ty (Ai KA)):Option (YT Ty NV):=AA n y.1 y.2.1
noncomputable def fgarage_ask_law (n:Nat):AH Ty:=AI KA 0 NV (Ua n)
noncomputable def fgarage_ask_T (n:Nat):List (Nat×AH Ty):=[]
theorem Z6 (n:Nat):Au Tryz.prog (fgarage_ask_T n):=trivial
noncomputable def fgarage_ask_C (n:Nat):A7 Ty:=[]
theorem Ac6 (n:Nat) (x:C.Ds Ty (Ai KA)):(A1 Tryz.prog 9 (An Tryz.prog (fgarage_ask_T n) []) (Ah (fgarage_ask_C n)) (Ap Tryz.f139) (A0 KA x)).runK (Aw Tryz.prog Tryz.f139.results.toList 0 NV)=Ua n x:=by kernel_rfl
theorem B3 (n:Nat):Av Tryz.prog 139 (fgarage_ask_law n):=Ax Tryz.func139 rfl rfl (by decide) rfl Aa Ab (Ac Aa Ab (Z6 n) Ak) (Ae (fn:=Tryz.f139) (L:=fgarage_ask_C n) (ks:=[]) trivial (by kernel_rfl) (by kernel_rfl)) (Ac6 n)
def EF:List (Nat×C):=[(0,.l 180),(1,.g 180)]
def HE:List Wo:=[⟨.ret,[],[],[.l 180]⟩]
def G3 (n:Nat) (l:List Ay) (x:Ay):Option ((List Ay×Unit)) :=
    (Acy n l).bind fun v0 =>
    (app v0.fst [x]).bind fun v1 =>
    some (v1,())
def Lm (n:Nat) (y:C.Ds Ty (Ai EF)):Option (YT Ty HE):=G3 n y.1 y.2.1
noncomputable def fgarage_with_Card_law (n:Nat):AH Ty:=AI EF 0 HE (Lm n)
noncomputable def fgarage_with_Card_T (n:Nat):List (Nat×AH Ty):=[(340,clone180_law n)]
theorem QZ (n:Nat):Au Tryz.prog (fgarage_with_Card_T n):=⟨Acz n,trivial⟩
noncomputable def fgarage_with_Card_C (n:Nat):A7 Ty:=[]
theorem RU (n:Nat) (x:C.Ds Ty (Ai EF)):(A1 Tryz.prog 10 (An Tryz.prog (fgarage_with_Card_T n) []) (Ah (fgarage_with_Card_C n)) (Ap Tryz.f308) (A0 EF x)).runK (Aw Tryz.prog Tryz.f308.results.toList 0 HE)=Lm n x:=by kernel_rfl
theorem OB (n:Nat):Av Tryz.prog 308 (fgarage_with_Card_law n):=Ax Tryz.func308 rfl rfl (by decide) rfl Aa Ab (Ac Aa Ab (QZ n) Ak) (Ae (fn:=Tryz.f308) (L:=fgarage_with_Card_C n) (ks:=[]) trivial (by kernel_rfl) (by kernel_rfl)) (RU n)
def G4:List (Nat×C):=[(0,.g 180)]
def Jx:List Wo:=[⟨.ret,[],[],[.s 4]⟩]
def FR (n:Nat) (c:Ay):Option ((Bool×Unit)) :=
    bif decide (0≤c.bus) then(bif decide (c.bus≤99) then(bif decide (1≤c.number) then(bif decide (c.number≤999) then(bif decide (0≤c.minute) then(bif decide (c.minute≤1000000) then(bif decide (IntKind.i64.wrap c.kind.n<(↑[Jf.mk (Fp.mk (↑212:Int)),Jf.mk (Fp.mk (↑212:Int)),Jf.mk (Fp.mk (↑213:Int)),Jf.mk (Fp.mk (↑214:Int))].length:Int)) then((AC [Jf.mk (Fp.mk (↑212:Int)),Jf.mk (Fp.mk (↑212:Int)),Jf.mk (Fp.mk (↑213:Int)),Jf.mk (Fp.mk (↑214:Int))] c.kind.n).bind fun v0 =>
    ([Jf.mk (Fp.mk (↑212:Int)),Jf.mk (Fp.mk (↑212:Int)),Jf.mk (Fp.mk (↑213:Int)),Jf.mk (Fp.mk (↑214:Int))].get?Internal c.kind.n.toNat).bind fun v1 =>
    bif decide (v1.right.f=(↑212:Int)) then(bif decide (0≤c.part) then(bif decide (c.part≤15) then(some (decide (c.sg=0),())) else
    some (false,())) else
    some (false,())) else
    bif decide (v1.right.f=(↑213:Int)) then(bif decide (c.part=0) then(bif decide (1≤c.sg) then(some (decide (c.sg≤999),())) else
    some (false,())) else
    some (false,())) else
    bif decide (v1.right.f=(↑214:Int)) then(bif decide (c.part=0) then(some (decide (c.sg=0),())) else
    some (false,())) else
    none) else
    some (false,())) else
    some (false,())) else
    some (false,())) else
    some (false,())) else
    some (false,())) else
    some (false,())) else
    some (false,())
def ND (n:Nat) (y:C.Ds Ty (Ai G4)):Option (YT Ty Jx):=FR n y.1
noncomputable def fpit_Card_valid_law (n:Nat):AH Ty:=AI G4 0 Jx (ND n)
noncomputable def fpit_Card_valid_T (n:Nat):List (Nat×AH Ty):=[]
theorem Tk (n:Nat):Au Tryz.prog (fpit_Card_valid_T n):=trivial
noncomputable def fpit_Card_valid_C (n:Nat):A7 Ty:=[]
theorem UC (n:Nat) (x:C.Ds Ty (Ai G4)):(A1 Tryz.prog 34 (An Tryz.prog (fpit_Card_valid_T n) []) (Ah (fpit_Card_valid_C n)) (Ap Tryz.f106) (A0 G4 x)).runK (Aw Tryz.prog Tryz.f106.results.toList 0 Jx)=ND n x:=by kernel_rfl
theorem Ra (n:Nat):Av Tryz.prog 106 (fpit_Card_valid_law n):=Ax Tryz.func106 rfl rfl (by decide) rfl Aa Ab (Ac Aa Ab (Tk n) Ak) (Ae (fn:=Tryz.f106) (L:=fpit_Card_valid_C n) (ks:=[]) trivial (by kernel_rfl) (by kernel_rfl)) (UC n)
def GS:List (Nat×C):=[(0,.l 180),(1,.f 158 [] [.p [.f 106 [] []]]),(7,.s 3),(8,.s 3)]
def Mq:List Wo:=[⟨.exit 0,[.p [.f 106 [] []]],[],[]⟩,⟨.ret,[.p [.f 106 [] []]],[(4,.s 3)],[]⟩]
def GT:List (Nat×C):=[(4,.p [.m 3 180,.o 3]),(20,.l 180),(21,.s 3),(22,.s 3)]
def Mr:List Wo:=[⟨.exit 1,[.p [.m 3 180,.o 3],.q 1],[(4,.q 0)],[]⟩,⟨.ret,[.p [.m 3 180,.o 3],.q 1],[(2,.z),(3,.s 3)],[]⟩]
def NE:List (Nat×C):=[(0,.l 180)]
def RV:List Wo:=[⟨.ret,[],[],[.z,.s 3]⟩,⟨.ret,[],[],[.p [.m 3 180,.l 3],.s 3]⟩]
def Fv:Nat→(List Ay)→Int→Int→Option ((((Unit×Unit)×Unit)×Unit) ⊕ ((((Unit×Unit)×Unit)×Int×Unit)))
  | 0,_,_,_=>none
  | n+1,s,x7,x8 =>
    bif decide (x8<x7) then((AC s x8).bind fun v0 =>
    (FR n v0).bind fun v1 =>
    bif !v1.fst then(some (.inr ((((),()),()),(x8,())))) else
    Fv n s x7 (IntKind.i64.wrap (x8+1))) else
    some (.inl ((((),()),()),()))
def Jy (n:Nat) (y:C.Ds Ty (Ai GS)):Option (YT Ty Mq):=Fv n y.1 y.2.2.1 y.2.2.2.1
noncomputable def fpit_read_i2_cut (n:Nat):St Ty→Tr (Lf Ty):=C3 GS 1 Mq (Jy n)
def Cj:Nat→(List (Int×Ay))→(List Int)→(List Ay)→Int→Int→Option ((((List (Int×Ay))×List Int×Unit)×Unit×Unit×Unit) ⊕ ((((List (Int×Ay))×List Int×Unit)×Unit×Unit×Int×Unit)))
  | 0,_,_,_,_,_=>none
  | n+1,b1,b2,x20,x21,x22 =>
    bif decide (x22<x21) then((AC x20 x22).bind fun v0 =>
    bif Gc Cw b1 v0.number then(bif !(decide ((AZ Cw b1 v0.number (Ay.mk 0 0 0 (IK.mk 0) 0 0)).bus=v0.bus) && (decide ((AZ Cw b1 v0.number (Ay.mk 0 0 0 (IK.mk 0) 0 0)).number=v0.number) && (decide ((AZ Cw b1 v0.number (Ay.mk 0 0 0 (IK.mk 0) 0 0)).minute=v0.minute) && (decide ((AZ Cw b1 v0.number (Ay.mk 0 0 0 (IK.mk 0) 0 0)).kind.n=v0.kind.n) && (decide ((AZ Cw b1 v0.number (Ay.mk 0 0 0 (IK.mk 0) 0 0)).part=v0.part) && (decide ((AZ Cw b1 v0.number (Ay.mk 0 0 0 (IK.mk 0) 0 0)).sg=v0.sg) && true)))))) then(some (.inr ((b1,(b2,())),((),((),(6,())))))) else
    bif !Gc Cw b1 v0.number then((app b2 [v0.number]).bind fun v1 =>
    Cj n (Je Cw b1 v0.number v0) v1 x20 x21 (IntKind.i64.wrap (x22+1))) else
    Cj n b1 b2 x20 x21 (IntKind.i64.wrap (x22+1))) else
    bif !Gc Cw b1 v0.number then((app b2 [v0.number]).bind fun v1 =>
    Cj n (Je Cw b1 v0.number v0) v1 x20 x21 (IntKind.i64.wrap (x22+1))) else
    Cj n b1 b2 x20 x21 (IntKind.i64.wrap (x22+1))) else
    some (.inl ((b1,(b2,())),((),((),()))))
def Jz (n:Nat) (y:C.Ds Ty (Ai GT)):Option (YT Ty Mr):=Cj n y.1.1 y.1.2.1 y.2.1 y.2.2.1 y.2.2.2.1
noncomputable def fpit_read_l1_cut (n:Nat):St Ty→Tr (Lf Ty):=C3 GT 2 Mr (Jz n)
def OC (n:Nat) (l:List Ay):Option ((Unit×Int×Unit) ⊕ ((((List (Int×Ay))×List Int×Unit)×Int×Unit))) :=
    bif decide ((↑l.length:Int)>40) then(some (.inl ((),(3,())))) else
    (Fv n l (↑l.length:Int) 0).bind fun v0 =>
    Sum.elim (fun v1=>(Cj n [] [] l (↑l.length:Int) 0).bind fun v2 =>
    Sum.elim (fun v3=>(Ajv v3.fst.snd.fst).bind fun v4 =>
    some (.inr ((v3.fst.fst,(v4,())),(0,())))) (fun v3=>some (.inl ((),(v3.snd.snd.snd.fst,())))) (v2)) (fun v1=>bif !!decide (v1.snd.fst≥0) then(some (.inl ((),(1,())))) else
    (Cj n [] [] l (↑l.length:Int) 0).bind fun v2 =>
    Sum.elim (fun v3=>(Ajv v3.fst.snd.fst).bind fun v4 =>
    some (.inr ((v3.fst.fst,(v4,())),(0,())))) (fun v3=>some (.inl ((),(v3.snd.snd.snd.fst,())))) (v2)) (v0)
def Yt (n:Nat) (y:C.Ds Ty (Ai NE)):Option (YT Ty RV):=OC n y.1
noncomputable def fpit_read_law (n:Nat):AH Ty:=AI NE 0 RV (Yt n)
noncomputable def fpit_read_T (n:Nat):List (Nat×AH Ty):=[(106,fpit_Card_valid_law n),(108,sortI_law n)]
theorem NW (n:Nat):Au Tryz.prog (fpit_read_T n):=⟨Ra n,⟨Aim n,trivial⟩⟩
noncomputable def fpit_read_i2_C (n:Nat):A7 Ty:=[]
theorem Z7 (n:Nat) (x:C.Ds Ty (Ai GS)):(A1 Tryz.prog 19 (An Tryz.prog (fpit_read_T n) []) (Ah (fpit_read_i2_C n)) (Ar 2 Tryz.f210) (A0 GS x)).runK (AJ 1 GS Mq (Jy n))=Jy (n+1) x:=by kernel_rfl
theorem Z8 (n:Nat):AF true Tryz.prog 19 (fpit_read_i2_cut n) (.loop (Ar 2 Tryz.f210)):=AM fun x y hy=>A6 (Fn:=Jy) Aa Ab (fun n=>Ac Aa Ab (NW n) Ak) (fun h=>by cases h) (fun h=>by cases h) (fun n=>(Ae (fn:=Tryz.f210) (L:=fpit_read_i2_C n) (ks:=[]) trivial (by kernel_rfl) (by kernel_rfl))) (by decide) (fun _=>rfl) Z7 hy
noncomputable def fpit_read_J1 (n:Nat):Tj Ty:=[(210,[(.loop 2,fpit_read_i2_cut n)])]
theorem RW (n:Nat):NA Tryz.prog (fpit_read_J1 n):=⟨Im (f:=210) Tryz.func210 rfl (Ae (fn:=Tryz.f210) (L:=[(.loop 2,fpit_read_i2_cut n)]) (ks:=[.loop 2]) ⟨Z8 n,trivial⟩ (by kernel_rfl) (by kernel_rfl)),trivial⟩
noncomputable def fpit_read_l1_C (n:Nat):A7 Ty:=[]
theorem Z9 (n:Nat) (x:C.Ds Ty (Ai GT)):(A1 Tryz.prog 69 (An Tryz.prog (fpit_read_T n) (fpit_read_J1 n)) (Ah (fpit_read_l1_C n)) (Ar 7 Tryz.f66) (A0 GT x)).runK (AJ 2 GT Mr (Jz n))=Jz (n+1) x:=by kernel_rfl
theorem ZA (n:Nat):AF true Tryz.prog 69 (fpit_read_l1_cut n) (.loop (Ar 7 Tryz.f66)):=AM fun x y hy=>A6 (Fn:=Jz) Aa Ab (fun n=>Ac Aa Ab (NW n) (RW n)) (fun h=>by cases h) (fun h=>by cases h) (fun n=>(Ae (fn:=Tryz.f66) (L:=fpit_read_l1_C n) (ks:=[]) trivial (by kernel_rfl) (by kernel_rfl))) (by decide) (fun _=>rfl) Z9 hy
noncomputable def fpit_read_C (n:Nat):A7 Ty:=[(.loop 7,fpit_read_l1_cut n)]
theorem Agv (n:Nat) (x:C.Ds Ty (Ai NE)):(A1 Tryz.prog 69 (An Tryz.prog (fpit_read_T n) (fpit_read_J1 n)) (Ah (fpit_read_C n)) (Ap Tryz.f66) (A0 NE x)).runK (Aw Tryz.prog Tryz.f66.results.toList 0 RV)=Yt n x:=by kernel_rfl
theorem QP (n:Nat):Av Tryz.prog 66 (fpit_read_law n):=Ax Tryz.func66 rfl rfl (by decide) rfl Aa Ab (Ac Aa Ab (NW n) (RW n)) (Ae (fn:=Tryz.f66) (L:=fpit_read_C n) (ks:=[.loop 7]) ⟨ZA n,trivial⟩ (by kernel_rfl) (by kernel_rfl)) (Agv n)
def G5:List (Nat×C):=[(0,.l 180)]
def J0:List Wo:=[⟨.ret,[],[],[.s 3]⟩]
def Io (n:Nat) (l:List Ay):Option ((Int×Unit)) :=
    (OC n l).bind fun v0 =>
    Sum.elim (fun v1=>some (v1.snd.fst,())) (fun v1=>some (v1.snd.fst,())) (v0)
def NF (n:Nat) (y:C.Ds Ty (Ai G5)):Option (YT Ty J0):=Io n y.1
noncomputable def fpit_CheckCards_law (n:Nat):AH Ty:=HY (AI G5 0 J0 (NF n))
noncomputable def fpit_CheckCards_T (n:Nat):List (Nat×AH Ty):=[(66,fpit_read_law n)]
theorem Tl (n:Nat):Au Tryz.prog (fpit_CheckCards_T n):=⟨QP n,trivial⟩
noncomputable def fpit_CheckCards_C (n:Nat):A7 Ty:=[]
theorem UD (n:Nat) (x:C.Ds Ty (Ai G5)):(A1 Tryz.prog 11 (An Tryz.prog (fpit_CheckCards_T n) []) (Ah (fpit_CheckCards_C n)) (Ap Tryz.f309) (A0 G5 x)).runK (Aw Tryz.prog Tryz.f309.results.toList 0 J0)=NF n x:=by kernel_rfl
theorem Rb (n:Nat):Av Tryz.prog 309 (fpit_CheckCards_law n):=BI (Ax Tryz.func309 rfl rfl (by decide) rfl Aa Ab (Ac Aa Ab (Tl n) Ak) (Ae (fn:=Tryz.f309) (L:=fpit_CheckCards_C n) (ks:=[]) trivial (by kernel_rfl) (by kernel_rfl)) (UD n))
def J1:List (Nat×C):=[(0,.s 3)]
def Ms:List Wo:=[⟨.ret,[],[],[]⟩,⟨.pan,[],[],[.i 234 (.g 234)]⟩]
def Db (n:Nat) (e:Int):Option (Unit ⊕ ((AE×Unit))) :=
    (AA n (decide (e=0)) e).bind fun v0 =>
    Sum.elim (fun v1=>some (.inl ())) (fun v1=>some (.inr (v1.fst,()))) (v0)
def RX (n:Nat) (y:C.Ds Ty (Ai J1)):Option (YT Ty Ms):=Db n y.1
noncomputable def fgarage_must_law (n:Nat):AH Ty:=AI J1 0 Ms (RX n)
noncomputable def fgarage_must_T (n:Nat):List (Nat×AH Ty):=[(139,fgarage_ask_law n)]
theorem Xp (n:Nat):Au Tryz.prog (fgarage_must_T n):=⟨B3 n,trivial⟩
noncomputable def fgarage_must_C (n:Nat):A7 Ty:=[]
theorem ZB (n:Nat) (x:C.Ds Ty (Ai J1)):(A1 Tryz.prog 6 (An Tryz.prog (fgarage_must_T n) []) (Ah (fgarage_must_C n)) (Ap Tryz.f259) (A0 J1 x)).runK (Aw Tryz.prog Tryz.f259.results.toList 0 Ms)=RX n x:=by kernel_rfl
theorem Dx (n:Nat):Av Tryz.prog 259 (fgarage_must_law n):=Ax Tryz.func259 rfl rfl (by decide) rfl Aa Ab (Ac Aa Ab (Xp n) Ak) (Ae (fn:=Tryz.f259) (L:=fgarage_must_C n) (ks:=[]) trivial (by kernel_rfl) (by kernel_rfl)) (ZB n)
def Bz:List (Nat×C):=[(0,.u 114),(3,.u 180),(11,.l 180),(12,.s 3),(13,.s 3)]
def DT:List Wo:=[⟨.exit 0,[.u 114,.u 180],[(0,.q 0),(3,.q 1)],[]⟩,⟨.pan,[.u 114,.u 180],[],[.i 234 (.g 234)]⟩]
def Dc:List (Nat×C):=[(0,.u 114),(1,.g 180)]
def Fw:List Wo:=[⟨.ret,[.u 114],[],[]⟩,⟨.pan,[.u 114],[],[.i 234 (.g 234)]⟩]
def Bo:Nat→Af→Ay→(List Ay)→Int→Int→Option ((Af×Ay×Unit×Unit×Unit) ⊕ ((Af×Ay×AE×Unit)))
  | 0,_,_,_,_,_=>none
  | n+1,g,c,x11,x12,x13 =>
    bif decide (x13<x12) then((AC x11 x13).bind fun v0 =>
    (AA n (!(decide (v0.bus=c.bus) && (decide (v0.number=c.number) && (decide (v0.minute=c.minute) && (decide (v0.kind.n=c.kind.n) && (decide (v0.part=c.part) && (decide (v0.sg=c.sg) && true))))))) 6).bind fun v1 =>
    Sum.elim (fun v2=>Bo n g c x11 x12 (IntKind.i64.wrap (x13+1))) (fun v2=>some (.inr (g,(c,(v2.fst,()))))) (v1)) else
    some (.inl (g,(c,((),((),())))))
def BW (n:Nat) (y:C.Ds Ty (Ai Bz)):Option (YT Ty DT):=Bo n y.1 y.2.1 y.2.2.1 y.2.2.2.1 y.2.2.2.2.1
noncomputable def fgarage_session_card_l1_cut (n:Nat):St Ty→Tr (Lf Ty):=C3 Bz 2 DT (BW n)
def Bt (n:Nat) (g:Af) (c:Ay):Option ((Af×Unit) ⊕ ((Af×AE×Unit))) :=
    (Bo n g c g.state.cards (↑g.state.cards.length:Int) 0).bind fun v0 =>
    Sum.elim (fun v1=>(G3 n v1.fst.state.cards v1.snd.fst).bind fun v2 =>
    (Io n v2.fst).bind fun v3 =>
    (Db n v3.fst).bind fun v4 =>
    Sum.elim (fun v5=>some (.inl (Af.mk (Ao.mk v2.fst v1.fst.state.outs v1.fst.state.runs v1.fst.state.records v1.fst.state.week v1.fst.state.roster),()))) (fun v5=>some (.inr (v1.fst,(v5.fst,())))) (v4)) (fun v1=>some (.inr (v1.fst,(v1.snd.snd.fst,())))) (v0)
def J2 (n:Nat) (y:C.Ds Ty (Ai Dc)):Option (YT Ty Fw):=Bt n y.1 y.2.1
noncomputable def fgarage_session_card_law (n:Nat):AH Ty:=AI Dc 1 Fw (J2 n)
noncomputable def fgarage_session_card_T (n:Nat):List (Nat×AH Ty):=[(139,fgarage_ask_law n),(308,fgarage_with_Card_law n),(309,fpit_CheckCards_law n),(259,fgarage_must_law n)]
theorem HZ (n:Nat):Au Tryz.prog (fgarage_session_card_T n):=⟨B3 n,⟨OB n,⟨Rb n,⟨Dx n,trivial⟩⟩⟩⟩
noncomputable def fgarage_session_card_l1_C (n:Nat):A7 Ty:=[]
theorem Mt (n:Nat) (x:C.Ds Ty (Ai Bz)):(A1 Tryz.prog 37 (An Tryz.prog (fgarage_session_card_T n) []) (Ah (fgarage_session_card_l1_C n)) (Ar 2 Tryz.f258) (A0 Bz x)).runK (AJ 2 Bz DT (BW n))=BW (n+1) x:=by kernel_rfl
theorem Mu (n:Nat):AF true Tryz.prog 37 (fgarage_session_card_l1_cut n) (.loop (Ar 2 Tryz.f258)):=AM fun x y hy=>A6 (Fn:=BW) Aa Ab (fun n=>Ac Aa Ab (HZ n) Ak) (fun h=>by cases h) (fun h=>by cases h) (fun n=>(Ae (fn:=Tryz.f258) (L:=fgarage_session_card_l1_C n) (ks:=[]) trivial (by kernel_rfl) (by kernel_rfl))) (by decide) (fun _=>rfl) Mt hy
noncomputable def fgarage_session_card_C (n:Nat):A7 Ty:=[(.loop 2,fgarage_session_card_l1_cut n)]
theorem OD (n:Nat) (x:C.Ds Ty (Ai Dc)):(A1 Tryz.prog 37 (An Tryz.prog (fgarage_session_card_T n) []) (Ah (fgarage_session_card_C n)) (Ap Tryz.f258) (A0 Dc x)).runK (Aw Tryz.prog Tryz.f258.results.toList 1 Fw)=J2 n x:=by kernel_rfl
theorem BJ (n:Nat):Av Tryz.prog 258 (fgarage_session_card_law n):=Ax Tryz.func258 rfl rfl (by decide) rfl Aa Ab (Ac Aa Ab (HZ n) Ak) (Ae (fn:=Tryz.f258) (L:=fgarage_session_card_C n) (ks:=[.loop 2]) ⟨Mu n,trivial⟩ (by kernel_rfl) (by kernel_rfl)) (OD n)
def C4:List (Nat×C):=[(0,.u 114),(1,.v 3)]
def Ff:List Wo:=[⟨.ret,[.u 114],[],[]⟩,⟨.pan,[.u 114],[],[.i 234 (.g 234)]⟩]
def D8 (n:Nat) (g:Af) (n_:List Int):Option ((Af×Unit) ⊕ ((Af×AE×Unit))) :=
    bif n_.length.beq 5 then((AC n_ 0).bind fun v0 =>
    (n_.get?Internal (Int.toNat 0)).bind fun v1 =>
    bif n_.length.beq 5 then((AC n_ 1).bind fun v2 =>
    (n_.get?Internal (Int.toNat 1)).bind fun v3 =>
    bif n_.length.beq 5 then((AC n_ 2).bind fun v4 =>
    (n_.get?Internal (Int.toNat 2)).bind fun v5 =>
    bif n_.length.beq 5 then((AC n_ 3).bind fun v6 =>
    (n_.get?Internal (Int.toNat 3)).bind fun v7 =>
    (Bt n g (Ay.mk v1 v3 v5 (IK.mk 0) v7 0)).bind fun v8 =>
    Sum.elim (fun v9=>some (.inl (v9.fst,()))) (fun v9=>some (.inr (v9.fst,(v9.snd.fst,())))) (v8)) else
    none) else
    none) else
    none) else
    none
def IW (n:Nat) (y:C.Ds Ty (Ai C4)):Option (YT Ty Ff):=D8 n y.1 y.2.1
noncomputable def fgarage_session_found_law (n:Nat):AH Ty:=AI C4 1 Ff (IW n)
noncomputable def fgarage_session_found_T (n:Nat):List (Nat×AH Ty):=[(258,fgarage_session_card_law n)]
theorem MQ (n:Nat):Au Tryz.prog (fgarage_session_found_T n):=⟨BJ n,trivial⟩
noncomputable def fgarage_session_found_C (n:Nat):A7 Ty:=[]
theorem NX (n:Nat) (x:C.Ds Ty (Ai C4)):(A1 Tryz.prog 15 (An Tryz.prog (fgarage_session_found_T n) []) (Ah (fgarage_session_found_C n)) (Ap Tryz.f189) (A0 C4 x)).runK (Aw Tryz.prog Tryz.f189.results.toList 1 Ff)=IW n x:=by kernel_rfl
theorem G6 (n:Nat):Av Tryz.prog 189 (fgarage_session_found_law n):=Ax Tryz.func189 rfl rfl (by decide) rfl Aa Ab (Ac Aa Ab (MQ n) Ak) (Ae (fn:=Tryz.f189) (L:=fgarage_session_found_C n) (ks:=[]) trivial (by kernel_rfl) (by kernel_rfl)) (NX n)
def Dd:List (Nat×C):=[(0,.u 114),(1,.v 3)]
def Fx:List Wo:=[⟨.ret,[.u 114],[],[]⟩,⟨.pan,[.u 114],[],[.i 234 (.g 234)]⟩]
def Ec (n:Nat) (g:Af) (n_:List Int):Option ((Af×Unit) ⊕ ((Af×AE×Unit))) :=
    bif n_.length.beq 5 then((AC n_ 0).bind fun v0 =>
    (n_.get?Internal (Int.toNat 0)).bind fun v1 =>
    bif n_.length.beq 5 then((AC n_ 1).bind fun v2 =>
    (n_.get?Internal (Int.toNat 1)).bind fun v3 =>
    bif n_.length.beq 5 then((AC n_ 2).bind fun v4 =>
    (n_.get?Internal (Int.toNat 2)).bind fun v5 =>
    bif n_.length.beq 5 then((AC n_ 3).bind fun v6 =>
    (n_.get?Internal (Int.toNat 3)).bind fun v7 =>
    (Bt n g (Ay.mk v1 v3 v5 (IK.mk 1) v7 0)).bind fun v8 =>
    Sum.elim (fun v9=>some (.inl (v9.fst,()))) (fun v9=>some (.inr (v9.fst,(v9.snd.fst,())))) (v8)) else
    none) else
    none) else
    none) else
    none
def J3 (n:Nat) (y:C.Ds Ty (Ai Dd)):Option (YT Ty Fx):=Ec n y.1 y.2.1
noncomputable def fgarage_session_held_law (n:Nat):AH Ty:=AI Dd 1 Fx (J3 n)
noncomputable def fgarage_session_held_T (n:Nat):List (Nat×AH Ty):=[(258,fgarage_session_card_law n)]
theorem NY (n:Nat):Au Tryz.prog (fgarage_session_held_T n):=⟨BJ n,trivial⟩
noncomputable def fgarage_session_held_C (n:Nat):A7 Ty:=[]
theorem OE (n:Nat) (x:C.Ds Ty (Ai Dd)):(A1 Tryz.prog 15 (An Tryz.prog (fgarage_session_held_T n) []) (Ah (fgarage_session_held_C n)) (Ap Tryz.f190) (A0 Dd x)).runK (Aw Tryz.prog Tryz.f190.results.toList 1 Fx)=J3 n x:=by kernel_rfl
theorem GU (n:Nat):Av Tryz.prog 190 (fgarage_session_held_law n):=Ax Tryz.func190 rfl rfl (by decide) rfl Aa Ab (Ac Aa Ab (NY n) Ak) (Ae (fn:=Tryz.f190) (L:=fgarage_session_held_C n) (ks:=[]) trivial (by kernel_rfl) (by kernel_rfl)) (OE n)
def Ck:List (Nat×C):=[(0,.u 114),(1,.v 3)]
def E0:List Wo:=[⟨.ret,[.u 114],[],[]⟩,⟨.pan,[.u 114],[],[.i 234 (.g 234)]⟩]
def De (n:Nat) (g:Af) (n_:List Int):Option ((Af×Unit) ⊕ ((Af×AE×Unit))) :=
    bif n_.length.beq 5 then((AC n_ 0).bind fun v0 =>
    (n_.get?Internal (Int.toNat 0)).bind fun v1 =>
    bif n_.length.beq 5 then((AC n_ 1).bind fun v2 =>
    (n_.get?Internal (Int.toNat 1)).bind fun v3 =>
    bif n_.length.beq 5 then((AC n_ 2).bind fun v4 =>
    (n_.get?Internal (Int.toNat 2)).bind fun v5 =>
    bif n_.length.beq 5 then((AC n_ 3).bind fun v6 =>
    (n_.get?Internal (Int.toNat 3)).bind fun v7 =>
    (Bt n g (Ay.mk v1 v3 v5 (IK.mk 2) 0 v7)).bind fun v8 =>
    Sum.elim (fun v9=>some (.inl (v9.fst,()))) (fun v9=>some (.inr (v9.fst,(v9.snd.fst,())))) (v8)) else
    none) else
    none) else
    none) else
    none
def Ia (n:Nat) (y:C.Ds Ty (Ai Ck)):Option (YT Ty E0):=De n y.1 y.2.1
noncomputable def fgarage_session_signed_law (n:Nat):AH Ty:=AI Ck 1 E0 (Ia n)
noncomputable def fgarage_session_signed_T (n:Nat):List (Nat×AH Ty):=[(258,fgarage_session_card_law n)]
theorem Mv (n:Nat):Au Tryz.prog (fgarage_session_signed_T n):=⟨BJ n,trivial⟩
noncomputable def fgarage_session_signed_C (n:Nat):A7 Ty:=[]
theorem MR (n:Nat) (x:C.Ds Ty (Ai Ck)):(A1 Tryz.prog 15 (An Tryz.prog (fgarage_session_signed_T n) []) (Ah (fgarage_session_signed_C n)) (Ap Tryz.f191) (A0 Ck x)).runK (Aw Tryz.prog Tryz.f191.results.toList 1 E0)=Ia n x:=by kernel_rfl
theorem FT (n:Nat):Av Tryz.prog 191 (fgarage_session_signed_law n):=Ax Tryz.func191 rfl rfl (by decide) rfl Aa Ab (Ac Aa Ab (Mv n) Ak) (Ae (fn:=Tryz.f191) (L:=fgarage_session_signed_C n) (ks:=[]) trivial (by kernel_rfl) (by kernel_rfl)) (MR n)
def BX:List (Nat×C):=[(0,.u 114),(1,.v 3)]
def DU:List Wo:=[⟨.ret,[.u 114],[],[]⟩,⟨.pan,[.u 114],[],[.i 234 (.g 234)]⟩]
def C5 (n:Nat) (g:Af) (n_:List Int):Option ((Af×Unit) ⊕ ((Af×AE×Unit))) :=
    bif n_.length.beq 5 then((AC n_ 0).bind fun v0 =>
    (n_.get?Internal (Int.toNat 0)).bind fun v1 =>
    bif n_.length.beq 5 then((AC n_ 1).bind fun v2 =>
    (n_.get?Internal (Int.toNat 1)).bind fun v3 =>
    bif n_.length.beq 5 then((AC n_ 2).bind fun v4 =>
    (n_.get?Internal (Int.toNat 2)).bind fun v5 =>
    (Bt n g (Ay.mk v1 v3 v5 (IK.mk 3) 0 0)).bind fun v6 =>
    Sum.elim (fun v7=>some (.inl (v7.fst,()))) (fun v7=>some (.inr (v7.fst,(v7.snd.fst,())))) (v6)) else
    none) else
    none) else
    none
def H6 (n:Nat) (y:C.Ds Ty (Ai BX)):Option (YT Ty DU):=C5 n y.1 y.2.1
noncomputable def fgarage_session_checked_law (n:Nat):AH Ty:=AI BX 1 DU (H6 n)
noncomputable def fgarage_session_checked_T (n:Nat):List (Nat×AH Ty):=[(258,fgarage_session_card_law n)]
theorem L4 (n:Nat):Au Tryz.prog (fgarage_session_checked_T n):=⟨BJ n,trivial⟩
noncomputable def fgarage_session_checked_C (n:Nat):A7 Ty:=[]
theorem Mw (n:Nat) (x:C.Ds Ty (Ai BX)):(A1 Tryz.prog 13 (An Tryz.prog (fgarage_session_checked_T n) []) (Ah (fgarage_session_checked_C n)) (Ap Tryz.f192) (A0 BX x)).runK (Aw Tryz.prog Tryz.f192.results.toList 1 DU)=H6 n x:=by kernel_rfl
theorem Fs (n:Nat):Av Tryz.prog 192 (fgarage_session_checked_law n):=Ax Tryz.func192 rfl rfl (by decide) rfl Aa Ab (Ac Aa Ab (L4 n) Ak) (Ae (fn:=Tryz.f192) (L:=fgarage_session_checked_C n) (ks:=[]) trivial (by kernel_rfl) (by kernel_rfl)) (Mw n)
def Hn:List (Nat×C):=[(0,.s 3),(1,.s 3),(2,.s 3)]
def K1:List Wo:=[⟨.ret,[],[],[.s 4]⟩]
def Bu (n:Nat) (n_:Int) (low:Int) (high:Int):Option ((Bool×Unit)) :=
    bif decide (low≤n_) then(some (decide (n_≤high),())) else
    some (false,())
def OF (n:Nat) (y:C.Ds Ty (Ai Hn)):Option (YT Ty K1):=Bu n y.1 y.2.1 y.2.2.1
noncomputable def fgarage_within_law (n:Nat):AH Ty:=AI Hn 0 K1 (OF n)
noncomputable def fgarage_within_T (n:Nat):List (Nat×AH Ty):=[]
theorem UE (n:Nat):Au Tryz.prog (fgarage_within_T n):=trivial
noncomputable def fgarage_within_C (n:Nat):A7 Ty:=[]
theorem VZ (n:Nat) (x:C.Ds Ty (Ai Hn)):(A1 Tryz.prog 15 (An Tryz.prog (fgarage_within_T n) []) (Ah (fgarage_within_C n)) (Ap Tryz.f75) (A0 Hn x)).runK (Aw Tryz.prog Tryz.f75.results.toList 0 K1)=OF n x:=by kernel_rfl
theorem Cx (n:Nat):Av Tryz.prog 75 (fgarage_within_law n):=Ax Tryz.func75 rfl rfl (by decide) rfl Aa Ab (Ac Aa Ab (UE n) Ak) (Ae (fn:=Tryz.f75) (L:=fgarage_within_C n) (ks:=[]) trivial (by kernel_rfl) (by kernel_rfl)) (VZ n)
def OG:List (Nat×C):=[(1,.s 3),(5,.s 3),(12,.l 60),(13,.s 3),(14,.s 3)]
def Xq:List Wo:=[⟨.exit 0,[],[(5,.s 3)],[]⟩]
def Agw:List (Nat×C):=[(0,.u 114),(1,.s 3)]
def AjA:List Wo:=[⟨.ret,[.u 114],[],[.s 3]⟩]
def Wa:Nat→Int→Int→(List TU)→Int→Int→Option ((Int×Unit))
  | 0,_,_,_,_,_=>none
  | n+1,bus,at_,x12,x13,x14 =>
    bif decide (x14<x13) then((AC x12 x14).bind fun v0 =>
    bif decide (v0.bus=bus) then(some (x14,())) else
    Wa n bus at_ x12 x13 (IntKind.i64.wrap (x14+1))) else
    some (at_,())
def Tc (n:Nat) (y:C.Ds Ty (Ai OG)):Option (YT Ty Xq):=Wa n y.1 y.2.1 y.2.2.1 y.2.2.2.1 y.2.2.2.2.1
noncomputable def gone_l1_cut (n:Nat):St Ty→Tr (Lf Ty):=C3 OG 0 Xq (Tc n)
def AlL (n:Nat) (g:Af) (bus:Int):Option ((Af×Int×Unit)) :=
    (Wa n bus (-1) g.state.outs (↑g.state.outs.length:Int) 0).bind fun v0 =>
    some (g,(v0.fst,()))
def AnQ (n:Nat) (y:C.Ds Ty (Ai Agw)):Option (YT Ty AjA):=AlL n y.1 y.2.1
noncomputable def gone_law (n:Nat):AH Ty:=AI Agw 1 AjA (AnQ n)
noncomputable def gone_T (n:Nat):List (Nat×AH Ty):=[]
theorem Ais (n:Nat):Au Tryz.prog (gone_T n):=trivial
noncomputable def gone_l1_C (n:Nat):A7 Ty:=[]
theorem AjB (n:Nat) (x:C.Ds Ty (Ai OG)):(A1 Tryz.prog 26 (An Tryz.prog (gone_T n) []) (Ah (gone_l1_C n)) (Ar 3 Tryz.f94) (A0 OG x)).runK (AJ 0 OG Xq (Tc n))=Tc (n+1) x:=by kernel_rfl
theorem AjC (n:Nat):AF true Tryz.prog 26 (gone_l1_cut n) (.loop (Ar 3 Tryz.f94)):=AM fun x y hy=>A6 (Fn:=Tc) Aa Ab (fun n=>Ac Aa Ab (Ais n) Ak) (fun h=>by cases h) (fun h=>by cases h) (fun n=>(Ae (fn:=Tryz.f94) (L:=gone_l1_C n) (ks:=[]) trivial (by kernel_rfl) (by kernel_rfl))) (by decide) (fun _=>rfl) AjB hy
noncomputable def gone_C (n:Nat):A7 Ty:=[(.loop 3,gone_l1_cut n)]
theorem Apa (n:Nat) (x:C.Ds Ty (Ai Agw)):(A1 Tryz.prog 26 (An Tryz.prog (gone_T n) []) (Ah (gone_C n)) (Ap Tryz.f94) (A0 Agw x)).runK (Aw Tryz.prog Tryz.f94.results.toList 1 AjA)=AnQ n x:=by kernel_rfl
theorem Ac7 (n:Nat):Av Tryz.prog 94 (gone_law n):=Ax Tryz.func94 rfl rfl (by decide) rfl Aa Ab (Ac Aa Ab (Ais n) Ak) (Ae (fn:=Tryz.f94) (L:=gone_C n) (ks:=[.loop 3]) ⟨AjC n,trivial⟩ (by kernel_rfl) (by kernel_rfl)) (Apa n)
def Cy:List (Nat×C):=[(0,.y 0 69 [5,6,7] [.p [.s 3],.p [.o 3],.p [.f 109 [.p [.m 3 180,.l 3]] []]]),(1,.p [.q 4]),(2,.p [.s 3]),(10,.l 3),(11,.s 3),(12,.s 3)]
def GV:List Wo:=[⟨.exit 0,[.y 0 69 [5,6,7] [.p [.s 3],.p [.o 3],.p [.f 109 [.p [.m 3 180,.l 3]] []]],.q 1,.q 2,.q 3,.q 4,.q 5,.p [.q 4],.p [.s 3]],[],[]⟩,⟨.ret,[.y 0 69 [5,6,7] [.p [.s 3],.p [.o 3],.p [.f 109 [.p [.m 3 180,.l 3]] []]],.q 1,.q 2,.q 3,.q 4,.q 5,.p [.q 4],.p [.s 3]],[],[]⟩]
def G7:List (Nat×C):=[(0,.p [.m 3 180,.l 3]),(1,.s 3),(2,.s 3)]
def J4:List Wo:=[⟨.ret,[.p [.m 3 180,.l 3],.q 1],[],[.o 3]⟩]
def AU:Nat→Int→(List Int)→(List (Int×Ay))→(List Int)→Int→(List Int)→Int→Int→Option ((((Int×Unit)×(List Int×Unit)×(((((List (Int×Ay))×List Int×Unit)×Unit)×Unit)×Unit)×Unit)×Unit×Unit×Unit×Unit×Unit×(Unit×Unit)×(Int×Unit)×Unit) ⊕ ((((Int×Unit)×(List Int×Unit)×(((((List (Int×Ay))×List Int×Unit)×Unit)×Unit)×Unit)×Unit)×Unit×Unit×Unit×Unit×Unit×(Unit×Unit)×(Int×Unit)×Unit)))
  | 0,_,_,_,_,_,_,_,_=>none
  | n+1,yield1,yield2,yield3,yield4,x2,x10,x11,x12 =>
    bif decide (x12<x11) then((AC x10 x12).bind fun v0 =>
    bif decide ((AZ Cw yield3 v0 (Ay.mk 0 0 0 (IK.mk 0) 0 0)).bus=x2) then(bif !decide ((AZ Cw yield3 v0 (Ay.mk 0 0 0 (IK.mk 0) 0 0)).kind.n=0) then(bif decide ((AZ Cw yield3 v0 (Ay.mk 0 0 0 (IK.mk 0) 0 0)).kind.n=1) then((Akx n yield3 yield4 (AZ Cw yield3 v0 (Ay.mk 0 0 0 (IK.mk 0) 0 0)) yield1).bind fun v1 =>
    bif v1.snd.snd.fst then((app yield2 [(AZ Cw yield3 v0 (Ay.mk 0 0 0 (IK.mk 0) 0 0)).number]).bind fun v2 =>
    AU n yield1 v2 v1.fst.fst v1.fst.snd.fst x2 x10 x11 (IntKind.i64.wrap (x12+1))) else
    AU n yield1 yield2 v1.fst.fst v1.fst.snd.fst x2 x10 x11 (IntKind.i64.wrap (x12+1))) else
    AU n yield1 yield2 yield3 yield4 x2 x10 x11 (IntKind.i64.wrap (x12+1))) else
    (Akx n yield3 yield4 (AZ Cw yield3 v0 (Ay.mk 0 0 0 (IK.mk 0) 0 0)) yield1).bind fun v1 =>
    bif v1.snd.snd.fst then((app yield2 [(AZ Cw yield3 v0 (Ay.mk 0 0 0 (IK.mk 0) 0 0)).number]).bind fun v2 =>
    AU n yield1 v2 v1.fst.fst v1.fst.snd.fst x2 x10 x11 (IntKind.i64.wrap (x12+1))) else
    AU n yield1 yield2 v1.fst.fst v1.fst.snd.fst x2 x10 x11 (IntKind.i64.wrap (x12+1))) else
    AU n yield1 yield2 yield3 yield4 x2 x10 x11 (IntKind.i64.wrap (x12+1))) else
    some (.inl (((yield1,()),((yield2,()),(((((yield3,(yield4,())),()),()),()),()))),((),((),((),((),((),(((),()),((x2,()),())))))))))
def Ed (n:Nat) (y:C.Ds Ty (Ai Cy)):Option (YT Ty GV):=AU n y.1.1.1 y.1.2.1.1 y.1.2.2.1.1.1.1.1 y.1.2.2.1.1.1.1.2.1 y.2.2.1.1 y.2.2.2.1 y.2.2.2.2.1 y.2.2.2.2.2.1
noncomputable def fpit_book_opens_i1_cut (n:Nat):St Ty→Tr (Lf Ty):=C3 Cy 8 GV (Ed n)
def Ip (n:Nat) (b1:List (Int×Ay)) (b2:List Int) (bus:Int) (at_:Int):Option ((((List (Int×Ay))×List Int×Unit)×Unit×List Int×Unit)) :=
    (AU n at_ [] b1 b2 bus b2 (↑b2.length:Int) 0).bind fun v0 =>
    Sum.elim (fun v1=>some ((v1.fst.snd.snd.fst.fst.fst.fst.fst,(v1.fst.snd.snd.fst.fst.fst.fst.snd.fst,())),((),(v1.fst.snd.fst.fst,())))) (fun v1=>some ((v1.fst.snd.snd.fst.fst.fst.fst.fst,(v1.fst.snd.snd.fst.fst.fst.fst.snd.fst,())),((),(v1.fst.snd.fst.fst,())))) (v0)
def NG (n:Nat) (y:C.Ds Ty (Ai G7)):Option (YT Ty J4):=Ip n y.1.1 y.1.2.1 y.2.1 y.2.2.1
noncomputable def fpit_book_opens_law (n:Nat):AH Ty:=AI G7 2 J4 (NG n)
noncomputable def fpit_book_opens_T (n:Nat):List (Nat×AH Ty):=[(109,openB_law n)]
theorem HF (n:Nat):Au Tryz.prog (fpit_book_opens_T n):=⟨Air n,trivial⟩
noncomputable def fpit_book_opens_B (n:Nat):A7 Ty:=[]
noncomputable def fpit_book_opens_Y (n:Nat):List (Nat×AH Ty):=(A4,Aq3 Tryz.prog (An Tryz.prog (fpit_book_opens_T n) []) (Ah []) (Ah (fpit_book_opens_B n)) 69)::fpit_book_opens_T n
theorem Ln (n:Nat):Au Tryz.prog (fpit_book_opens_Y n):=⟨An1 Aa Ab (Ac Aa Ab (HF n) Ak) (fun _ _ _ h=>by cases h) (Ae (fn:=Tryz.f69) (c:=(RFs.rf 69).body) (N:=(RFs.rf 69).n) (L:=fpit_book_opens_B n) (ks:=[]) trivial (by kernel_rfl) (by kernel_rfl)),HF n⟩
noncomputable def fpit_book_opens_i1_C (n:Nat):A7 Ty:=[]
theorem Re (n:Nat) (x:C.Ds Ty (Ai Cy)):(A1 Tryz.prog 37 (An Tryz.prog (fpit_book_opens_Y n) []) (Ah (fpit_book_opens_i1_C n)) (Ar 1 Tryz.f163) (A0 Cy x)).runK (AJ 8 Cy GV (Ed n))=Ed (n+1) x:=by kernel_rfl
theorem Rf (n:Nat):AF true Tryz.prog 37 (fpit_book_opens_i1_cut n) (.loop (Ar 1 Tryz.f163)):=AM fun x y hy=>A6 (Fn:=Ed) Aa Ab (fun n=>Ac Aa Ab (Ln n) Ak) (fun h=>by cases h) (fun h=>by cases h) (fun n=>(Ae (fn:=Tryz.f163) (L:=fpit_book_opens_i1_C n) (ks:=[]) trivial (by kernel_rfl) (by kernel_rfl))) (by decide) (fun _=>rfl) Re hy
noncomputable def fpit_book_opens_K (n:Nat):Tj Ty:=[(163,[(.loop 1,fpit_book_opens_i1_cut n)])]
theorem Tm (n:Nat):NA Tryz.prog (fpit_book_opens_K n):=⟨Im (f:=163) Tryz.func163 rfl (Ae (fn:=Tryz.f163) (L:=[(.loop 1,fpit_book_opens_i1_cut n)]) (ks:=[.loop 1]) ⟨Rf n,trivial⟩ (by kernel_rfl) (by kernel_rfl)),trivial⟩
noncomputable def fpit_book_opens_rf (n:Nat):St Ty→Tr (Lf Ty):=Aqv Tryz.prog (An Tryz.prog (fpit_book_opens_Y n) (fpit_book_opens_K n)) (.tmp 13) 69 [5,6,7]
theorem RY (n:Nat):AF true Tryz.prog 25 (fpit_book_opens_rf n) (Mj (.rf 4) Tryz.f69):=An8 (Ac Aa Ab (Ln n) (Tm n)) (by kernel_rfl) (by kernel_rfl)
noncomputable def fpit_book_opens_C (n:Nat):A7 Ty:=[(.rf 4,fpit_book_opens_rf n)]
theorem UF (n:Nat) (x:C.Ds Ty (Ai G7)):(A1 Tryz.prog 25 (An Tryz.prog (fpit_book_opens_T n) []) (Ah (fpit_book_opens_C n)) (Ap Tryz.f69) (A0 G7 x)).runK (Aw Tryz.prog Tryz.f69.results.toList 2 J4)=NG n x:=by kernel_rfl
theorem Rh (n:Nat):Av Tryz.prog 69 (fpit_book_opens_law n):=Ax Tryz.func69 rfl rfl (by decide) rfl Aa Ab (Ac Aa Ab (HF n) Ak) (Ae (fn:=Tryz.f69) (L:=fpit_book_opens_C n) (ks:=[.rf 4]) ⟨RY n,trivial⟩ (by kernel_rfl) (by kernel_rfl)) (UF n)
def NH:List (Nat×C):=[(0,.l 180),(1,.s 3),(2,.s 3)]
def RZ:List Wo:=[⟨.ret,[],[],[.l 3,.s 3]⟩]
def DX (n:Nat) (l:List Ay) (bus:Int) (at_:Int):Option ((List Int×Int×Unit)) :=
    (OC n l).bind fun v0 =>
    Sum.elim (fun v1=>bif v1.snd.fst != 0 then(some ([],(v1.snd.fst,()))) else
    bif decide (0≤bus) then(bif !!decide (bus≤99) then(bif decide (0≤at_) then(bif !decide (at_≤1000000) then(some ([],(2,()))) else
    none) else
    some ([],(2,()))) else
    some ([],(2,()))) else
    some ([],(2,()))) (fun v1=>bif v1.snd.fst != 0 then(some ([],(v1.snd.fst,()))) else
    bif decide (0≤bus) then(bif !!decide (bus≤99) then(bif decide (0≤at_) then(bif !decide (at_≤1000000) then(some ([],(2,()))) else
    (Ip n v1.fst.fst v1.fst.snd.fst bus at_).bind fun v2 =>
    some (v2.snd.snd.fst,(0,()))) else
    some ([],(2,()))) else
    some ([],(2,()))) else
    some ([],(2,()))) (v0)
def Yu (n:Nat) (y:C.Ds Ty (Ai NH)):Option (YT Ty RZ):=DX n y.1 y.2.1 y.2.2.1
noncomputable def fpit_Open_law (n:Nat):AH Ty:=AI NH 0 RZ (Yu n)
noncomputable def fpit_Open_T (n:Nat):List (Nat×AH Ty):=[(66,fpit_read_law n),(69,fpit_book_opens_law n)]
theorem Ad8 (n:Nat):Au Tryz.prog (fpit_Open_T n):=⟨QP n,⟨Rh n,trivial⟩⟩
noncomputable def fpit_Open_C (n:Nat):A7 Ty:=[]
theorem Agx (n:Nat) (x:C.Ds Ty (Ai NH)):(A1 Tryz.prog 32 (An Tryz.prog (fpit_Open_T n) []) (Ah (fpit_Open_C n)) (Ap Tryz.f29) (A0 NH x)).runK (Aw Tryz.prog Tryz.f29.results.toList 0 RZ)=Yu n x:=by kernel_rfl
theorem Iq (n:Nat):Av Tryz.prog 29 (fpit_Open_law n):=Ax Tryz.func29 rfl rfl (by decide) rfl Aa Ab (Ac Aa Ab (Ad8 n) Ak) (Ae (fn:=Tryz.f29) (L:=fpit_Open_C n) (ks:=[]) trivial (by kernel_rfl) (by kernel_rfl)) (Agx n)
def Fy:List (Nat×C):=[(0,.l 60),(1,.g 60)]
def I7:List Wo:=[⟨.ret,[],[],[.l 60]⟩]
def Fg (n:Nat) (l:List TU) (x:TU):Option ((List TU×Unit)) :=
    (PQ n l).bind fun v0 =>
    (app v0.fst [x]).bind fun v1 =>
    some (v1,())
def Mx (n:Nat) (y:C.Ds Ty (Ai Fy)):Option (YT Ty I7):=Fg n y.1 y.2.1
noncomputable def fgarage_with_Out_law (n:Nat):AH Ty:=AI Fy 0 I7 (Mx n)
noncomputable def fgarage_with_Out_T (n:Nat):List (Nat×AH Ty):=[(262,clone60_law n)]
theorem Sa (n:Nat):Au Tryz.prog (fgarage_with_Out_T n):=⟨TZ n,trivial⟩
noncomputable def fgarage_with_Out_C (n:Nat):A7 Ty:=[]
theorem Tn (n:Nat) (x:C.Ds Ty (Ai Fy)):(A1 Tryz.prog 10 (An Tryz.prog (fgarage_with_Out_T n) []) (Ah (fgarage_with_Out_C n)) (Ap Tryz.f260) (A0 Fy x)).runK (Aw Tryz.prog Tryz.f260.results.toList 0 I7)=Mx n x:=by kernel_rfl
theorem PV (n:Nat):Av Tryz.prog 260 (fgarage_with_Out_law n):=Ax Tryz.func260 rfl rfl (by decide) rfl Aa Ab (Ac Aa Ab (Sa n) Ak) (Ae (fn:=Tryz.f260) (L:=fgarage_with_Out_C n) (ks:=[]) trivial (by kernel_rfl) (by kernel_rfl)) (Tn n)
def B7:List (Nat×C):=[(0,.u 114),(4,.s 3),(5,.s 3),(30,.l 62),(31,.s 3),(32,.s 3)]
def E1:List Wo:=[⟨.exit 0,[.u 114],[(0,.q 0),(4,.s 3),(5,.s 3)],[]⟩,⟨.pan,[.u 114],[],[.i 234 (.g 234)]⟩]
def D9:List (Nat×C):=[(0,.u 114),(1,.v 3)]
def Ge:List Wo:=[⟨.ret,[.u 114],[],[]⟩,⟨.pan,[.u 114],[],[.i 234 (.g 234)]⟩]
def AN:Nat→Af→Int→Int→(List Oq)→Int→Int→Option ((Af×Unit×Int×Int×Unit) ⊕ ((Af×AE×Unit)))
  | 0,_,_,_,_,_,_=>none
  | n+1,g,bus,at_,x30,x31,x32 =>
    bif decide (x32<x31) then((AC x30 x32).bind fun v0 =>
    bif !v0.bus != bus then((AA n (decide (v0.to_≤at_)) 8).bind fun v1 =>
    Sum.elim (fun v2=>AN n g bus at_ x30 x31 (IntKind.i64.wrap (x32+1))) (fun v2=>some (.inr (g,(v2.fst,())))) (v1)) else
    (AA n true 8).bind fun v1 =>
    Sum.elim (fun v2=>AN n g bus at_ x30 x31 (IntKind.i64.wrap (x32+1))) (fun v2=>some (.inr (g,(v2.fst,())))) (v1)) else
    some (.inl (g,((),(bus,(at_,())))))
def Cl (n:Nat) (y:C.Ds Ty (Ai B7)):Option (YT Ty E1):=AN n y.1 y.2.1 y.2.2.1 y.2.2.2.1 y.2.2.2.2.1 y.2.2.2.2.2.1
noncomputable def fgarage_session_out_l1_cut (n:Nat):St Ty→Tr (Lf Ty):=C3 B7 1 E1 (Cl n)
def CL (n:Nat) (g:Af) (n_:List Int):Option ((Af×Unit) ⊕ ((Af×AE×Unit))) :=
    bif n_.length.beq 5 then((AC n_ 0).bind fun v0 =>
    (n_.get?Internal (Int.toNat 0)).bind fun v1 =>
    bif n_.length.beq 5 then((AC n_ 1).bind fun v2 =>
    (n_.get?Internal (Int.toNat 1)).bind fun v3 =>
    (Bu n v1 0 99).bind fun v4 =>
    bif v4.fst then((Bu n v3 0 1000000).bind fun v5 =>
    (AA n v5.fst 2).bind fun v6 =>
    Sum.elim (fun v7=>(AlL n g v1).bind fun v8 =>
    (AA n (decide (v8.snd.fst<0)) 8).bind fun v9 =>
    Sum.elim (fun v10=>(AN n v8.fst v1 v3 v8.fst.state.runs (↑v8.fst.state.runs.length:Int) 0).bind fun v11 =>
    Sum.elim (fun v12=>(DX n v12.fst.state.cards v12.snd.snd.fst v12.snd.snd.snd.fst).bind fun v13 =>
    (Db n v13.snd.fst).bind fun v14 =>
    Sum.elim (fun v15=>(AA n (decide ((↑v13.fst.length:Int)=0)) 11).bind fun v16 =>
    Sum.elim (fun v17=>(Fg n v12.fst.state.outs (TU.mk v12.snd.snd.fst v12.snd.snd.snd.fst)).bind fun v18 =>
    some (.inl (Af.mk (Ao.mk v12.fst.state.cards v18.fst v12.fst.state.runs v12.fst.state.records v12.fst.state.week v12.fst.state.roster),()))) (fun v17=>some (.inr (v12.fst,(v17.fst,())))) (v16)) (fun v15=>some (.inr (v12.fst,(v15.fst,())))) (v14)) (fun v12=>some (.inr (v12.fst,(v12.snd.fst,())))) (v11)) (fun v10=>some (.inr (v8.fst,(v10.fst,())))) (v9)) (fun v7=>some (.inr (g,(v7.fst,())))) (v6)) else
    (AA n false 2).bind fun v5 =>
    Sum.elim (fun v6=>(AlL n g v1).bind fun v7 =>
    (AA n (decide (v7.snd.fst<0)) 8).bind fun v8 =>
    Sum.elim (fun v9=>(AN n v7.fst v1 v3 v7.fst.state.runs (↑v7.fst.state.runs.length:Int) 0).bind fun v10 =>
    Sum.elim (fun v11=>(DX n v11.fst.state.cards v11.snd.snd.fst v11.snd.snd.snd.fst).bind fun v12 =>
    (Db n v12.snd.fst).bind fun v13 =>
    Sum.elim (fun v14=>(AA n (decide ((↑v12.fst.length:Int)=0)) 11).bind fun v15 =>
    Sum.elim (fun v16=>(Fg n v11.fst.state.outs (TU.mk v11.snd.snd.fst v11.snd.snd.snd.fst)).bind fun v17 =>
    some (.inl (Af.mk (Ao.mk v11.fst.state.cards v17.fst v11.fst.state.runs v11.fst.state.records v11.fst.state.week v11.fst.state.roster),()))) (fun v16=>some (.inr (v11.fst,(v16.fst,())))) (v15)) (fun v14=>some (.inr (v11.fst,(v14.fst,())))) (v13)) (fun v11=>some (.inr (v11.fst,(v11.snd.fst,())))) (v10)) (fun v9=>some (.inr (v7.fst,(v9.fst,())))) (v8)) (fun v6=>some (.inr (g,(v6.fst,())))) (v5)) else
    none) else
    none
def JY (n:Nat) (y:C.Ds Ty (Ai D9)):Option (YT Ty Ge):=CL n y.1 y.2.1
noncomputable def fgarage_session_out_law (n:Nat):AH Ty:=AI D9 1 Ge (JY n)
noncomputable def fgarage_session_out_T (n:Nat):List (Nat×AH Ty):=[(75,fgarage_within_law n),(139,fgarage_ask_law n),(94,gone_law n),(29,fpit_Open_law n),(259,fgarage_must_law n),(260,fgarage_with_Out_law n)]
theorem IX (n:Nat):Au Tryz.prog (fgarage_session_out_T n):=⟨Cx n,⟨B3 n,⟨Ac7 n,⟨Iq n,⟨Dx n,⟨PV n,trivial⟩⟩⟩⟩⟩⟩
noncomputable def fgarage_session_out_l1_C (n:Nat):A7 Ty:=[]
theorem MS (n:Nat) (x:C.Ds Ty (Ai B7)):(A1 Tryz.prog 78 (An Tryz.prog (fgarage_session_out_T n) []) (Ah (fgarage_session_out_l1_C n)) (Ar 5 Tryz.f193) (A0 B7 x)).runK (AJ 1 B7 E1 (Cl n))=Cl (n+1) x:=by kernel_rfl
theorem MT (n:Nat):AF true Tryz.prog 78 (fgarage_session_out_l1_cut n) (.loop (Ar 5 Tryz.f193)):=AM fun x y hy=>A6 (Fn:=Cl) Aa Ab (fun n=>Ac Aa Ab (IX n) Ak) (fun h=>by cases h) (fun h=>by cases h) (fun n=>(Ae (fn:=Tryz.f193) (L:=fgarage_session_out_l1_C n) (ks:=[]) trivial (by kernel_rfl) (by kernel_rfl))) (by decide) (fun _=>rfl) MS hy
noncomputable def fgarage_session_out_C (n:Nat):A7 Ty:=[(.loop 5,fgarage_session_out_l1_cut n)]
theorem PW (n:Nat) (x:C.Ds Ty (Ai D9)):(A1 Tryz.prog 78 (An Tryz.prog (fgarage_session_out_T n) []) (Ah (fgarage_session_out_C n)) (Ap Tryz.f193) (A0 D9 x)).runK (Aw Tryz.prog Tryz.f193.results.toList 1 Ge)=JY n x:=by kernel_rfl
theorem H7 (n:Nat):Av Tryz.prog 193 (fgarage_session_out_law n):=Ax Tryz.func193 rfl rfl (by decide) rfl Aa Ab (Ac Aa Ab (IX n) Ak) (Ae (fn:=Tryz.f193) (L:=fgarage_session_out_C n) (ks:=[.loop 5]) ⟨MT n,trivial⟩ (by kernel_rfl) (by kernel_rfl)) (PW n)
def Fz:List (Nat×C):=[(0,.l 62),(1,.g 62)]
def I8:List Wo:=[⟨.ret,[],[],[.l 62]⟩]
def Fh (n:Nat) (l:List Oq) (x:Oq):Option ((List Oq×Unit)) :=
    (Agq n l).bind fun v0 =>
    (app v0.fst [x]).bind fun v1 =>
    some (v1,())
def My (n:Nat) (y:C.Ds Ty (Ai Fz)):Option (YT Ty I8):=Fh n y.1 y.2.1
noncomputable def fgarage_with_Run_law (n:Nat):AH Ty:=AI Fz 0 I8 (My n)
noncomputable def fgarage_with_Run_T (n:Nat):List (Nat×AH Ty):=[(310,clone62_law n)]
theorem Sb (n:Nat):Au Tryz.prog (fgarage_with_Run_T n):=⟨Ad0 n,trivial⟩
noncomputable def fgarage_with_Run_C (n:Nat):A7 Ty:=[]
theorem To (n:Nat) (x:C.Ds Ty (Ai Fz)):(A1 Tryz.prog 10 (An Tryz.prog (fgarage_with_Run_T n) []) (Ah (fgarage_with_Run_C n)) (Ap Tryz.f263) (A0 Fz x)).runK (Aw Tryz.prog Tryz.f263.results.toList 0 I8)=My n x:=by kernel_rfl
theorem PX (n:Nat):Av Tryz.prog 263 (fgarage_with_Run_law n):=Ax Tryz.func263 rfl rfl (by decide) rfl Aa Ab (Ac Aa Ab (Sb n) Ak) (Ae (fn:=Tryz.f263) (L:=fgarage_with_Run_C n) (ks:=[]) trivial (by kernel_rfl) (by kernel_rfl)) (To n)
def Ee:List (Nat×C):=[(0,.u 114),(1,.v 3)]
def GW:List Wo:=[⟨.ret,[.u 114],[],[]⟩,⟨.pan,[.u 114],[],[.i 234 (.g 234)]⟩]
def Dy (n:Nat) (g:Af) (n_:List Int):Option ((Af×Unit) ⊕ ((Af×AE×Unit))) :=
    bif n_.length.beq 5 then((AC n_ 0).bind fun v0 =>
    (n_.get?Internal (Int.toNat 0)).bind fun v1 =>
    (AlL n g v1).bind fun v2 =>
    (AA n (decide (v2.snd.fst≥0)) 8).bind fun v3 =>
    Sum.elim (fun v4=>(AC v2.fst.state.outs v2.snd.fst).bind fun v5 =>
    bif n_.length.beq 5 then((AC n_ 1).bind fun v6 =>
    (n_.get?Internal (Int.toNat 1)).bind fun v7 =>
    (Bu n v7 v5.fr 1000000).bind fun v8 =>
    bif v8.fst then(bif n_.length.beq 5 then((AC n_ 2).bind fun v9 =>
    (n_.get?Internal (Int.toNat 2)).bind fun v10 =>
    (Bu n v10 0 1000).bind fun v11 =>
    (AA n v11.fst 2).bind fun v12 =>
    Sum.elim (fun v13=>(PQ n v2.fst.state.outs).bind fun v14 =>
    (Ags n v14.fst v2.snd.fst (IntKind.i64.wrap (v2.snd.fst+1))).bind fun v15 =>
    bif n_.length.beq 5 then((AC n_ 1).bind fun v16 =>
    (n_.get?Internal (Int.toNat 1)).bind fun v17 =>
    bif n_.length.beq 5 then((AC n_ 2).bind fun v18 =>
    (n_.get?Internal (Int.toNat 2)).bind fun v19 =>
    (Fh n v2.fst.state.runs (Oq.mk v5.bus v5.fr v17 v19)).bind fun v20 =>
    some (.inl (Af.mk (Ao.mk v2.fst.state.cards v15.fst v20.fst v2.fst.state.records v2.fst.state.week v2.fst.state.roster),()))) else
    none) else
    none) (fun v13=>some (.inr (v2.fst,(v13.fst,())))) (v12)) else
    none) else
    (AA n false 2).bind fun v9 =>
    Sum.elim (fun v10=>(PQ n v2.fst.state.outs).bind fun v11 =>
    (Ags n v11.fst v2.snd.fst (IntKind.i64.wrap (v2.snd.fst+1))).bind fun v12 =>
    bif n_.length.beq 5 then((AC n_ 1).bind fun v13 =>
    (n_.get?Internal (Int.toNat 1)).bind fun v14 =>
    bif n_.length.beq 5 then((AC n_ 2).bind fun v15 =>
    (n_.get?Internal (Int.toNat 2)).bind fun v16 =>
    (Fh n v2.fst.state.runs (Oq.mk v5.bus v5.fr v14 v16)).bind fun v17 =>
    some (.inl (Af.mk (Ao.mk v2.fst.state.cards v12.fst v17.fst v2.fst.state.records v2.fst.state.week v2.fst.state.roster),()))) else
    none) else
    none) (fun v10=>some (.inr (v2.fst,(v10.fst,())))) (v9)) else
    none) (fun v4=>some (.inr (v2.fst,(v4.fst,())))) (v3)) else
    none
def KJ (n:Nat) (y:C.Ds Ty (Ai Ee)):Option (YT Ty GW):=Dy n y.1 y.2.1
noncomputable def fgarage_session_in_law (n:Nat):AH Ty:=AI Ee 1 GW (KJ n)
noncomputable def fgarage_session_in_T (n:Nat):List (Nat×AH Ty):=[(94,gone_law n),(139,fgarage_ask_law n),(75,fgarage_within_law n),(262,clone60_law n),(261,delOut_law n),(263,fgarage_with_Run_law n)]
theorem PY (n:Nat):Au Tryz.prog (fgarage_session_in_T n):=⟨Ac7 n,⟨B3 n,⟨Cx n,⟨TZ n,⟨Agt n,⟨PX n,trivial⟩⟩⟩⟩⟩⟩
noncomputable def fgarage_session_in_C (n:Nat):A7 Ty:=[]
theorem Ri (n:Nat) (x:C.Ds Ty (Ai Ee)):(A1 Tryz.prog 65 (An Tryz.prog (fgarage_session_in_T n) []) (Ah (fgarage_session_in_C n)) (Ap Tryz.f194) (A0 Ee x)).runK (Aw Tryz.prog Tryz.f194.results.toList 1 GW)=KJ n x:=by kernel_rfl
theorem Ib (n:Nat):Av Tryz.prog 194 (fgarage_session_in_law n):=Ax Tryz.func194 rfl rfl (by decide) rfl Aa Ab (Ac Aa Ab (PY n) Ak) (Ae (fn:=Tryz.f194) (L:=fgarage_session_in_C n) (ks:=[]) trivial (by kernel_rfl) (by kernel_rfl)) (Ri n)
def B0:List (Nat×C):=[(0,.l 93),(3,.u 93),(7,.s 3),(8,.s 3)]
def DV:List Wo:=[⟨.exit 0,[.u 93],[],[]⟩,⟨.ret,[.u 93],[(4,.s 3)],[]⟩]
def Df:List (Nat×C):=[(0,.l 93),(1,.g 93)]
def F0:List Wo:=[⟨.ret,[],[],[.s 3]⟩]
def Bp:Nat→(List Aj)→Aj→Int→Int→Option ((Aj×Unit) ⊕ ((Aj×Int×Unit)))
  | 0,_,_,_,_=>none
  | n+1,s,v,x7,x8 =>
    bif decide (x8<x7) then((AC s x8).bind fun v0 =>
    bif decide (v.machine=v0.machine) && (decide (v.seq=v0.seq) && (decide (v.minute=v0.minute) && (decide (v.kind.n=v0.kind.n) && (decide (v.a=v0.a) && (decide (v.b=v0.b) && true))))) then(some (.inr (v,(x8,())))) else
    Bp n s v x7 (IntKind.i64.wrap (x8+1))) else
    some (.inl (v,()))
def BY (n:Nat) (y:C.Ds Ty (Ai B0)):Option (YT Ty DV):=Bp n y.1 y.2.1 y.2.2.1 y.2.2.2.1
noncomputable def fslices_Index_Record_l1_cut (n:Nat):St Ty→Tr (Lf Ty):=C3 B0 1 DV (BY n)
def GX (n:Nat) (s:List Aj) (v:Aj):Option ((Int×Unit)) :=
    (Bp n s v (↑s.length:Int) 0).bind fun v0 =>
    Sum.elim (fun v1=>some (-1,())) (fun v1=>some (v1.snd.fst,())) (v0)
def J5 (n:Nat) (y:C.Ds Ty (Ai Df)):Option (YT Ty F0):=GX n y.1 y.2.1
noncomputable def fslices_Index_Record_law (n:Nat):AH Ty:=HY (AI Df 0 F0 (J5 n))
noncomputable def fslices_Index_Record_T (n:Nat):List (Nat×AH Ty):=[]
theorem Ic (n:Nat):Au Tryz.prog (fslices_Index_Record_T n):=trivial
noncomputable def fslices_Index_Record_l1_C (n:Nat):A7 Ty:=[]
theorem Mz (n:Nat) (x:C.Ds Ty (Ai B0)):(A1 Tryz.prog 19 (An Tryz.prog (fslices_Index_Record_T n) []) (Ah (fslices_Index_Record_l1_C n)) (Ar 2 Tryz.f341) (A0 B0 x)).runK (AJ 1 B0 DV (BY n))=BY (n+1) x:=by kernel_rfl
theorem M3 (n:Nat):AF true Tryz.prog 19 (fslices_Index_Record_l1_cut n) (.loop (Ar 2 Tryz.f341)):=AM fun x y hy=>A6 (Fn:=BY) Aa Ab (fun n=>Ac Aa Ab (Ic n) Ak) (fun h=>by cases h) (fun h=>by cases h) (fun n=>(Ae (fn:=Tryz.f341) (L:=fslices_Index_Record_l1_C n) (ks:=[]) trivial (by kernel_rfl) (by kernel_rfl))) (by decide) (fun _=>rfl) Mz hy
noncomputable def fslices_Index_Record_C (n:Nat):A7 Ty:=[(.loop 2,fslices_Index_Record_l1_cut n)]
theorem OH (n:Nat) (x:C.Ds Ty (Ai Df)):(A1 Tryz.prog 19 (An Tryz.prog (fslices_Index_Record_T n) []) (Ah (fslices_Index_Record_C n)) (Ap Tryz.f341) (A0 Df x)).runK (Aw Tryz.prog Tryz.f341.results.toList 0 F0)=J5 n x:=by kernel_rfl
theorem M4 (n:Nat):Av Tryz.prog 341 (fslices_Index_Record_law n):=BI (Ax Tryz.func341 rfl rfl (by decide) rfl Aa Ab (Ac Aa Ab (Ic n) Ak) (Ae (fn:=Tryz.f341) (L:=fslices_Index_Record_C n) (ks:=[.loop 2]) ⟨M3 n,trivial⟩ (by kernel_rfl) (by kernel_rfl)) (OH n))
def BZ:List (Nat×C):=[(0,.l 93),(1,.g 93)]
def DW:List Wo:=[⟨.ret,[],[],[.s 4]⟩]
def C6 (n:Nat) (s:List Aj) (v:Aj):Option ((Bool×Unit)) :=
    (GX n s v).bind fun v0 =>
    some (decide (v0.fst≥0),())
def H8 (n:Nat) (y:C.Ds Ty (Ai BZ)):Option (YT Ty DW):=C6 n y.1 y.2.1
noncomputable def fslices_Contains_Record_law (n:Nat):AH Ty:=HY (AI BZ 0 DW (H8 n))
noncomputable def fslices_Contains_Record_T (n:Nat):List (Nat×AH Ty):=[(341,fslices_Index_Record_law n)]
theorem L5 (n:Nat):Au Tryz.prog (fslices_Contains_Record_T n):=⟨M4 n,trivial⟩
noncomputable def fslices_Contains_Record_C (n:Nat):A7 Ty:=[]
theorem M5 (n:Nat) (x:C.Ds Ty (Ai BZ)):(A1 Tryz.prog 9 (An Tryz.prog (fslices_Contains_Record_T n) []) (Ah (fslices_Contains_Record_C n)) (Ap Tryz.f311) (A0 BZ x)).runK (Aw Tryz.prog Tryz.f311.results.toList 0 DW)=H8 n x:=by kernel_rfl
theorem KM (n:Nat):Av Tryz.prog 311 (fslices_Contains_Record_law n):=BI (Ax Tryz.func311 rfl rfl (by decide) rfl Aa Ab (Ac Aa Ab (L5 n) Ak) (Ae (fn:=Tryz.f311) (L:=fslices_Contains_Record_C n) (ks:=[]) trivial (by kernel_rfl) (by kernel_rfl)) (M5 n))
def DA:List (Nat×C):=[(0,.g 93)]
def Gf:List Wo:=[⟨.ret,[],[],[.s 4]⟩]
def CM (n:Nat) (r:Aj):Option ((Bool×Unit)) :=
    bif decide (0≤r.machine) then(bif decide (r.machine≤999) then(bif decide (1≤r.seq) then(bif decide (r.seq≤9999) then(bif decide (0≤r.minute) then(bif decide (r.minute≤1000000) then(bif decide (IntKind.i64.wrap r.kind.n<(↑[Jf.mk (Fp.mk (↑302:Int)),Jf.mk (Fp.mk (↑303:Int)),Jf.mk (Fp.mk (↑304:Int))].length:Int)) then((AC [Jf.mk (Fp.mk (↑302:Int)),Jf.mk (Fp.mk (↑303:Int)),Jf.mk (Fp.mk (↑304:Int))] r.kind.n).bind fun v0 =>
    ([Jf.mk (Fp.mk (↑302:Int)),Jf.mk (Fp.mk (↑303:Int)),Jf.mk (Fp.mk (↑304:Int))].get?Internal r.kind.n.toNat).bind fun v1 =>
    bif decide (v1.right.f=(↑302:Int)) then(bif decide (0≤r.a) then(bif decide (r.a≤99) then(bif decide (0≤r.b) then(some (decide (r.b≤10000),())) else
    some (false,())) else
    some (false,())) else
    some (false,())) else
    bif decide (v1.right.f=(↑303:Int)) then(bif decide (0≤r.a) then(bif decide (r.a≤1000000) then(some (decide (r.b=0),())) else
    some (false,())) else
    some (false,())) else
    bif decide (v1.right.f=(↑304:Int)) then(bif decide (0≤r.a) then(bif decide (r.a≤9999) then(bif decide (0≤r.b) then(some (decide (r.b≤10000000),())) else
    some (false,())) else
    some (false,())) else
    some (false,())) else
    none) else
    some (false,())) else
    some (false,())) else
    some (false,())) else
    some (false,())) else
    some (false,())) else
    some (false,())) else
    some (false,())
def JZ (n:Nat) (y:C.Ds Ty (Ai DA)):Option (YT Ty Gf):=CM n y.1
noncomputable def fsheet_Record_valid_law (n:Nat):AH Ty:=AI DA 0 Gf (JZ n)
noncomputable def fsheet_Record_valid_T (n:Nat):List (Nat×AH Ty):=[]
theorem OI (n:Nat):Au Tryz.prog (fsheet_Record_valid_T n):=trivial
noncomputable def fsheet_Record_valid_C (n:Nat):A7 Ty:=[]
theorem PZ (n:Nat) (x:C.Ds Ty (Ai DA)):(A1 Tryz.prog 34 (An Tryz.prog (fsheet_Record_valid_T n) []) (Ah (fsheet_Record_valid_C n)) (Ap Tryz.f186) (A0 DA x)).runK (Aw Tryz.prog Tryz.f186.results.toList 0 Gf)=JZ n x:=by kernel_rfl
theorem MU (n:Nat):Av Tryz.prog 186 (fsheet_Record_valid_law n):=Ax Tryz.func186 rfl rfl (by decide) rfl Aa Ab (Ac Aa Ab (OI n) Ak) (Ae (fn:=Tryz.f186) (L:=fsheet_Record_valid_C n) (ks:=[]) trivial (by kernel_rfl) (by kernel_rfl)) (PZ n)
def CN:List (Nat×C):=[(0,.l 93),(1,.f 248 [] [.p [.f 186 [] []]]),(7,.s 3),(8,.s 3)]
def HG:List Wo:=[⟨.exit 0,[.p [.f 186 [] []]],[],[]⟩,⟨.ret,[.p [.f 186 [] []]],[(4,.s 3)],[]⟩]
def CO:List (Nat×C):=[(0,.l 28),(1,.f 246 [] [.p [.f 183 [] []]]),(7,.s 3),(8,.s 3)]
def HH:List Wo:=[⟨.exit 0,[.p [.f 183 [] []]],[],[]⟩,⟨.ret,[.p [.f 183 [] []]],[(4,.s 3)],[]⟩]
def CP:List (Nat×C):=[(0,.l 28),(1,.f 246 [] [.p [.f 184 [] []]]),(7,.s 3),(8,.s 3)]
def HI:List Wo:=[⟨.exit 0,[.p [.f 184 [] []]],[],[]⟩,⟨.ret,[.p [.f 184 [] []]],[(4,.s 3)],[]⟩]
def Ho:List (Nat×C):=[(0,.l 28)]
def K2:List Wo:=[⟨.ret,[],[],[.s 3]⟩]
def B4:Nat→(List Aj)→Int→Int→Option ((((Unit×Unit)×Unit)×Unit) ⊕ ((((Unit×Unit)×Unit)×Int×Unit)))
  | 0,_,_,_=>none
  | n+1,s,x7,x8 =>
    bif decide (x8<x7) then((AC s x8).bind fun v0 =>
    (CM n v0).bind fun v1 =>
    bif !v1.fst then(some (.inr ((((),()),()),(x8,())))) else
    B4 n s x7 (IntKind.i64.wrap (x8+1))) else
    some (.inl ((((),()),()),()))
def EG (n:Nat) (y:C.Ds Ty (Ai CN)):Option (YT Ty HG):=B4 n y.1 y.2.2.1 y.2.2.2.1
noncomputable def fsheet_checked_i1_cut (n:Nat):St Ty→Tr (Lf Ty):=C3 CN 1 HG (EG n)
def BK:Nat→(List (List Aj))→Int→Int→Option ((((Unit×Unit)×Unit)×Unit) ⊕ ((((Unit×Unit)×Unit)×Int×Unit)))
  | 0,_,_,_=>none
  | n+1,s,x7,x8 =>
    bif decide (x8<x7) then((AC s x8).bind fun v0 =>
    bif !decide ((↑v0.length:Int)≤60) then(some (.inr ((((),()),()),(x8,())))) else
    BK n s x7 (IntKind.i64.wrap (x8+1))) else
    some (.inl ((((),()),()),()))
def EH (n:Nat) (y:C.Ds Ty (Ai CO)):Option (YT Ty HH):=BK n y.1 y.2.2.1 y.2.2.2.1
noncomputable def fsheet_checked_i2_cut (n:Nat):St Ty→Tr (Lf Ty):=C3 CO 1 HH (EH n)
def Ba:Nat→(List (List Aj))→Int→Int→Option ((((Unit×Unit)×Unit)×Unit) ⊕ ((((Unit×Unit)×Unit)×Int×Unit)))
  | 0,_,_,_=>none
  | n+1,s,x7,x8 =>
    bif decide (x8<x7) then((AC s x8).bind fun v0 =>
    (B4 n v0 (↑v0.length:Int) 0).bind fun v1 =>
    Sum.elim (fun v2=>Ba n s x7 (IntKind.i64.wrap (x8+1))) (fun v2=>bif !!decide (v2.snd.fst≥0) then(some (.inr ((((),()),()),(x8,())))) else
    Ba n s x7 (IntKind.i64.wrap (x8+1))) (v1)) else
    some (.inl ((((),()),()),()))
def EI (n:Nat) (y:C.Ds Ty (Ai CP)):Option (YT Ty HI):=Ba n y.1 y.2.2.1 y.2.2.2.1
noncomputable def fsheet_checked_i3_cut (n:Nat):St Ty→Tr (Lf Ty):=C3 CP 1 HI (EI n)
def J6 (n:Nat) (lists:List (List Aj)):Option ((Int×Unit)) :=
    bif !decide ((↑lists.length:Int)>6) then((BK n lists (↑lists.length:Int) 0).bind fun v0 =>
    Sum.elim (fun v1=>(Ba n lists (↑lists.length:Int) 0).bind fun v2 =>
    Sum.elim (fun v3=>some (0,())) (fun v3=>bif !!decide (v3.snd.fst≥0) then(some (1,())) else
    some (0,())) (v2)) (fun v1=>bif !!decide (v1.snd.fst≥0) then(some (3,())) else
    (Ba n lists (↑lists.length:Int) 0).bind fun v2 =>
    Sum.elim (fun v3=>some (0,())) (fun v3=>bif !!decide (v3.snd.fst≥0) then(some (1,())) else
    some (0,())) (v2)) (v0)) else
    some (3,())
def OJ (n:Nat) (y:C.Ds Ty (Ai Ho)):Option (YT Ty K2):=J6 n y.1
noncomputable def fsheet_checked_law (n:Nat):AH Ty:=HY (AI Ho 0 K2 (OJ n))
noncomputable def fsheet_checked_T (n:Nat):List (Nat×AH Ty):=[(186,fsheet_Record_valid_law n)]
theorem F5 (n:Nat):Au Tryz.prog (fsheet_checked_T n):=⟨MU n,trivial⟩
noncomputable def fsheet_checked_i1_C (n:Nat):A7 Ty:=[]
theorem Sc (n:Nat) (x:C.Ds Ty (Ai CN)):(A1 Tryz.prog 19 (An Tryz.prog (fsheet_checked_T n) []) (Ah (fsheet_checked_i1_C n)) (Ar 2 Tryz.f301) (A0 CN x)).runK (AJ 1 CN HG (EG n))=EG (n+1) x:=by kernel_rfl
theorem KN (n:Nat):AF true Tryz.prog 19 (fsheet_checked_i1_cut n) (.loop (Ar 2 Tryz.f301)):=AM fun x y hy=>A6 (Fn:=EG) Aa Ab (fun n=>Ac Aa Ab (F5 n) Ak) (fun h=>by cases h) (fun h=>by cases h) (fun n=>(Ae (fn:=Tryz.f301) (L:=fsheet_checked_i1_C n) (ks:=[]) trivial (by kernel_rfl) (by kernel_rfl))) (by decide) (fun _=>rfl) Sc hy
noncomputable def fsheet_checked_J1 (n:Nat):Tj Ty:=[(301,[(.loop 2,fsheet_checked_i1_cut n)])]
theorem Lo (n:Nat):NA Tryz.prog (fsheet_checked_J1 n):=⟨Im (f:=301) Tryz.func301 rfl (Ae (fn:=Tryz.f301) (L:=[(.loop 2,fsheet_checked_i1_cut n)]) (ks:=[.loop 2]) ⟨KN n,trivial⟩ (by kernel_rfl) (by kernel_rfl)),trivial⟩
noncomputable def fsheet_checked_i2_C (n:Nat):A7 Ty:=[]
theorem Sd (n:Nat) (x:C.Ds Ty (Ai CO)):(A1 Tryz.prog 19 (An Tryz.prog (fsheet_checked_T n) (fsheet_checked_J1 n)) (Ah (fsheet_checked_i2_C n)) (Ar 2 Tryz.f300) (A0 CO x)).runK (AJ 1 CO HH (EH n))=EH (n+1) x:=by kernel_rfl
theorem Se (n:Nat):AF true Tryz.prog 19 (fsheet_checked_i2_cut n) (.loop (Ar 2 Tryz.f300)):=AM fun x y hy=>A6 (Fn:=EH) Aa Ab (fun n=>Ac Aa Ab (F5 n) (Lo n)) (fun h=>by cases h) (fun h=>by cases h) (fun n=>(Ae (fn:=Tryz.f300) (L:=fsheet_checked_i2_C n) (ks:=[]) trivial (by kernel_rfl) (by kernel_rfl))) (by decide) (fun _=>rfl) Sd hy
noncomputable def fsheet_checked_i3_C (n:Nat):A7 Ty:=[]
theorem Sf (n:Nat) (x:C.Ds Ty (Ai CP)):(A1 Tryz.prog 19 (An Tryz.prog (fsheet_checked_T n) (fsheet_checked_J1 n)) (Ah (fsheet_checked_i3_C n)) (Ar 2 Tryz.f300) (A0 CP x)).runK (AJ 1 CP HI (EI n))=EI (n+1) x:=by kernel_rfl
theorem Sg (n:Nat):AF true Tryz.prog 19 (fsheet_checked_i3_cut n) (.loop (Ar 2 Tryz.f300)):=AM fun x y hy=>A6 (Fn:=EI) Aa Ab (fun n=>Ac Aa Ab (F5 n) (Lo n)) (fun h=>by cases h) (fun h=>by cases h) (fun n=>(Ae (fn:=Tryz.f300) (L:=fsheet_checked_i3_C n) (ks:=[]) trivial (by kernel_rfl) (by kernel_rfl))) (by decide) (fun _=>rfl) Sf hy
noncomputable def fsheet_checked_J2 (n:Nat):Tj Ty:=[(301,[(.loop 2,fsheet_checked_i1_cut n)]),(300,[(.loop 2,AoK (fsheet_checked_i2_cut n) (fsheet_checked_i3_cut n))])]
theorem Tp (n:Nat):NA Tryz.prog (fsheet_checked_J2 n):=⟨Im (f:=301) Tryz.func301 rfl (Ae (fn:=Tryz.f301) (L:=[(.loop 2,fsheet_checked_i1_cut n)]) (ks:=[.loop 2]) ⟨KN n,trivial⟩ (by kernel_rfl) (by kernel_rfl)),⟨Im (f:=300) Tryz.func300 rfl (Ae (fn:=Tryz.f300) (L:=[(.loop 2,AoK (fsheet_checked_i2_cut n) (fsheet_checked_i3_cut n))]) (ks:=[.loop 2]) ⟨AoL (Se n) (Sg n),trivial⟩ (by kernel_rfl) (by kernel_rfl)),trivial⟩⟩
noncomputable def fsheet_checked_C (n:Nat):A7 Ty:=[]
theorem Wb (n:Nat) (x:C.Ds Ty (Ai Ho)):(A1 Tryz.prog 16 (An Tryz.prog (fsheet_checked_T n) (fsheet_checked_J2 n)) (Ah (fsheet_checked_C n)) (Ap Tryz.f130) (A0 Ho x)).runK (Aw Tryz.prog Tryz.f130.results.toList 0 K2)=OJ n x:=by kernel_rfl
theorem Sh (n:Nat):Av Tryz.prog 130 (fsheet_checked_law n):=BI (Ax Tryz.func130 rfl rfl (by decide) rfl Aa Ab (Ac Aa Ab (F5 n) (Tp n)) (Ae (fn:=Tryz.f130) (L:=fsheet_checked_C n) (ks:=[]) trivial (by kernel_rfl) (by kernel_rfl)) (Wb n))
def Dz:List (Nat×C):=[(5,.m 227 93),(6,.o 93),(21,.l 93),(22,.s 3),(23,.s 3)]
def I9:List Wo:=[⟨.exit 0,[.m 227 93],[(6,.o 93)],[]⟩,⟨.ret,[.m 227 93],[(2,.l 93),(3,.s 3)],[]⟩]
def D0:List (Nat×C):=[(6,.o 93),(56,.r 93 0),(57,.s 3),(58,.s 3)]
def IA:List Wo:=[⟨.exit 2,[],[(6,.o 93)],[]⟩,⟨.ret,[],[(2,.l 93),(3,.s 3)],[]⟩]
def Ir:List (Nat×C):=[(0,.l 28)]
def La:List Wo:=[⟨.ret,[],[],[.l 93,.s 3]⟩]
def Bw:Nat→(List (L1×Aj))→(List Aj)→(List Aj)→Int→Int→Option (((List (L1×Aj))×List Aj×Unit) ⊕ (((List (L1×Aj))×List Aj×Int×Unit)))
  | 0,_,_,_,_,_=>none
  | n+1,known,out,x21,x22,x23 =>
    bif decide (x23<x22) then((AC x21 x23).bind fun v0 =>
    bif Gc Bb known (L1.mk v0.machine v0.seq) then(bif !(decide ((AZ Bb known (L1.mk v0.machine v0.seq) (Aj.mk 0 0 0 (IK.mk 0) 0 0)).machine=v0.machine) && (decide ((AZ Bb known (L1.mk v0.machine v0.seq) (Aj.mk 0 0 0 (IK.mk 0) 0 0)).seq=v0.seq) && (decide ((AZ Bb known (L1.mk v0.machine v0.seq) (Aj.mk 0 0 0 (IK.mk 0) 0 0)).minute=v0.minute) && (decide ((AZ Bb known (L1.mk v0.machine v0.seq) (Aj.mk 0 0 0 (IK.mk 0) 0 0)).kind.n=v0.kind.n) && (decide ((AZ Bb known (L1.mk v0.machine v0.seq) (Aj.mk 0 0 0 (IK.mk 0) 0 0)).a=v0.a) && (decide ((AZ Bb known (L1.mk v0.machine v0.seq) (Aj.mk 0 0 0 (IK.mk 0) 0 0)).b=v0.b) && true)))))) then(some (.inr (known,([],(6,()))))) else
    bif !Gc Bb known (L1.mk v0.machine v0.seq) then((app out [v0]).bind fun v1 =>
    Bw n (Je Bb known (L1.mk v0.machine v0.seq) v0) v1 x21 x22 (IntKind.i64.wrap (x23+1))) else
    Bw n known out x21 x22 (IntKind.i64.wrap (x23+1))) else
    bif !Gc Bb known (L1.mk v0.machine v0.seq) then((app out [v0]).bind fun v1 =>
    Bw n (Je Bb known (L1.mk v0.machine v0.seq) v0) v1 x21 x22 (IntKind.i64.wrap (x23+1))) else
    Bw n known out x21 x22 (IntKind.i64.wrap (x23+1))) else
    some (.inl (known,(out,())))
def F6 (n:Nat) (y:C.Ds Ty (Ai Dz)):Option (YT Ty I9):=Bw n y.1 y.2.1 y.2.2.1 y.2.2.2.1 y.2.2.2.2.1
noncomputable def fsheet_merged_l1_cut (n:Nat):St Ty→Tr (Lf Ty):=C3 Dz 1 I9 (F6 n)
def Cg:Nat→(List Aj)→Int→Int→Option ((List Aj×Unit) ⊕ ((List Aj×Int×Unit)))
  | 0,_,_,_=>none
  | n+1,out,x57,x58 =>
    bif decide (x58<x57) then((AC out x58).bind fun v0 =>
    (out.get?Internal x58.toNat).bind fun v1 =>
    bif decide (x58>0) then((AC out (IntKind.i64.wrap (x58-1))).bind fun v2 =>
    (out.get?Internal (IntKind.i64.wrap (x58-1)).toNat).bind fun v3 =>
    bif decide (v3.machine=v1.machine) then((AC out (IntKind.i64.wrap (x58-1))).bind fun v4 =>
    (out.get?Internal (IntKind.i64.wrap (x58-1)).toNat).bind fun v5 =>
    bif decide (v5.minute>v1.minute) then(some (.inr ([],(6,())))) else
    Cg n out x57 (IntKind.i64.wrap (x58+1))) else
    Cg n out x57 (IntKind.i64.wrap (x58+1))) else
    Cg n out x57 (IntKind.i64.wrap (x58+1))) else
    some (.inl (out,()))
def F7 (n:Nat) (y:C.Ds Ty (Ai D0)):Option (YT Ty IA):=Cg n y.1 y.2.2.1 y.2.2.2.1
noncomputable def fsheet_merged_l2_cut (n:Nat):St Ty→Tr (Lf Ty):=C3 D0 0 IA (F7 n)
def KB (n:Nat) (lists:List (List Aj)):Option ((List Aj×Int×Unit)) :=
    (J6 n lists).bind fun v0 =>
    bif v0.fst != 0 then(some ([],(v0.fst,()))) else
    (Aab n lists).bind fun v1 =>
    (Bw n [] [] v1.fst (↑v1.fst.length:Int) 0).bind fun v2 =>
    Sum.elim (fun v3=>(Al4 v3.snd.fst).bind fun v4 =>
    (Cg n v4 (↑v4.length:Int) 0).bind fun v5 =>
    Sum.elim (fun v6=>some (v6.fst,(0,()))) (fun v6=>some (v6.fst,(v6.snd.fst,()))) (v5)) (fun v3=>some (v3.snd.fst,(v3.snd.snd.fst,()))) (v2)
def QQ (n:Nat) (y:C.Ds Ty (Ai Ir)):Option (YT Ty La):=KB n y.1
noncomputable def fsheet_merged_law (n:Nat):AH Ty:=AI Ir 0 La (QQ n)
noncomputable def fsheet_merged_T (n:Nat):List (Nat×AH Ty):=[(130,fsheet_checked_law n),(131,concatR_law n),(132,sortR_law n)]
theorem J7 (n:Nat):Au Tryz.prog (fsheet_merged_T n):=⟨Sh n,⟨Ad7 n,⟨Aio n,trivial⟩⟩⟩
noncomputable def fsheet_merged_l1_C (n:Nat):A7 Ty:=[]
theorem Tq (n:Nat) (x:C.Ds Ty (Ai Dz)):(A1 Tryz.prog 89 (An Tryz.prog (fsheet_merged_T n) []) (Ah (fsheet_merged_l1_C n)) (Ar 7 Tryz.f81) (A0 Dz x)).runK (AJ 1 Dz I9 (F6 n))=F6 (n+1) x:=by kernel_rfl
theorem Ts (n:Nat):AF true Tryz.prog 89 (fsheet_merged_l1_cut n) (.loop (Ar 7 Tryz.f81)):=AM fun x y hy=>A6 (Fn:=F6) Aa Ab (fun n=>Ac Aa Ab (J7 n) Ak) (fun h=>by cases h) (fun h=>by cases h) (fun n=>(Ae (fn:=Tryz.f81) (L:=fsheet_merged_l1_C n) (ks:=[]) trivial (by kernel_rfl) (by kernel_rfl))) (by decide) (fun _=>rfl) Tq hy
noncomputable def fsheet_merged_l2_C (n:Nat):A7 Ty:=[]
theorem Tt (n:Nat) (x:C.Ds Ty (Ai D0)):(A1 Tryz.prog 89 (An Tryz.prog (fsheet_merged_T n) []) (Ah (fsheet_merged_l2_C n)) (Ar 19 Tryz.f81) (A0 D0 x)).runK (AJ 0 D0 IA (F7 n))=F7 (n+1) x:=by kernel_rfl
theorem Tu (n:Nat):AF true Tryz.prog 89 (fsheet_merged_l2_cut n) (.loop (Ar 19 Tryz.f81)):=AM fun x y hy=>A6 (Fn:=F7) Aa Ab (fun n=>Ac Aa Ab (J7 n) Ak) (fun h=>by cases h) (fun h=>by cases h) (fun n=>(Ae (fn:=Tryz.f81) (L:=fsheet_merged_l2_C n) (ks:=[]) trivial (by kernel_rfl) (by kernel_rfl))) (by decide) (fun _=>rfl) Tt hy
noncomputable def fsheet_merged_C (n:Nat):A7 Ty:=[(.loop 7,fsheet_merged_l1_cut n),(.loop 19,fsheet_merged_l2_cut n)]
theorem Xr (n:Nat) (x:C.Ds Ty (Ai Ir)):(A1 Tryz.prog 89 (An Tryz.prog (fsheet_merged_T n) []) (Ah (fsheet_merged_C n)) (Ap Tryz.f81) (A0 Ir x)).runK (Aw Tryz.prog Tryz.f81.results.toList 0 La)=QQ n x:=by kernel_rfl
theorem Tv (n:Nat):Av Tryz.prog 81 (fsheet_merged_law n):=Ax Tryz.func81 rfl rfl (by decide) rfl Aa Ab (Ac Aa Ab (J7 n) Ak) (Ae (fn:=Tryz.f81) (L:=fsheet_merged_C n) (ks:=[.loop 7,.loop 19]) ⟨Ts n,⟨Tu n,trivial⟩⟩ (by kernel_rfl) (by kernel_rfl)) (Xr n)
def J8:List (Nat×C):=[(0,.l 28)]
def M6:List Wo:=[⟨.ret,[],[],[.l 93,.s 3]⟩]
def L6 (n:Nat) (lists:List (List Aj)):Option ((List Aj×Int×Unit)) :=
    (KB n lists).bind fun v0 =>
    bif v0.snd.fst != 0 then(some ([],(v0.snd.fst,()))) else
    bif decide ((↑v0.fst.length:Int)>60) then(some ([],(3,()))) else
    some (v0.fst,(0,()))
def Si (n:Nat) (y:C.Ds Ty (Ai J8)):Option (YT Ty M6):=L6 n y.1
noncomputable def fsheet_Merge_law (n:Nat):AH Ty:=AI J8 0 M6 (Si n)
noncomputable def fsheet_Merge_T (n:Nat):List (Nat×AH Ty):=[(81,fsheet_merged_law n)]
theorem Xs (n:Nat):Au Tryz.prog (fsheet_Merge_T n):=⟨Tv n,trivial⟩
noncomputable def fsheet_Merge_C (n:Nat):A7 Ty:=[]
theorem ZC (n:Nat) (x:C.Ds Ty (Ai J8)):(A1 Tryz.prog 20 (An Tryz.prog (fsheet_Merge_T n) []) (Ah (fsheet_Merge_C n)) (Ap Tryz.f312) (A0 J8 x)).runK (Aw Tryz.prog Tryz.f312.results.toList 0 M6)=Si n x:=by kernel_rfl
theorem UG (n:Nat):Av Tryz.prog 312 (fsheet_Merge_law n):=Ax Tryz.func312 rfl rfl (by decide) rfl Aa Ab (Ac Aa Ab (Xs n) Ak) (Ae (fn:=Tryz.f312) (L:=fsheet_Merge_C n) (ks:=[]) trivial (by kernel_rfl) (by kernel_rfl)) (ZC n)
def DB:List (Nat×C):=[(0,.l 93),(1,.g 93)]
def Gg:List Wo:=[⟨.ret,[],[],[.l 93]⟩]
def EJ (n:Nat) (l:List Aj) (x:Aj):Option ((List Aj×Unit)) :=
    (Agr n l).bind fun v0 =>
    (app v0.fst [x]).bind fun v1 =>
    some (v1,())
def Ka (n:Nat) (y:C.Ds Ty (Ai DB)):Option (YT Ty Gg):=EJ n y.1 y.2.1
noncomputable def fgarage_with_Record_law (n:Nat):AH Ty:=AI DB 0 Gg (Ka n)
noncomputable def fgarage_with_Record_T (n:Nat):List (Nat×AH Ty):=[(342,clone93_law n)]
theorem OL (n:Nat):Au Tryz.prog (fgarage_with_Record_T n):=⟨Ad1 n,trivial⟩
noncomputable def fgarage_with_Record_C (n:Nat):A7 Ty:=[]
theorem Qa (n:Nat) (x:C.Ds Ty (Ai DB)):(A1 Tryz.prog 10 (An Tryz.prog (fgarage_with_Record_T n) []) (Ah (fgarage_with_Record_C n)) (Ap Tryz.f313) (A0 DB x)).runK (Aw Tryz.prog Tryz.f313.results.toList 0 Gg)=Ka n x:=by kernel_rfl
theorem MV (n:Nat):Av Tryz.prog 313 (fgarage_with_Record_law n):=Ax Tryz.func313 rfl rfl (by decide) rfl Aa Ab (Ac Aa Ab (OL n) Ak) (Ae (fn:=Tryz.f313) (L:=fgarage_with_Record_C n) (ks:=[]) trivial (by kernel_rfl) (by kernel_rfl)) (Qa n)
def Cm:List (Nat×C):=[(0,.u 114),(1,.g 93)]
def E2:List Wo:=[⟨.ret,[.u 114],[],[]⟩,⟨.pan,[.u 114],[],[.i 234 (.g 234)]⟩]
def Bx (n:Nat) (g:Af) (r:Aj):Option ((Af×Unit) ⊕ ((Af×AE×Unit))) :=
    (C6 n g.state.records r).bind fun v0 =>
    (AA n (!v0.fst) 6).bind fun v1 =>
    Sum.elim (fun v2=>(L6 n [g.state.records,[r]]).bind fun v3 =>
    (Db n v3.snd.fst).bind fun v4 =>
    Sum.elim (fun v5=>(EJ n g.state.records r).bind fun v6 =>
    some (.inl (Af.mk (Ao.mk g.state.cards g.state.outs g.state.runs v6.fst g.state.week g.state.roster),()))) (fun v5=>some (.inr (g,(v5.fst,())))) (v4)) (fun v2=>some (.inr (g,(v2.fst,())))) (v1)
def Ie (n:Nat) (y:C.Ds Ty (Ai Cm)):Option (YT Ty E2):=Bx n y.1 y.2.1
noncomputable def fgarage_session_record_law (n:Nat):AH Ty:=AI Cm 1 E2 (Ie n)
noncomputable def fgarage_session_record_T (n:Nat):List (Nat×AH Ty):=[(311,fslices_Contains_Record_law n),(139,fgarage_ask_law n),(312,fsheet_Merge_law n),(259,fgarage_must_law n),(313,fgarage_with_Record_law n)]
theorem M7 (n:Nat):Au Tryz.prog (fgarage_session_record_T n):=⟨KM n,⟨B3 n,⟨UG n,⟨Dx n,⟨MV n,trivial⟩⟩⟩⟩⟩
noncomputable def fgarage_session_record_C (n:Nat):A7 Ty:=[]
theorem MW (n:Nat) (x:C.Ds Ty (Ai Cm)):(A1 Tryz.prog 40 (An Tryz.prog (fgarage_session_record_T n) []) (Ah (fgarage_session_record_C n)) (Ap Tryz.f264) (A0 Cm x)).runK (Aw Tryz.prog Tryz.f264.results.toList 1 E2)=Ie n x:=by kernel_rfl
theorem CF (n:Nat):Av Tryz.prog 264 (fgarage_session_record_law n):=Ax Tryz.func264 rfl rfl (by decide) rfl Aa Ab (Ac Aa Ab (M7 n) Ak) (Ae (fn:=Tryz.f264) (L:=fgarage_session_record_C n) (ks:=[]) trivial (by kernel_rfl) (by kernel_rfl)) (MW n)
def Dg:List (Nat×C):=[(0,.u 114),(1,.v 3)]
def F8:List Wo:=[⟨.ret,[.u 114],[],[]⟩,⟨.pan,[.u 114],[],[.i 234 (.g 234)]⟩]
def Ef (n:Nat) (g:Af) (n_:List Int):Option ((Af×Unit) ⊕ ((Af×AE×Unit))) :=
    bif n_.length.beq 5 then((AC n_ 0).bind fun v0 =>
    (n_.get?Internal (Int.toNat 0)).bind fun v1 =>
    bif n_.length.beq 5 then((AC n_ 1).bind fun v2 =>
    (n_.get?Internal (Int.toNat 1)).bind fun v3 =>
    bif n_.length.beq 5 then((AC n_ 2).bind fun v4 =>
    (n_.get?Internal (Int.toNat 2)).bind fun v5 =>
    bif n_.length.beq 5 then((AC n_ 3).bind fun v6 =>
    (n_.get?Internal (Int.toNat 3)).bind fun v7 =>
    bif n_.length.beq 5 then((AC n_ 4).bind fun v8 =>
    (n_.get?Internal (Int.toNat 4)).bind fun v9 =>
    (Bx n g (Aj.mk v1 v3 v5 (IK.mk 0) v7 v9)).bind fun v10 =>
    Sum.elim (fun v11=>some (.inl (v11.fst,()))) (fun v11=>some (.inr (v11.fst,(v11.snd.fst,())))) (v10)) else
    none) else
    none) else
    none) else
    none) else
    none
def J9 (n:Nat) (y:C.Ds Ty (Ai Dg)):Option (YT Ty F8):=Ef n y.1 y.2.1
noncomputable def fgarage_session_sale_law (n:Nat):AH Ty:=AI Dg 1 F8 (J9 n)
noncomputable def fgarage_session_sale_T (n:Nat):List (Nat×AH Ty):=[(264,fgarage_session_record_law n)]
theorem NZ (n:Nat):Au Tryz.prog (fgarage_session_sale_T n):=⟨CF n,trivial⟩
noncomputable def fgarage_session_sale_C (n:Nat):A7 Ty:=[]
theorem OM (n:Nat) (x:C.Ds Ty (Ai Dg)):(A1 Tryz.prog 17 (An Tryz.prog (fgarage_session_sale_T n) []) (Ah (fgarage_session_sale_C n)) (Ap Tryz.f195) (A0 Dg x)).runK (Aw Tryz.prog Tryz.f195.results.toList 1 F8)=J9 n x:=by kernel_rfl
theorem GY (n:Nat):Av Tryz.prog 195 (fgarage_session_sale_law n):=Ax Tryz.func195 rfl rfl (by decide) rfl Aa Ab (Ac Aa Ab (NZ n) Ak) (Ae (fn:=Tryz.f195) (L:=fgarage_session_sale_C n) (ks:=[]) trivial (by kernel_rfl) (by kernel_rfl)) (OM n)
def Dh:List (Nat×C):=[(0,.u 114),(1,.v 3)]
def F9:List Wo:=[⟨.ret,[.u 114],[],[]⟩,⟨.pan,[.u 114],[],[.i 234 (.g 234)]⟩]
def Eg (n:Nat) (g:Af) (n_:List Int):Option ((Af×Unit) ⊕ ((Af×AE×Unit))) :=
    bif n_.length.beq 5 then((AC n_ 0).bind fun v0 =>
    (n_.get?Internal (Int.toNat 0)).bind fun v1 =>
    bif n_.length.beq 5 then((AC n_ 1).bind fun v2 =>
    (n_.get?Internal (Int.toNat 1)).bind fun v3 =>
    bif n_.length.beq 5 then((AC n_ 2).bind fun v4 =>
    (n_.get?Internal (Int.toNat 2)).bind fun v5 =>
    bif n_.length.beq 5 then((AC n_ 3).bind fun v6 =>
    (n_.get?Internal (Int.toNat 3)).bind fun v7 =>
    (Bx n g (Aj.mk v1 v3 v5 (IK.mk 1) v7 0)).bind fun v8 =>
    Sum.elim (fun v9=>some (.inl (v9.fst,()))) (fun v9=>some (.inr (v9.fst,(v9.snd.fst,())))) (v8)) else
    none) else
    none) else
    none) else
    none
def JA (n:Nat) (y:C.Ds Ty (Ai Dh)):Option (YT Ty F9):=Eg n y.1 y.2.1
noncomputable def fgarage_session_sync_law (n:Nat):AH Ty:=AI Dh 1 F9 (JA n)
noncomputable def fgarage_session_sync_T (n:Nat):List (Nat×AH Ty):=[(264,fgarage_session_record_law n)]
theorem Oa (n:Nat):Au Tryz.prog (fgarage_session_sync_T n):=⟨CF n,trivial⟩
noncomputable def fgarage_session_sync_C (n:Nat):A7 Ty:=[]
theorem ON (n:Nat) (x:C.Ds Ty (Ai Dh)):(A1 Tryz.prog 15 (An Tryz.prog (fgarage_session_sync_T n) []) (Ah (fgarage_session_sync_C n)) (Ap Tryz.f196) (A0 Dh x)).runK (Aw Tryz.prog Tryz.f196.results.toList 1 F9)=JA n x:=by kernel_rfl
theorem GZ (n:Nat):Av Tryz.prog 196 (fgarage_session_sync_law n):=Ax Tryz.func196 rfl rfl (by decide) rfl Aa Ab (Ac Aa Ab (Oa n) Ak) (Ae (fn:=Tryz.f196) (L:=fgarage_session_sync_C n) (ks:=[]) trivial (by kernel_rfl) (by kernel_rfl)) (ON n)
def C7:List (Nat×C):=[(0,.u 114),(1,.v 3)]
def Fi:List Wo:=[⟨.ret,[.u 114],[],[]⟩,⟨.pan,[.u 114],[],[.i 234 (.g 234)]⟩]
def DC (n:Nat) (g:Af) (n_:List Int):Option ((Af×Unit) ⊕ ((Af×AE×Unit))) :=
    bif n_.length.beq 5 then((AC n_ 0).bind fun v0 =>
    (n_.get?Internal (Int.toNat 0)).bind fun v1 =>
    bif n_.length.beq 5 then((AC n_ 1).bind fun v2 =>
    (n_.get?Internal (Int.toNat 1)).bind fun v3 =>
    bif n_.length.beq 5 then((AC n_ 2).bind fun v4 =>
    (n_.get?Internal (Int.toNat 2)).bind fun v5 =>
    bif n_.length.beq 5 then((AC n_ 3).bind fun v6 =>
    (n_.get?Internal (Int.toNat 3)).bind fun v7 =>
    bif n_.length.beq 5 then((AC n_ 4).bind fun v8 =>
    (n_.get?Internal (Int.toNat 4)).bind fun v9 =>
    (Bx n g (Aj.mk v1 v3 v5 (IK.mk 2) v7 v9)).bind fun v10 =>
    Sum.elim (fun v11=>some (.inl (v11.fst,()))) (fun v11=>some (.inr (v11.fst,(v11.snd.fst,())))) (v10)) else
    none) else
    none) else
    none) else
    none) else
    none
def IY (n:Nat) (y:C.Ds Ty (Ai C7)):Option (YT Ty Fi):=DC n y.1 y.2.1
noncomputable def fgarage_session_close_law (n:Nat):AH Ty:=AI C7 1 Fi (IY n)
noncomputable def fgarage_session_close_T (n:Nat):List (Nat×AH Ty):=[(264,fgarage_session_record_law n)]
theorem MX (n:Nat):Au Tryz.prog (fgarage_session_close_T n):=⟨CF n,trivial⟩
noncomputable def fgarage_session_close_C (n:Nat):A7 Ty:=[]
theorem Ob (n:Nat) (x:C.Ds Ty (Ai C7)):(A1 Tryz.prog 17 (An Tryz.prog (fgarage_session_close_T n) []) (Ah (fgarage_session_close_C n)) (Ap Tryz.f197) (A0 C7 x)).runK (Aw Tryz.prog Tryz.f197.results.toList 1 Fi)=IY n x:=by kernel_rfl
theorem G8 (n:Nat):Av Tryz.prog 197 (fgarage_session_close_law n):=Ax Tryz.func197 rfl rfl (by decide) rfl Aa Ab (Ac Aa Ab (MX n) Ak) (Ae (fn:=Tryz.f197) (L:=fgarage_session_close_C n) (ks:=[]) trivial (by kernel_rfl) (by kernel_rfl)) (Ob n)
def DD:List (Nat×C):=[(0,.l 186),(1,.g 186)]
def Gh:List Wo:=[⟨.ret,[],[],[.l 186]⟩]
def EL (n:Nat) (l:List AT) (x:AT):Option ((List AT×Unit)) :=
    (Acu n l).bind fun v0 =>
    (app v0.fst [x]).bind fun v1 =>
    some (v1,())
def Kb (n:Nat) (y:C.Ds Ty (Ai DD)):Option (YT Ty Gh):=EL n y.1 y.2.1
noncomputable def fgarage_with_Driver_law (n:Nat):AH Ty:=AI DD 0 Gh (Kb n)
noncomputable def fgarage_with_Driver_T (n:Nat):List (Nat×AH Ty):=[(314,clone186_law n)]
theorem OO (n:Nat):Au Tryz.prog (fgarage_with_Driver_T n):=⟨Acv n,trivial⟩
noncomputable def fgarage_with_Driver_C (n:Nat):A7 Ty:=[]
theorem Qb (n:Nat) (x:C.Ds Ty (Ai DD)):(A1 Tryz.prog 10 (An Tryz.prog (fgarage_with_Driver_T n) []) (Ah (fgarage_with_Driver_C n)) (Ap Tryz.f265) (A0 DD x)).runK (Aw Tryz.prog Tryz.f265.results.toList 0 Gh)=Kb n x:=by kernel_rfl
theorem MY (n:Nat):Av Tryz.prog 265 (fgarage_with_Driver_law n):=Ax Tryz.func265 rfl rfl (by decide) rfl Aa Ab (Ac Aa Ab (OO n) Ak) (Ae (fn:=Tryz.f265) (L:=fgarage_with_Driver_C n) (ks:=[]) trivial (by kernel_rfl) (by kernel_rfl)) (Qb n)
def EM:List (Nat×C):=[(0,.g 32),(1,.g 184)]
def HJ:List Wo:=[⟨.ret,[],[],[.s 4]⟩]
def Eh (n:Nat) (w:A8) (d:AS):Option ((Bool×Unit)) :=
    bif decide (0≤d.day) then(bif decide (d.day≤IntKind.i64.wrap (w.days-1)) then(bif decide (0≤d.on) then(bif decide (d.on≤1439) then(bif decide (d.on≤d.off.lo) then(bif decide (d.off.lo≤d.off.hi) then(bif decide (d.off.hi≤IntKind.i64.wrap (d.on+1440)) then(bif decide (0≤d.route) then(some (decide (d.route≤15),())) else
    some (false,())) else
    some (false,())) else
    some (false,())) else
    some (false,())) else
    some (false,())) else
    some (false,())) else
    some (false,())) else
    some (false,())
def Lp (n:Nat) (y:C.Ds Ty (Ai EM)):Option (YT Ty HJ):=Eh n y.1 y.2.1
noncomputable def froster_Week_duty_law (n:Nat):AH Ty:=AI EM 0 HJ (Lp n)
noncomputable def froster_Week_duty_T (n:Nat):List (Nat×AH Ty):=[]
theorem Rj (n:Nat):Au Tryz.prog (froster_Week_duty_T n):=trivial
noncomputable def froster_Week_duty_C (n:Nat):A7 Ty:=[]
theorem Sj (n:Nat) (x:C.Ds Ty (Ai EM)):(A1 Tryz.prog 47 (An Tryz.prog (froster_Week_duty_T n) []) (Ah (froster_Week_duty_C n)) (Ap Tryz.f116) (A0 EM x)).runK (Aw Tryz.prog Tryz.f116.results.toList 0 HJ)=Lp n x:=by kernel_rfl
theorem OP (n:Nat):Av Tryz.prog 116 (froster_Week_duty_law n):=Ax Tryz.func116 rfl rfl (by decide) rfl Aa Ab (Ac Aa Ab (Rj n) Ak) (Ae (fn:=Tryz.f116) (L:=froster_Week_duty_C n) (ks:=[]) trivial (by kernel_rfl) (by kernel_rfl)) (Sj n)
def D1:List (Nat×C):=[(0,.l 3),(1,.s 3),(2,.s 3),(9,.l 3),(10,.s 3),(11,.s 3)]
def IB:List Wo:=[⟨.exit 0,[],[],[]⟩,⟨.ret,[],[(6,.s 4)],[]⟩]
def Is:List (Nat×C):=[(0,.l 3),(1,.s 3),(2,.s 3)]
def Lb:List Wo:=[⟨.ret,[],[],[.s 4]⟩]
def Hp:Nat→(List Int)→Int→Int→(List Int)→Int→Int→Option (Unit ⊕ ((Bool×Unit)))
  | 0,_,_,_,_,_,_=>none
  | n+1,l,low,high,x9,x10,x11 =>
    bif decide (x11<x10) then((AC x9 x11).bind fun v0 =>
    bif decide (low≤v0) then(bif !!decide (v0≤high) then(bif decide (x11>0) then((AC l (IntKind.i64.wrap (x11-1))).bind fun v1 =>
    bif decide (v0≤v1) then(some (.inr (false,()))) else
    Hp n l low high x9 x10 (IntKind.i64.wrap (x11+1))) else
    Hp n l low high x9 x10 (IntKind.i64.wrap (x11+1))) else
    some (.inr (false,()))) else
    some (.inr (false,()))) else
    some (.inl ())
def FA (n:Nat) (y:C.Ds Ty (Ai D1)):Option (YT Ty IB):=Hp n y.1 y.2.1 y.2.2.1 y.2.2.2.1 y.2.2.2.2.1 y.2.2.2.2.2.1
noncomputable def froster_rises_l1_cut (n:Nat):St Ty→Tr (Lf Ty):=C3 D1 0 IB (FA n)
def Ga (n:Nat) (l:List Int) (low:Int) (high:Int):Option ((Bool×Unit)) :=
    (Hp n l low high l (↑l.length:Int) 0).bind fun v0 =>
    Sum.elim (fun v1=>some (true,())) (fun v1=>some (v1.fst,())) (v0)
def QR (n:Nat) (y:C.Ds Ty (Ai Is)):Option (YT Ty Lb):=Ga n y.1 y.2.1 y.2.2.1
noncomputable def froster_rises_law (n:Nat):AH Ty:=HY (AI Is 0 Lb (QR n))
noncomputable def froster_rises_T (n:Nat):List (Nat×AH Ty):=[]
theorem NI (n:Nat):Au Tryz.prog (froster_rises_T n):=trivial
noncomputable def froster_rises_l1_C (n:Nat):A7 Ty:=[]
theorem Tw (n:Nat) (x:C.Ds Ty (Ai D1)):(A1 Tryz.prog 35 (An Tryz.prog (froster_rises_T n) []) (Ah (froster_rises_l1_C n)) (Ar 2 Tryz.f172) (A0 D1 x)).runK (AJ 0 D1 IB (FA n))=FA (n+1) x:=by kernel_rfl
theorem Tx (n:Nat):AF true Tryz.prog 35 (froster_rises_l1_cut n) (.loop (Ar 2 Tryz.f172)):=AM fun x y hy=>A6 (Fn:=FA) Aa Ab (fun n=>Ac Aa Ab (NI n) Ak) (fun h=>by cases h) (fun h=>by cases h) (fun n=>(Ae (fn:=Tryz.f172) (L:=froster_rises_l1_C n) (ks:=[]) trivial (by kernel_rfl) (by kernel_rfl))) (by decide) (fun _=>rfl) Tw hy
noncomputable def froster_rises_C (n:Nat):A7 Ty:=[(.loop 2,froster_rises_l1_cut n)]
theorem Xt (n:Nat) (x:C.Ds Ty (Ai Is)):(A1 Tryz.prog 35 (An Tryz.prog (froster_rises_T n) []) (Ah (froster_rises_C n)) (Ap Tryz.f172) (A0 Is x)).runK (Aw Tryz.prog Tryz.f172.results.toList 0 Lb)=QR n x:=by kernel_rfl
theorem Tz (n:Nat):Av Tryz.prog 172 (froster_rises_law n):=BI (Ax Tryz.func172 rfl rfl (by decide) rfl Aa Ab (Ac Aa Ab (NI n) Ak) (Ae (fn:=Tryz.f172) (L:=froster_rises_C n) (ks:=[.loop 2]) ⟨Tx n,trivial⟩ (by kernel_rfl) (by kernel_rfl)) (Xt n))
def DE:List (Nat×C):=[(0,.g 32),(1,.g 186)]
def Gi:List Wo:=[⟨.ret,[],[],[.s 4]⟩]
def CQ (n:Nat) (w:A8) (d:AT):Option ((Bool×Unit)) :=
    (Ga n d.knows 0 15).bind fun v0 =>
    bif v0.fst then((Ga n d.leave 0 (IntKind.i64.wrap (w.days-1))).bind fun v1 =>
    bif v1.fst then((Ga n d.wish 0 (IntKind.i64.wrap (w.days-1))).bind fun v2 =>
    bif v2.fst then(bif decide (-10080≤d.off) then(bif decide (d.off≤1440) then(bif decide (0≤d.row) then(bif decide (d.row≤14) then(bif decide (0≤d.used) then(some (decide (d.used≤w.hours),())) else
    some (false,())) else
    some (false,())) else
    some (false,())) else
    some (false,())) else
    some (false,())) else
    some (false,())) else
    some (false,())) else
    some (false,())
def Kc (n:Nat) (y:C.Ds Ty (Ai DE)):Option (YT Ty Gi):=CQ n y.1 y.2.1
noncomputable def froster_Week_driver_law (n:Nat):AH Ty:=AI DE 0 Gi (Kc n)
noncomputable def froster_Week_driver_T (n:Nat):List (Nat×AH Ty):=[(172,froster_rises_law n)]
theorem OQ (n:Nat):Au Tryz.prog (froster_Week_driver_T n):=⟨Tz n,trivial⟩
noncomputable def froster_Week_driver_C (n:Nat):A7 Ty:=[]
theorem Qc (n:Nat) (x:C.Ds Ty (Ai DE)):(A1 Tryz.prog 41 (An Tryz.prog (froster_Week_driver_T n) []) (Ah (froster_Week_driver_C n)) (Ap Tryz.f118) (A0 DE x)).runK (Aw Tryz.prog Tryz.f118.results.toList 0 Gi)=Kc n x:=by kernel_rfl
theorem MZ (n:Nat):Av Tryz.prog 118 (froster_Week_driver_law n):=Ax Tryz.func118 rfl rfl (by decide) rfl Aa Ab (Ac Aa Ab (OQ n) Ak) (Ae (fn:=Tryz.f118) (L:=froster_Week_driver_C n) (ks:=[]) trivial (by kernel_rfl) (by kernel_rfl)) (Qc n)
def BL:List (Nat×C):=[(0,.l 184),(1,.f 169 [] [.p [.f 116 [.g 32] []]]),(7,.s 3),(8,.s 3)]
def FB:List Wo:=[⟨.exit 0,[.p [.f 116 [.g 32] []]],[],[]⟩,⟨.ret,[.p [.f 116 [.g 32] []]],[(4,.s 3)],[]⟩]
def BM:List (Nat×C):=[(0,.l 186),(1,.f 171 [] [.p [.f 118 [.g 32] []]]),(7,.s 3),(8,.s 3)]
def FC:List Wo:=[⟨.exit 0,[.p [.f 118 [.g 32] []]],[],[]⟩,⟨.ret,[.p [.f 118 [.g 32] []]],[(4,.s 3)],[]⟩]
def EN:List (Nat×C):=[(0,.g 32)]
def HK:List Wo:=[⟨.ret,[],[],[.s 3]⟩]
def Bc:Nat→(List AS)→A8→Int→Int→Option (((((A8×Unit)×Unit)×Unit)×Unit) ⊕ (((((A8×Unit)×Unit)×Unit)×Int×Unit)))
  | 0,_,_,_,_=>none
  | n+1,s,f,x7,x8 =>
    bif decide (x8<x7) then((AC s x8).bind fun v0 =>
    (Eh n f v0).bind fun v1 =>
    bif !v1.fst then(some (.inr ((((f,()),()),()),(x8,())))) else
    Bc n s f x7 (IntKind.i64.wrap (x8+1))) else
    some (.inl ((((f,()),()),()),()))
def Di (n:Nat) (y:C.Ds Ty (Ai BL)):Option (YT Ty FB):=Bc n y.1 y.2.1.2.1.1.1.1 y.2.2.1 y.2.2.2.1
noncomputable def froster_CheckWeek_i1_cut (n:Nat):St Ty→Tr (Lf Ty):=C3 BL 1 FB (Di n)
def Bd:Nat→(List AT)→A8→Int→Int→Option (((((A8×Unit)×Unit)×Unit)×Unit) ⊕ (((((A8×Unit)×Unit)×Unit)×Int×Unit)))
  | 0,_,_,_,_=>none
  | n+1,s,f,x7,x8 =>
    bif decide (x8<x7) then((AC s x8).bind fun v0 =>
    (CQ n f v0).bind fun v1 =>
    bif !v1.fst then(some (.inr ((((f,()),()),()),(x8,())))) else
    Bd n s f x7 (IntKind.i64.wrap (x8+1))) else
    some (.inl ((((f,()),()),()),()))
def Dj (n:Nat) (y:C.Ds Ty (Ai BM)):Option (YT Ty FC):=Bd n y.1 y.2.1.2.1.1.1.1 y.2.2.1 y.2.2.2.1
noncomputable def froster_CheckWeek_i2_cut (n:Nat):St Ty→Tr (Lf Ty):=C3 BM 1 FC (Dj n)
def C8 (n:Nat) (w:A8):Option ((Int×Unit)) :=
    bif !decide ((↑w.duties.length:Int)>12) then(bif decide ((↑w.drivers.length:Int)>6) then(some (3,())) else
    bif decide (1≤w.days) then(bif !!decide (w.days≤7) then(bif decide (0≤w.rest) then(bif !!decide (w.rest≤3000) then(bif decide (1≤w.run) then(bif !!decide (w.run≤14) then(bif decide (0≤w.hours) then(bif !decide (w.hours≤20000) then(some (1,())) else
    (Bc n w.duties w (↑w.duties.length:Int) 0).bind fun v0 =>
    Sum.elim (fun v1=>(Bd n w.drivers w (↑w.drivers.length:Int) 0).bind fun v2 =>
    Sum.elim (fun v3=>some (0,())) (fun v3=>bif !!decide (v3.snd.fst≥0) then(some (1,())) else
    some (0,())) (v2)) (fun v1=>bif !!!decide (v1.snd.fst≥0) then((Bd n w.drivers w (↑w.drivers.length:Int) 0).bind fun v2 =>
    Sum.elim (fun v3=>some (0,())) (fun v3=>bif !!decide (v3.snd.fst≥0) then(some (1,())) else
    some (0,())) (v2)) else
    some (1,())) (v0)) else
    some (1,())) else
    some (1,())) else
    some (1,())) else
    some (1,())) else
    some (1,())) else
    some (1,())) else
    some (1,())) else
    some (3,())
def Lq (n:Nat) (y:C.Ds Ty (Ai EN)):Option (YT Ty HK):=C8 n y.1
noncomputable def froster_CheckWeek_law (n:Nat):AH Ty:=AI EN 0 HK (Lq n)
noncomputable def froster_CheckWeek_T (n:Nat):List (Nat×AH Ty):=[(116,froster_Week_duty_law n),(118,froster_Week_driver_law n)]
theorem Gj (n:Nat):Au Tryz.prog (froster_CheckWeek_T n):=⟨OP n,⟨MZ n,trivial⟩⟩
noncomputable def froster_CheckWeek_i1_C (n:Nat):A7 Ty:=[]
theorem OR (n:Nat) (x:C.Ds Ty (Ai BL)):(A1 Tryz.prog 19 (An Tryz.prog (froster_CheckWeek_T n) []) (Ah (froster_CheckWeek_i1_C n)) (Ar 2 Tryz.f234) (A0 BL x)).runK (AJ 1 BL FB (Di n))=Di (n+1) x:=by kernel_rfl
theorem IZ (n:Nat):AF true Tryz.prog 19 (froster_CheckWeek_i1_cut n) (.loop (Ar 2 Tryz.f234)):=AM fun x y hy=>A6 (Fn:=Di) Aa Ab (fun n=>Ac Aa Ab (Gj n) Ak) (fun h=>by cases h) (fun h=>by cases h) (fun n=>(Ae (fn:=Tryz.f234) (L:=froster_CheckWeek_i1_C n) (ks:=[]) trivial (by kernel_rfl) (by kernel_rfl))) (by decide) (fun _=>rfl) OR hy
noncomputable def froster_CheckWeek_J1 (n:Nat):Tj Ty:=[(234,[(.loop 2,froster_CheckWeek_i1_cut n)])]
theorem Qd (n:Nat):NA Tryz.prog (froster_CheckWeek_J1 n):=⟨Im (f:=234) Tryz.func234 rfl (Ae (fn:=Tryz.f234) (L:=[(.loop 2,froster_CheckWeek_i1_cut n)]) (ks:=[.loop 2]) ⟨IZ n,trivial⟩ (by kernel_rfl) (by kernel_rfl)),trivial⟩
noncomputable def froster_CheckWeek_i2_C (n:Nat):A7 Ty:=[]
theorem OS (n:Nat) (x:C.Ds Ty (Ai BM)):(A1 Tryz.prog 19 (An Tryz.prog (froster_CheckWeek_T n) (froster_CheckWeek_J1 n)) (Ah (froster_CheckWeek_i2_C n)) (Ar 2 Tryz.f235) (A0 BM x)).runK (AJ 1 BM FC (Dj n))=Dj (n+1) x:=by kernel_rfl
theorem OT (n:Nat):AF true Tryz.prog 19 (froster_CheckWeek_i2_cut n) (.loop (Ar 2 Tryz.f235)):=AM fun x y hy=>A6 (Fn:=Dj) Aa Ab (fun n=>Ac Aa Ab (Gj n) (Qd n)) (fun h=>by cases h) (fun h=>by cases h) (fun n=>(Ae (fn:=Tryz.f235) (L:=froster_CheckWeek_i2_C n) (ks:=[]) trivial (by kernel_rfl) (by kernel_rfl))) (by decide) (fun _=>rfl) OS hy
noncomputable def froster_CheckWeek_J2 (n:Nat):Tj Ty:=[(234,[(.loop 2,froster_CheckWeek_i1_cut n)]),(235,[(.loop 2,froster_CheckWeek_i2_cut n)])]
theorem Qe (n:Nat):NA Tryz.prog (froster_CheckWeek_J2 n):=⟨Im (f:=234) Tryz.func234 rfl (Ae (fn:=Tryz.f234) (L:=[(.loop 2,froster_CheckWeek_i1_cut n)]) (ks:=[.loop 2]) ⟨IZ n,trivial⟩ (by kernel_rfl) (by kernel_rfl)),⟨Im (f:=235) Tryz.func235 rfl (Ae (fn:=Tryz.f235) (L:=[(.loop 2,froster_CheckWeek_i2_cut n)]) (ks:=[.loop 2]) ⟨OT n,trivial⟩ (by kernel_rfl) (by kernel_rfl)),trivial⟩⟩
noncomputable def froster_CheckWeek_C (n:Nat):A7 Ty:=[]
theorem Sk (n:Nat) (x:C.Ds Ty (Ai EN)):(A1 Tryz.prog 52 (An Tryz.prog (froster_CheckWeek_T n) (froster_CheckWeek_J2 n)) (Ah (froster_CheckWeek_C n)) (Ap Tryz.f71) (A0 EN x)).runK (Aw Tryz.prog Tryz.f71.results.toList 0 HK)=Lq n x:=by kernel_rfl
theorem Fj (n:Nat):Av Tryz.prog 71 (froster_CheckWeek_law n):=Ax Tryz.func71 rfl rfl (by decide) rfl Aa Ab (Ac Aa Ab (Gj n) (Qe n)) (Ae (fn:=Tryz.f71) (L:=froster_CheckWeek_C n) (ks:=[]) trivial (by kernel_rfl) (by kernel_rfl)) (Sk n)
def Cn:List (Nat×C):=[(0,.u 114),(1,.v 3)]
def E3:List Wo:=[⟨.ret,[.u 114],[],[]⟩,⟨.pan,[.u 114],[],[.i 234 (.g 234)]⟩]
def BN (n:Nat) (g:Af) (n_:List Int):Option ((Af×Unit) ⊕ ((Af×AE×Unit))) :=
    bif n_.length.beq 5 then((AC n_ 0).bind fun v0 =>
    (n_.get?Internal (Int.toNat 0)).bind fun v1 =>
    bif n_.length.beq 5 then((AC n_ 1).bind fun v2 =>
    (n_.get?Internal (Int.toNat 1)).bind fun v3 =>
    (EL n g.state.week.drivers (AT.mk [v1] [] [] v3 0 0)).bind fun v4 =>
    (C8 n (A8.mk g.state.week.days g.state.week.duties v4.fst g.state.week.rest g.state.week.run g.state.week.hours)).bind fun v5 =>
    (Db n v5.fst).bind fun v6 =>
    Sum.elim (fun v7=>some (.inl (Af.mk (Ao.mk g.state.cards g.state.outs g.state.runs g.state.records (A8.mk g.state.week.days g.state.week.duties v4.fst g.state.week.rest g.state.week.run g.state.week.hours) g.state.roster),()))) (fun v7=>some (.inr (g,(v7.fst,())))) (v6)) else
    none) else
    none
def Ig (n:Nat) (y:C.Ds Ty (Ai Cn)):Option (YT Ty E3):=BN n y.1 y.2.1
noncomputable def fgarage_session_driver_law (n:Nat):AH Ty:=AI Cn 1 E3 (Ig n)
noncomputable def fgarage_session_driver_T (n:Nat):List (Nat×AH Ty):=[(265,fgarage_with_Driver_law n),(71,froster_CheckWeek_law n),(259,fgarage_must_law n)]
theorem M8 (n:Nat):Au Tryz.prog (fgarage_session_driver_T n):=⟨MY n,⟨Fj n,⟨Dx n,trivial⟩⟩⟩
noncomputable def fgarage_session_driver_C (n:Nat):A7 Ty:=[]
theorem Na (n:Nat) (x:C.Ds Ty (Ai Cn)):(A1 Tryz.prog 28 (An Tryz.prog (fgarage_session_driver_T n) []) (Ah (fgarage_session_driver_C n)) (Ap Tryz.f198) (A0 Cn x)).runK (Aw Tryz.prog Tryz.f198.results.toList 1 E3)=Ig n x:=by kernel_rfl
theorem FU (n:Nat):Av Tryz.prog 198 (fgarage_session_driver_law n):=Ax Tryz.func198 rfl rfl (by decide) rfl Aa Ab (Ac Aa Ab (M8 n) Ak) (Ae (fn:=Tryz.f198) (L:=fgarage_session_driver_C n) (ks:=[]) trivial (by kernel_rfl) (by kernel_rfl)) (Na n)
def EO:List (Nat×C):=[(0,.l 184),(1,.g 184)]
def HL:List Wo:=[⟨.ret,[],[],[.l 184]⟩]
def G9 (n:Nat) (l:List AS) (x:AS):Option ((List AS×Unit)) :=
    (Acw n l).bind fun v0 =>
    (app v0.fst [x]).bind fun v1 =>
    some (v1,())
def Lr (n:Nat) (y:C.Ds Ty (Ai EO)):Option (YT Ty HL):=G9 n y.1 y.2.1
noncomputable def fgarage_with_Duty_law (n:Nat):AH Ty:=AI EO 0 HL (Lr n)
noncomputable def fgarage_with_Duty_T (n:Nat):List (Nat×AH Ty):=[(315,clone184_law n)]
theorem Rk (n:Nat):Au Tryz.prog (fgarage_with_Duty_T n):=⟨Acx n,trivial⟩
noncomputable def fgarage_with_Duty_C (n:Nat):A7 Ty:=[]
theorem Sl (n:Nat) (x:C.Ds Ty (Ai EO)):(A1 Tryz.prog 10 (An Tryz.prog (fgarage_with_Duty_T n) []) (Ah (fgarage_with_Duty_C n)) (Ap Tryz.f266) (A0 EO x)).runK (Aw Tryz.prog Tryz.f266.results.toList 0 HL)=Lr n x:=by kernel_rfl
theorem OU (n:Nat):Av Tryz.prog 266 (fgarage_with_Duty_law n):=Ax Tryz.func266 rfl rfl (by decide) rfl Aa Ab (Ac Aa Ab (Rk n) Ak) (Ae (fn:=Tryz.f266) (L:=fgarage_with_Duty_C n) (ks:=[]) trivial (by kernel_rfl) (by kernel_rfl)) (Sl n)
def FE:List (Nat×C):=[(0,.l 3),(1,.s 3)]
def IC:List Wo:=[⟨.ret,[],[],[.l 3]⟩]
def Hq (n:Nat) (l:List Int) (x:Int):Option ((List Int×Unit)) :=
    (UA n l).bind fun v0 =>
    (app v0.fst [x]).bind fun v1 =>
    some (v1,())
def M9 (n:Nat) (y:C.Ds Ty (Ai FE)):Option (YT Ty IC):=Hq n y.1 y.2.1
noncomputable def fgarage_with_int_law (n:Nat):AH Ty:=AI FE 0 IC (M9 n)
noncomputable def fgarage_with_int_T (n:Nat):List (Nat×AH Ty):=[(268,clone3_law n)]
theorem Sm (n:Nat):Au Tryz.prog (fgarage_with_int_T n):=⟨VS n,trivial⟩
noncomputable def fgarage_with_int_C (n:Nat):A7 Ty:=[]
theorem T0 (n:Nat) (x:C.Ds Ty (Ai FE)):(A1 Tryz.prog 10 (An Tryz.prog (fgarage_with_int_T n) []) (Ah (fgarage_with_int_C n)) (Ap Tryz.f267) (A0 FE x)).runK (Aw Tryz.prog Tryz.f267.results.toList 0 IC)=M9 n x:=by kernel_rfl
theorem Qf (n:Nat):Av Tryz.prog 267 (fgarage_with_int_law n):=Ax Tryz.func267 rfl rfl (by decide) rfl Aa Ab (Ac Aa Ab (Sm n) Ak) (Ae (fn:=Tryz.f267) (L:=fgarage_with_int_C n) (ks:=[]) trivial (by kernel_rfl) (by kernel_rfl)) (T0 n)
def Dk:List (Nat×C):=[(0,.u 114),(1,.v 3)]
def FF:List Wo:=[⟨.ret,[.u 114],[],[]⟩,⟨.pan,[.u 114],[],[.i 234 (.g 234)]⟩]
def Cz (n:Nat) (g:Af) (n_:List Int):Option ((Af×Unit) ⊕ ((Af×AE×Unit))) :=
    bif n_.length.beq 5 then((AC n_ 0).bind fun v0 =>
    (n_.get?Internal (Int.toNat 0)).bind fun v1 =>
    bif n_.length.beq 5 then((AC n_ 1).bind fun v2 =>
    (n_.get?Internal (Int.toNat 1)).bind fun v3 =>
    bif n_.length.beq 5 then((AC n_ 2).bind fun v4 =>
    (n_.get?Internal (Int.toNat 2)).bind fun v5 =>
    bif n_.length.beq 5 then((AC n_ 3).bind fun v6 =>
    (n_.get?Internal (Int.toNat 3)).bind fun v7 =>
    bif n_.length.beq 5 then((AC n_ 4).bind fun v8 =>
    (n_.get?Internal (Int.toNat 4)).bind fun v9 =>
    (G9 n g.state.week.duties (AS.mk v1 v3 (Rg.mk v5 v7) v9)).bind fun v10 =>
    (C8 n (A8.mk g.state.week.days v10.fst g.state.week.drivers g.state.week.rest g.state.week.run g.state.week.hours)).bind fun v11 =>
    (Db n v11.fst).bind fun v12 =>
    Sum.elim (fun v13=>(Hq n g.state.roster (-1)).bind fun v14 =>
    some (.inl (Af.mk (Ao.mk g.state.cards g.state.outs g.state.runs g.state.records (A8.mk g.state.week.days v10.fst g.state.week.drivers g.state.week.rest g.state.week.run g.state.week.hours) v14.fst),()))) (fun v13=>some (.inr (g,(v13.fst,())))) (v12)) else
    none) else
    none) else
    none) else
    none) else
    none
def JB (n:Nat) (y:C.Ds Ty (Ai Dk)):Option (YT Ty FF):=Cz n y.1 y.2.1
noncomputable def fgarage_session_duty_law (n:Nat):AH Ty:=AI Dk 1 FF (JB n)
noncomputable def fgarage_session_duty_T (n:Nat):List (Nat×AH Ty):=[(266,fgarage_with_Duty_law n),(71,froster_CheckWeek_law n),(259,fgarage_must_law n),(267,fgarage_with_int_law n)]
theorem Od (n:Nat):Au Tryz.prog (fgarage_session_duty_T n):=⟨OU n,⟨Fj n,⟨Dx n,⟨Qf n,trivial⟩⟩⟩⟩
noncomputable def fgarage_session_duty_C (n:Nat):A7 Ty:=[]
theorem OV (n:Nat) (x:C.Ds Ty (Ai Dk)):(A1 Tryz.prog 44 (An Tryz.prog (fgarage_session_duty_T n) []) (Ah (fgarage_session_duty_C n)) (Ap Tryz.f199) (A0 Dk x)).runK (Aw Tryz.prog Tryz.f199.results.toList 1 FF)=JB n x:=by kernel_rfl
theorem Ha (n:Nat):Av Tryz.prog 199 (fgarage_session_duty_law n):=Ax Tryz.func199 rfl rfl (by decide) rfl Aa Ab (Ac Aa Ab (Od n) Ak) (Ae (fn:=Tryz.f199) (L:=fgarage_session_duty_C n) (ks:=[]) trivial (by kernel_rfl) (by kernel_rfl)) (OV n)
def B8:List (Nat×C):=[(0,.l 3),(1,.f 174 [] [.p [.f 120 [] [.u 32]]]),(7,.s 3),(8,.s 3)]
def E4:List Wo:=[⟨.exit 0,[.p [.f 120 [] [.u 32]],.q 1],[],[]⟩,⟨.ret,[.p [.f 120 [] [.u 32]],.q 1],[(4,.s 3)],[]⟩]
def DF:List (Nat×C):=[(0,.g 32),(1,.l 3)]
def Gk:List Wo:=[⟨.ret,[],[],[.s 4]⟩]
def Be:Nat→(List Int)→A8→Int→Int→Option ((((Unit×(A8×Unit))×Unit)×Unit×Unit) ⊕ ((((Unit×(A8×Unit))×Unit)×Unit×Int×Unit)))
  | 0,_,_,_,_=>none
  | n+1,s,f,x7,x8 =>
    bif decide (x8<x7) then((AC s x8).bind fun v0 =>
    bif decide (-1≤v0) then(bif !decide (v0≤IntKind.i64.wrap ((↑f.drivers.length:Int)-1)) then(some (.inr ((((),(f,())),()),((),(x8,()))))) else
    Be n s f x7 (IntKind.i64.wrap (x8+1))) else
    some (.inr ((((),(f,())),()),((),(x8,()))))) else
    some (.inl ((((),(f,())),()),((),())))
def Co (n:Nat) (y:C.Ds Ty (Ai B8)):Option (YT Ty E4):=Be n y.1 y.2.1.2.1.1.2.1 y.2.2.1 y.2.2.2.1
noncomputable def froster_Week_roster_i1_cut (n:Nat):St Ty→Tr (Lf Ty):=C3 B8 2 E4 (Co n)
def EP (n:Nat) (w:A8) (l:List Int):Option ((Bool×Unit)) :=
    bif decide ((↑l.length:Int)=(↑w.duties.length:Int)) then((Be n l w (↑l.length:Int) 0).bind fun v0 =>
    Sum.elim (fun v1=>some (!decide (-1≥0),())) (fun v1=>some (!decide (v1.snd.snd.fst≥0),())) (v0)) else
    some (false,())
def Kd (n:Nat) (y:C.Ds Ty (Ai DF)):Option (YT Ty Gk):=EP n y.1 y.2.1
noncomputable def froster_Week_roster_law (n:Nat):AH Ty:=HY (AI DF 0 Gk (Kd n))
noncomputable def froster_Week_roster_T (n:Nat):List (Nat×AH Ty):=[]
theorem Ja (n:Nat):Au Tryz.prog (froster_Week_roster_T n):=trivial
noncomputable def froster_Week_roster_i1_C (n:Nat):A7 Ty:=[]
theorem Nb (n:Nat) (x:C.Ds Ty (Ai B8)):(A1 Tryz.prog 19 (An Tryz.prog (froster_Week_roster_T n) []) (Ah (froster_Week_roster_i1_C n)) (Ar 2 Tryz.f236) (A0 B8 x)).runK (AJ 2 B8 E4 (Co n))=Co (n+1) x:=by kernel_rfl
theorem Nc (n:Nat):AF true Tryz.prog 19 (froster_Week_roster_i1_cut n) (.loop (Ar 2 Tryz.f236)):=AM fun x y hy=>A6 (Fn:=Co) Aa Ab (fun n=>Ac Aa Ab (Ja n) Ak) (fun h=>by cases h) (fun h=>by cases h) (fun n=>(Ae (fn:=Tryz.f236) (L:=froster_Week_roster_i1_C n) (ks:=[]) trivial (by kernel_rfl) (by kernel_rfl))) (by decide) (fun _=>rfl) Nb hy
noncomputable def froster_Week_roster_J1 (n:Nat):Tj Ty:=[(236,[(.loop 2,froster_Week_roster_i1_cut n)])]
theorem Oe (n:Nat):NA Tryz.prog (froster_Week_roster_J1 n):=⟨Im (f:=236) Tryz.func236 rfl (Ae (fn:=Tryz.f236) (L:=[(.loop 2,froster_Week_roster_i1_cut n)]) (ks:=[.loop 2]) ⟨Nc n,trivial⟩ (by kernel_rfl) (by kernel_rfl)),trivial⟩
noncomputable def froster_Week_roster_C (n:Nat):A7 Ty:=[]
theorem Qg (n:Nat) (x:C.Ds Ty (Ai DF)):(A1 Tryz.prog 16 (An Tryz.prog (froster_Week_roster_T n) (froster_Week_roster_J1 n)) (Ah (froster_Week_roster_C n)) (Ap Tryz.f72) (A0 DF x)).runK (Aw Tryz.prog Tryz.f72.results.toList 0 Gk)=Kd n x:=by kernel_rfl
theorem Nd (n:Nat):Av Tryz.prog 72 (froster_Week_roster_law n):=BI (Ax Tryz.func72 rfl rfl (by decide) rfl Aa Ab (Ac Aa Ab (Ja n) (Oe n)) (Ae (fn:=Tryz.f72) (L:=froster_Week_roster_C n) (ks:=[]) trivial (by kernel_rfl) (by kernel_rfl)) (Qg n))
def BO:List (Nat×C):=[(2,.o 3),(6,.l 184),(7,.s 3),(8,.s 3)]
def FG:List Wo:=[⟨.exit 0,[],[(2,.o 3)],[]⟩]
def EQ:List (Nat×C):=[(0,.g 32)]
def HM:List Wo:=[⟨.ret,[],[],[.l 3]⟩]
def C0:Nat→(List Int)→(List AS)→Int→Int→Option ((List Int×Unit))
  | 0,_,_,_,_=>none
  | n+1,out,x6,x7,x8 =>
    bif decide (x8<x7) then((AC x6 x8).bind fun v0 =>
    (app out [v0.off.hi]).bind fun v1 =>
    C0 n v1 x6 x7 (IntKind.i64.wrap (x8+1))) else
    some (out,())
def Dl (n:Nat) (y:C.Ds Ty (Ai BO)):Option (YT Ty FG):=C0 n y.1 y.2.1 y.2.2.1 y.2.2.2.1
noncomputable def froster_Week_ends_l1_cut (n:Nat):St Ty→Tr (Lf Ty):=C3 BO 0 FG (Dl n)
def GB (n:Nat) (w:A8):Option ((List Int×Unit)) :=
    (C0 n [] w.duties (↑w.duties.length:Int) 0).bind fun v0 =>
    some (v0.fst,())
def Ls (n:Nat) (y:C.Ds Ty (Ai EQ)):Option (YT Ty HM):=GB n y.1
noncomputable def froster_Week_ends_law (n:Nat):AH Ty:=AI EQ 0 HM (Ls n)
noncomputable def froster_Week_ends_T (n:Nat):List (Nat×AH Ty):=[]
theorem Ke (n:Nat):Au Tryz.prog (froster_Week_ends_T n):=trivial
noncomputable def froster_Week_ends_l1_C (n:Nat):A7 Ty:=[]
theorem OW (n:Nat) (x:C.Ds Ty (Ai BO)):(A1 Tryz.prog 20 (An Tryz.prog (froster_Week_ends_T n) []) (Ah (froster_Week_ends_l1_C n)) (Ar 2 Tryz.f122) (A0 BO x)).runK (AJ 0 BO FG (Dl n))=Dl (n+1) x:=by kernel_rfl
theorem OX (n:Nat):AF true Tryz.prog 20 (froster_Week_ends_l1_cut n) (.loop (Ar 2 Tryz.f122)):=AM fun x y hy=>A6 (Fn:=Dl) Aa Ab (fun n=>Ac Aa Ab (Ke n) Ak) (fun h=>by cases h) (fun h=>by cases h) (fun n=>(Ae (fn:=Tryz.f122) (L:=froster_Week_ends_l1_C n) (ks:=[]) trivial (by kernel_rfl) (by kernel_rfl))) (by decide) (fun _=>rfl) OW hy
noncomputable def froster_Week_ends_C (n:Nat):A7 Ty:=[(.loop 2,froster_Week_ends_l1_cut n)]
theorem Sn (n:Nat) (x:C.Ds Ty (Ai EQ)):(A1 Tryz.prog 20 (An Tryz.prog (froster_Week_ends_T n) []) (Ah (froster_Week_ends_C n)) (Ap Tryz.f122) (A0 EQ x)).runK (Aw Tryz.prog Tryz.f122.results.toList 0 HM)=Ls n x:=by kernel_rfl
theorem OY (n:Nat):Av Tryz.prog 122 (froster_Week_ends_law n):=Ax Tryz.func122 rfl rfl (by decide) rfl Aa Ab (Ac Aa Ab (Ke n) Ak) (Ae (fn:=Tryz.f122) (L:=froster_Week_ends_C n) (ks:=[.loop 2]) ⟨OX n,trivial⟩ (by kernel_rfl) (by kernel_rfl)) (Sn n)
def B9:List (Nat×C):=[(2,.a 267),(6,.l 186),(7,.s 3),(8,.s 3)]
def E5:List Wo:=[⟨.exit 0,[.a 267],[(2,.q 0)],[]⟩]
def DG:List (Nat×C):=[(0,.g 32)]
def Gl:List Wo:=[⟨.ret,[],[],[.v 267]⟩]
def BP:Nat→(List Aq)→(List AT)→Int→Int→Option ((List Aq×Unit×Unit))
  | 0,_,_,_,_=>none
  | n+1,out,x6,x7,x8 =>
    bif decide (x8<x7) then((AC x6 x8).bind fun v0 =>
    bif out.length.beq 6 then((AC out x8).bind fun v1 =>
    (out.get?Internal x8.toNat).bind fun v2 =>
    BP n (out.set x8.toNat (Aq.mk v0.off v0.row v0.used (-1))) x6 x7 (IntKind.i64.wrap (x8+1))) else
    none) else
    some (out,((),()))
def Cp (n:Nat) (y:C.Ds Ty (Ai B9)):Option (YT Ty E5):=BP n y.1 y.2.1 y.2.2.1 y.2.2.2.1
noncomputable def froster_Week_before_l1_cut (n:Nat):St Ty→Tr (Lf Ty):=C3 B9 1 E5 (Cp n)
def ER (n:Nat) (w:A8):Option ((List Aq×Unit)) :=
    (BP n [Aq.mk 0 0 0 0,Aq.mk 0 0 0 0,Aq.mk 0 0 0 0,Aq.mk 0 0 0 0,Aq.mk 0 0 0 0,Aq.mk 0 0 0 0] w.drivers (↑w.drivers.length:Int) 0).bind fun v0 =>
    bif v0.fst.length.beq 6 then(bif v0.fst.length.beq 6 && v0.fst.length.beq 6 then(bif v0.fst.length.beq 6 then(some (v0.fst,())) else
    none) else
    none) else
    none
def Kf (n:Nat) (y:C.Ds Ty (Ai DG)):Option (YT Ty Gl):=ER n y.1
noncomputable def froster_Week_before_law (n:Nat):AH Ty:=AI DG 0 Gl (Kf n)
noncomputable def froster_Week_before_T (n:Nat):List (Nat×AH Ty):=[]
theorem Jb (n:Nat):Au Tryz.prog (froster_Week_before_T n):=trivial
noncomputable def froster_Week_before_l1_C (n:Nat):A7 Ty:=[]
theorem Nf (n:Nat) (x:C.Ds Ty (Ai B9)):(A1 Tryz.prog 24 (An Tryz.prog (froster_Week_before_T n) []) (Ah (froster_Week_before_l1_C n)) (Ar 2 Tryz.f175) (A0 B9 x)).runK (AJ 1 B9 E5 (Cp n))=Cp (n+1) x:=by kernel_rfl
theorem Ng (n:Nat):AF true Tryz.prog 24 (froster_Week_before_l1_cut n) (.loop (Ar 2 Tryz.f175)):=AM fun x y hy=>A6 (Fn:=Cp) Aa Ab (fun n=>Ac Aa Ab (Jb n) Ak) (fun h=>by cases h) (fun h=>by cases h) (fun n=>(Ae (fn:=Tryz.f175) (L:=froster_Week_before_l1_C n) (ks:=[]) trivial (by kernel_rfl) (by kernel_rfl))) (by decide) (fun _=>rfl) Nf hy
noncomputable def froster_Week_before_C (n:Nat):A7 Ty:=[(.loop 2,froster_Week_before_l1_cut n)]
theorem Qh (n:Nat) (x:C.Ds Ty (Ai DG)):(A1 Tryz.prog 24 (An Tryz.prog (froster_Week_before_T n) []) (Ah (froster_Week_before_C n)) (Ap Tryz.f175) (A0 DG x)).runK (Aw Tryz.prog Tryz.f175.results.toList 0 Gl)=Kf n x:=by kernel_rfl
theorem Nh (n:Nat):Av Tryz.prog 175 (froster_Week_before_law n):=Ax Tryz.func175 rfl rfl (by decide) rfl Aa Ab (Ac Aa Ab (Jb n) Ak) (Ae (fn:=Tryz.f175) (L:=froster_Week_before_C n) (ks:=[.loop 2]) ⟨Ng n,trivial⟩ (by kernel_rfl) (by kernel_rfl)) (Qh n)
def BG:List (Nat×C):=[(0,.l 3),(1,.s 3),(7,.s 3),(8,.s 3)]
def Fk:List Wo:=[⟨.exit 0,[],[],[]⟩,⟨.ret,[],[(4,.s 3)],[]⟩]
def Ei:List (Nat×C):=[(0,.g 32),(1,.s 3),(2,.g 184),(3,.g 267)]
def Hb:List Wo:=[⟨.ret,[],[],[.s 4]⟩]
def Gm:Nat→(List Int)→Int→Int→Int→Option (Unit ⊕ ((Int×Unit)))
  | 0,_,_,_,_=>none
  | n+1,s,v,x7,x8 =>
    bif decide (x8<x7) then((AC s x8).bind fun v0 =>
    bif decide (v=v0) then(some (.inr (x8,()))) else
    Gm n s v x7 (IntKind.i64.wrap (x8+1))) else
    some (.inl ())
def C9 (n:Nat) (y:C.Ds Ty (Ai BG)):Option (YT Ty Fk):=Gm n y.1 y.2.1 y.2.2.1 y.2.2.2.1
noncomputable def froster_Week_knows_i1_cut (n:Nat):St Ty→Tr (Lf Ty):=C3 BG 0 Fk (C9 n)
def D2 (n:Nat) (w:A8) (driver:Int) (d:AS) (_:Aq):Option ((Bool×Unit)) :=
    (AC w.drivers driver).bind fun v0 =>
    (Gm n v0.knows d.route (↑v0.knows.length:Int) 0).bind fun v1 =>
    Sum.elim (fun v2=>some (decide (-1≥0),())) (fun v2=>some (decide (v2.fst≥0),())) (v1)
def KO (n:Nat) (y:C.Ds Ty (Ai Ei)):Option (YT Ty Hb):=D2 n y.1 y.2.1 y.2.2.1 y.2.2.2.1
noncomputable def froster_Week_knows_law (n:Nat):AH Ty:=AI Ei 0 Hb (KO n)
noncomputable def froster_Week_knows_T (n:Nat):List (Nat×AH Ty):=[]
theorem JC (n:Nat):Au Tryz.prog (froster_Week_knows_T n):=trivial
noncomputable def froster_Week_knows_i1_C (n:Nat):A7 Ty:=[]
theorem Of (n:Nat) (x:C.Ds Ty (Ai BG)):(A1 Tryz.prog 19 (An Tryz.prog (froster_Week_knows_T n) []) (Ah (froster_Week_knows_i1_C n)) (Ar 2 Tryz.f332) (A0 BG x)).runK (AJ 0 BG Fk (C9 n))=C9 (n+1) x:=by kernel_rfl
theorem Og (n:Nat):AF true Tryz.prog 19 (froster_Week_knows_i1_cut n) (.loop (Ar 2 Tryz.f332)):=AM fun x y hy=>A6 (Fn:=C9) Aa Ab (fun n=>Ac Aa Ab (JC n) Ak) (fun h=>by cases h) (fun h=>by cases h) (fun n=>(Ae (fn:=Tryz.f332) (L:=froster_Week_knows_i1_C n) (ks:=[]) trivial (by kernel_rfl) (by kernel_rfl))) (by decide) (fun _=>rfl) Of hy
noncomputable def froster_Week_knows_J1 (n:Nat):Tj Ty:=[(332,[(.loop 2,froster_Week_knows_i1_cut n)])]
theorem OZ (n:Nat):NA Tryz.prog (froster_Week_knows_J1 n):=⟨Im (f:=332) Tryz.func332 rfl (Ae (fn:=Tryz.f332) (L:=[(.loop 2,froster_Week_knows_i1_cut n)]) (ks:=[.loop 2]) ⟨Og n,trivial⟩ (by kernel_rfl) (by kernel_rfl)),trivial⟩
noncomputable def froster_Week_knows_C (n:Nat):A7 Ty:=[]
theorem Rl (n:Nat) (x:C.Ds Ty (Ai Ei)):(A1 Tryz.prog 18 (An Tryz.prog (froster_Week_knows_T n) (froster_Week_knows_J1 n)) (Ah (froster_Week_knows_C n)) (Ap Tryz.f238) (A0 Ei x)).runK (Aw Tryz.prog Tryz.f238.results.toList 0 Hb)=KO n x:=by kernel_rfl
theorem Oh (n:Nat):Av Tryz.prog 238 (froster_Week_knows_law n):=Ax Tryz.func238 rfl rfl (by decide) rfl Aa Ab (Ac Aa Ab (JC n) (OZ n)) (Ae (fn:=Tryz.f238) (L:=froster_Week_knows_C n) (ks:=[]) trivial (by kernel_rfl) (by kernel_rfl)) (Rl n)
def BQ:List (Nat×C):=[(0,.l 3),(1,.s 3),(7,.s 3),(8,.s 3)]
def FH:List Wo:=[⟨.exit 0,[],[],[]⟩,⟨.ret,[],[(4,.s 3)],[]⟩]
def ET:List (Nat×C):=[(0,.g 32),(1,.s 3),(2,.g 184),(3,.g 267)]
def HN:List Wo:=[⟨.ret,[],[],[.s 4]⟩]
def Hc:Nat→(List Int)→Int→Int→Int→Option (Unit ⊕ ((Int×Unit)))
  | 0,_,_,_,_=>none
  | n+1,s,v,x7,x8 =>
    bif decide (x8<x7) then((AC s x8).bind fun v0 =>
    bif decide (v=v0) then(some (.inr (x8,()))) else
    Hc n s v x7 (IntKind.i64.wrap (x8+1))) else
    some (.inl ())
def Dm (n:Nat) (y:C.Ds Ty (Ai BQ)):Option (YT Ty FH):=Hc n y.1 y.2.1 y.2.2.1 y.2.2.2.1
noncomputable def froster_Week_here_i1_cut (n:Nat):St Ty→Tr (Lf Ty):=C3 BQ 0 FH (Dm n)
def Ej (n:Nat) (w:A8) (driver:Int) (d:AS) (_:Aq):Option ((Bool×Unit)) :=
    (AC w.drivers driver).bind fun v0 =>
    (Hc n v0.leave d.day (↑v0.leave.length:Int) 0).bind fun v1 =>
    Sum.elim (fun v2=>some (!decide (-1≥0),())) (fun v2=>some (!decide (v2.fst≥0),())) (v1)
def Lt (n:Nat) (y:C.Ds Ty (Ai ET)):Option (YT Ty HN):=Ej n y.1 y.2.1 y.2.2.1 y.2.2.2.1
noncomputable def froster_Week_here_law (n:Nat):AH Ty:=AI ET 0 HN (Lt n)
noncomputable def froster_Week_here_T (n:Nat):List (Nat×AH Ty):=[]
theorem Kg (n:Nat):Au Tryz.prog (froster_Week_here_T n):=trivial
noncomputable def froster_Week_here_i1_C (n:Nat):A7 Ty:=[]
theorem Pa (n:Nat) (x:C.Ds Ty (Ai BQ)):(A1 Tryz.prog 19 (An Tryz.prog (froster_Week_here_T n) []) (Ah (froster_Week_here_i1_C n)) (Ar 2 Tryz.f332) (A0 BQ x)).runK (AJ 0 BQ FH (Dm n))=Dm (n+1) x:=by kernel_rfl
theorem Pb (n:Nat):AF true Tryz.prog 19 (froster_Week_here_i1_cut n) (.loop (Ar 2 Tryz.f332)):=AM fun x y hy=>A6 (Fn:=Dm) Aa Ab (fun n=>Ac Aa Ab (Kg n) Ak) (fun h=>by cases h) (fun h=>by cases h) (fun n=>(Ae (fn:=Tryz.f332) (L:=froster_Week_here_i1_C n) (ks:=[]) trivial (by kernel_rfl) (by kernel_rfl))) (by decide) (fun _=>rfl) Pa hy
noncomputable def froster_Week_here_J1 (n:Nat):Tj Ty:=[(332,[(.loop 2,froster_Week_here_i1_cut n)])]
theorem Qi (n:Nat):NA Tryz.prog (froster_Week_here_J1 n):=⟨Im (f:=332) Tryz.func332 rfl (Ae (fn:=Tryz.f332) (L:=[(.loop 2,froster_Week_here_i1_cut n)]) (ks:=[.loop 2]) ⟨Pb n,trivial⟩ (by kernel_rfl) (by kernel_rfl)),trivial⟩
noncomputable def froster_Week_here_C (n:Nat):A7 Ty:=[]
theorem So (n:Nat) (x:C.Ds Ty (Ai ET)):(A1 Tryz.prog 19 (An Tryz.prog (froster_Week_here_T n) (froster_Week_here_J1 n)) (Ah (froster_Week_here_C n)) (Ap Tryz.f239) (A0 ET x)).runK (Aw Tryz.prog Tryz.f239.results.toList 0 HN)=Lt n x:=by kernel_rfl
theorem Pc (n:Nat):Av Tryz.prog 239 (froster_Week_here_law n):=Ax Tryz.func239 rfl rfl (by decide) rfl Aa Ab (Ac Aa Ab (Kg n) (Qi n)) (Ae (fn:=Tryz.f239) (L:=froster_Week_here_C n) (ks:=[]) trivial (by kernel_rfl) (by kernel_rfl)) (So n)
def DH:List (Nat×C):=[(0,.g 32),(1,.s 3),(2,.g 184),(3,.g 267)]
def Gn:List Wo:=[⟨.ret,[],[],[.s 4]⟩]
def EU (n:Nat) (w:A8) (_:Int) (d:AS) (s:Aq):Option ((Bool×Unit)) :=
    some (s.day != d.day,())
def Kh (n:Nat) (y:C.Ds Ty (Ai DH)):Option (YT Ty Gn):=EU n y.1 y.2.1 y.2.2.1 y.2.2.2.1
noncomputable def froster_Week_single_law (n:Nat):AH Ty:=AI DH 0 Gn (Kh n)
noncomputable def froster_Week_single_T (n:Nat):List (Nat×AH Ty):=[]
theorem Pd (n:Nat):Au Tryz.prog (froster_Week_single_T n):=trivial
noncomputable def froster_Week_single_C (n:Nat):A7 Ty:=[]
theorem Qj (n:Nat) (x:C.Ds Ty (Ai DH)):(A1 Tryz.prog 14 (An Tryz.prog (froster_Week_single_T n) []) (Ah (froster_Week_single_C n)) (Ap Tryz.f240) (A0 DH x)).runK (Aw Tryz.prog Tryz.f240.results.toList 0 Gn)=Kh n x:=by kernel_rfl
theorem Ni (n:Nat):Av Tryz.prog 240 (froster_Week_single_law n):=Ax Tryz.func240 rfl rfl (by decide) rfl Aa Ab (Ac Aa Ab (Pd n) Ak) (Ae (fn:=Tryz.f240) (L:=froster_Week_single_C n) (ks:=[]) trivial (by kernel_rfl) (by kernel_rfl)) (Qj n)
def DI:List (Nat×C):=[(0,.g 32),(1,.s 3),(2,.g 184),(3,.g 267)]
def Gp:List Wo:=[⟨.ret,[],[],[.s 4]⟩]
def CS (n:Nat) (w:A8) (_:Int) (d:AS) (s:Aq):Option ((Bool×Unit)) :=
    bif !decide (s.day=d.day) then(some (decide (IntKind.i64.wrap (IntKind.i64.wrap (IntKind.i64.wrap (d.day*1440)+d.on)-s.free)≥w.rest),())) else
    some (true,())
def Ki (n:Nat) (y:C.Ds Ty (Ai DI)):Option (YT Ty Gp):=CS n y.1 y.2.1 y.2.2.1 y.2.2.2.1
noncomputable def froster_Week_rested_law (n:Nat):AH Ty:=AI DI 0 Gp (Ki n)
noncomputable def froster_Week_rested_T (n:Nat):List (Nat×AH Ty):=[]
theorem Pe (n:Nat):Au Tryz.prog (froster_Week_rested_T n):=trivial
noncomputable def froster_Week_rested_C (n:Nat):A7 Ty:=[]
theorem Qk (n:Nat) (x:C.Ds Ty (Ai DI)):(A1 Tryz.prog 28 (An Tryz.prog (froster_Week_rested_T n) []) (Ah (froster_Week_rested_C n)) (Ap Tryz.f241) (A0 DI x)).runK (Aw Tryz.prog Tryz.f241.results.toList 0 Gp)=Ki n x:=by kernel_rfl
theorem Nj (n:Nat):Av Tryz.prog 241 (froster_Week_rested_law n):=Ax Tryz.func241 rfl rfl (by decide) rfl Aa Ab (Ac Aa Ab (Pe n) Ak) (Ae (fn:=Tryz.f241) (L:=froster_Week_rested_C n) (ks:=[]) trivial (by kernel_rfl) (by kernel_rfl)) (Qk n)
def Ek:List (Nat×C):=[(0,.g 267),(1,.g 184),(2,.s 3)]
def Hd:List Wo:=[⟨.ret,[],[],[.g 267]⟩]
def D3 (n:Nat) (s:Aq) (d:AS) (end_:Int):Option ((Aq×Unit)) :=
    bif decide (s.day=d.day) then(some (Aq.mk s.free s.row (IntKind.i64.wrap (s.used+IntKind.i64.wrap (end_-d.on))) s.day,())) else
    bif s.day != IntKind.i64.wrap (d.day-1) then(some (Aq.mk (IntKind.i64.wrap (IntKind.i64.wrap (d.day*1440)+end_)) (IntKind.i64.wrap (0+1)) (IntKind.i64.wrap (s.used+IntKind.i64.wrap (end_-d.on))) d.day,())) else
    some (Aq.mk (IntKind.i64.wrap (IntKind.i64.wrap (d.day*1440)+end_)) (IntKind.i64.wrap (s.row+1)) (IntKind.i64.wrap (s.used+IntKind.i64.wrap (end_-d.on))) d.day,())
def KP (n:Nat) (y:C.Ds Ty (Ai Ek)):Option (YT Ty Hd):=D3 n y.1 y.2.1 y.2.2.1
noncomputable def froster_stand_take_law (n:Nat):AH Ty:=AI Ek 0 Hd (KP n)
noncomputable def froster_stand_take_T (n:Nat):List (Nat×AH Ty):=[]
theorem Ql (n:Nat):Au Tryz.prog (froster_stand_take_T n):=trivial
noncomputable def froster_stand_take_C (n:Nat):A7 Ty:=[]
theorem Rm (n:Nat) (x:C.Ds Ty (Ai Ek)):(A1 Tryz.prog 42 (An Tryz.prog (froster_stand_take_T n) []) (Ah (froster_stand_take_C n)) (Ap Tryz.f178) (A0 Ek x)).runK (Aw Tryz.prog Tryz.f178.results.toList 0 Hd)=KP n x:=by kernel_rfl
theorem Ih (n:Nat):Av Tryz.prog 178 (froster_stand_take_law n):=Ax Tryz.func178 rfl rfl (by decide) rfl Aa Ab (Ac Aa Ab (Ql n) Ak) (Ae (fn:=Tryz.f178) (L:=froster_stand_take_C n) (ks:=[]) trivial (by kernel_rfl) (by kernel_rfl)) (Rm n)
def El:List (Nat×C):=[(0,.g 32),(1,.s 3),(2,.g 184),(3,.g 267)]
def He:List Wo:=[⟨.ret,[],[],[.s 4]⟩]
def D4 (n:Nat) (w:A8) (_:Int) (d:AS) (s:Aq):Option ((Bool×Unit)) :=
    bif !decide (s.day=d.day) then((D3 n s d d.on).bind fun v0 =>
    some (decide (v0.fst.row≤w.run),())) else
    some (true,())
def KQ (n:Nat) (y:C.Ds Ty (Ai El)):Option (YT Ty He):=D4 n y.1 y.2.1 y.2.2.1 y.2.2.2.1
noncomputable def froster_Week_fresh_law (n:Nat):AH Ty:=AI El 0 He (KQ n)
noncomputable def froster_Week_fresh_T (n:Nat):List (Nat×AH Ty):=[(178,froster_stand_take_law n)]
theorem Qm (n:Nat):Au Tryz.prog (froster_Week_fresh_T n):=⟨Ih n,trivial⟩
noncomputable def froster_Week_fresh_C (n:Nat):A7 Ty:=[]
theorem Rn (n:Nat) (x:C.Ds Ty (Ai El)):(A1 Tryz.prog 25 (An Tryz.prog (froster_Week_fresh_T n) []) (Ah (froster_Week_fresh_C n)) (Ap Tryz.f242) (A0 El x)).runK (Aw Tryz.prog Tryz.f242.results.toList 0 He)=KQ n x:=by kernel_rfl
theorem Oi (n:Nat):Av Tryz.prog 242 (froster_Week_fresh_law n):=Ax Tryz.func242 rfl rfl (by decide) rfl Aa Ab (Ac Aa Ab (Qm n) Ak) (Ae (fn:=Tryz.f242) (L:=froster_Week_fresh_C n) (ks:=[]) trivial (by kernel_rfl) (by kernel_rfl)) (Rn n)
def BA:List (Nat×C):=[(3,.u 32),(5,.p [.l 3]),(6,.p [.o 280]),(7,.a 267),(9,.s 3),(10,.u 184),(11,.s 3),(33,.o 278),(34,.s 3),(35,.s 3)]
def E6:List Wo:=[⟨.exit 4,[.u 32,.p [.l 3],.p [.o 280],.a 267,.u 184],[(5,.q 1),(7,.q 3),(9,.s 3),(10,.q 4),(11,.s 3)],[]⟩]
def BB:List (Nat×C):=[(0,.y 0 121 [3,4,5,6,7] [.u 32,.p [.l 3],.p [.l 3],.p [.o 280],.a 267]),(2,.p [.s 3]),(7,.l 184),(8,.s 3),(9,.s 3)]
def E7:List Wo:=[⟨.exit 0,[.y 0 121 [3,4,5,6,7] [.u 32,.p [.l 3],.p [.l 3],.p [.o 280],.a 267],.q 1,.q 2,.q 3,.q 4,.q 5,.p [.s 3]],[],[]⟩,⟨.ret,[.y 0 121 [3,4,5,6,7] [.u 32,.p [.l 3],.p [.l 3],.p [.o 280],.a 267],.q 1,.q 2,.q 3,.q 4,.q 5,.p [.s 3]],[],[]⟩]
def BC:List (Nat×C):=[(3,.u 32),(4,.p [.l 3]),(5,.p [.l 3]),(6,.p [.o 280]),(7,.a 267),(18,.s 3),(19,.s 3)]
def E8:List Wo:=[⟨.exit 0,[.u 32,.p [.l 3],.p [.l 3],.p [.o 280],.a 267],[(3,.q 0),(6,.q 3),(7,.q 4)],[]⟩]
def BD:List (Nat×C):=[(3,.u 32),(6,.p [.o 280]),(7,.a 267),(72,.s 3),(73,.s 3)]
def E9:List Wo:=[⟨.exit 6,[.u 32,.p [.o 280],.a 267],[(6,.q 1)],[]⟩]
def DJ:List (Nat×C):=[(0,.g 32),(1,.l 3),(2,.l 3)]
def Gq:List Wo:=[⟨.ret,[],[],[.o 280]⟩]
def Ad:Nat→A8→(List Int)→(List As)→(List Aq)→Int→AS→Int→(List AV)→Int→Int→Option ((A8×(List Int×Unit)×(List As×Unit)×List Aq×AS×Unit×Unit×Int×Unit×Int×Unit))
  | 0,_,_,_,_,_,_,_,_,_,_=>none
  | n+1,w,truth,out,now,i,d,k,x33,x34,x35 =>
    bif decide (x35<x34) then((AC x33 x35).bind fun v0 =>
    (x33.get?Internal x35.toNat).bind fun v1 =>
    bif now.length.beq 6 then((AC now k).bind fun v2 =>
    (now.get?Internal k.toNat).bind fun v3 =>
    bif decide (v1.holds.f=(↑238:Int)) then((D2 n w k d v3).bind fun v4 =>
    bif !v4.fst then((app out [As.mk v1.kind k i]).bind fun v5 =>
    Ad n w truth v5 now i d k x33 x34 (IntKind.i64.wrap (x35+1))) else
    Ad n w truth out now i d k x33 x34 (IntKind.i64.wrap (x35+1))) else
    bif decide (v1.holds.f=(↑239:Int)) then((Ej n w k d v3).bind fun v4 =>
    bif !v4.fst then((app out [As.mk v1.kind k i]).bind fun v5 =>
    Ad n w truth v5 now i d k x33 x34 (IntKind.i64.wrap (x35+1))) else
    Ad n w truth out now i d k x33 x34 (IntKind.i64.wrap (x35+1))) else
    bif decide (v1.holds.f=(↑240:Int)) then((EU n w k d v3).bind fun v4 =>
    bif !v4.fst then((app out [As.mk v1.kind k i]).bind fun v5 =>
    Ad n w truth v5 now i d k x33 x34 (IntKind.i64.wrap (x35+1))) else
    Ad n w truth out now i d k x33 x34 (IntKind.i64.wrap (x35+1))) else
    bif decide (v1.holds.f=(↑241:Int)) then((CS n w k d v3).bind fun v4 =>
    bif !v4.fst then((app out [As.mk v1.kind k i]).bind fun v5 =>
    Ad n w truth v5 now i d k x33 x34 (IntKind.i64.wrap (x35+1))) else
    Ad n w truth out now i d k x33 x34 (IntKind.i64.wrap (x35+1))) else
    bif decide (v1.holds.f=(↑242:Int)) then((D4 n w k d v3).bind fun v4 =>
    bif !v4.fst then((app out [As.mk v1.kind k i]).bind fun v5 =>
    Ad n w truth v5 now i d k x33 x34 (IntKind.i64.wrap (x35+1))) else
    Ad n w truth out now i d k x33 x34 (IntKind.i64.wrap (x35+1))) else
    none) else
    none) else
    some (w,((truth,()),((out,()),(now,(d,((),((),(i,((),(k,()))))))))))
def Cq (n:Nat) (y:C.Ds Ty (Ai BA)):Option (YT Ty E6):=Ad n y.1 y.2.1.1 y.2.2.1.1 y.2.2.2.1 y.2.2.2.2.1 y.2.2.2.2.2.1 y.2.2.2.2.2.2.1 y.2.2.2.2.2.2.2.1 y.2.2.2.2.2.2.2.2.1 y.2.2.2.2.2.2.2.2.2.1
noncomputable def froster_Week_broken_l2_cut (n:Nat):St Ty→Tr (Lf Ty):=C3 BA 5 E6 (Cq n)
def Bf:Nat→A8→(List Int)→(List Int)→(List As)→(List Aq)→Int→(List AS)→Int→Int→Option (((A8×(List Int×Unit)×(List Int×Unit)×(List As×Unit)×List Aq×Unit)×Unit×Unit×Unit×Unit×Unit×(Int×Unit)×Unit) ⊕ (((A8×(List Int×Unit)×(List Int×Unit)×(List As×Unit)×List Aq×Unit)×Unit×Unit×Unit×Unit×Unit×(Int×Unit)×Unit)))
  | 0,_,_,_,_,_,_,_,_,_=>none
  | n+1,yield1,yield2,yield3,yield4,yield5,x2,x7,x8,x9 =>
    bif decide (x9<x8) then((AC x7 x9).bind fun v0 =>
    bif decide (v0.day=x2) then((AC yield2 x9).bind fun v1 =>
    bif decide (v1=-1) then(Bf n yield1 yield2 yield3 yield4 yield5 x2 x7 x8 (IntKind.i64.wrap (x9+1))) else
    (Ad n yield1 yield3 yield4 yield5 x9 v0 v1 [AV.mk (IK.mk 0) (Fp.mk (↑238:Int)),AV.mk (IK.mk 1) (Fp.mk (↑239:Int)),AV.mk (IK.mk 2) (Fp.mk (↑240:Int)),AV.mk (IK.mk 3) (Fp.mk (↑241:Int)),AV.mk (IK.mk 4) (Fp.mk (↑242:Int))] (↑[AV.mk (IK.mk 0) (Fp.mk (↑238:Int)),AV.mk (IK.mk 1) (Fp.mk (↑239:Int)),AV.mk (IK.mk 2) (Fp.mk (↑240:Int)),AV.mk (IK.mk 3) (Fp.mk (↑241:Int)),AV.mk (IK.mk 4) (Fp.mk (↑242:Int))].length:Int) 0).bind fun v2 =>
    bif v2.snd.snd.snd.fst.length.beq 6 then((AC v2.snd.snd.snd.fst v2.snd.snd.snd.snd.snd.snd.snd.snd.snd.fst).bind fun v3 =>
    (v2.snd.snd.snd.fst.get?Internal v2.snd.snd.snd.snd.snd.snd.snd.snd.snd.fst.toNat).bind fun v4 =>
    (AC v2.snd.fst.fst v2.snd.snd.snd.snd.snd.snd.snd.fst).bind fun v5 =>
    (D3 n v4 v2.snd.snd.snd.snd.fst v5).bind fun v6 =>
    bif v2.snd.snd.snd.fst.length.beq 6 then((AC v2.snd.snd.snd.fst v2.snd.snd.snd.snd.snd.snd.snd.snd.snd.fst).bind fun v7 =>
    (v2.snd.snd.snd.fst.get?Internal v2.snd.snd.snd.snd.snd.snd.snd.snd.snd.fst.toNat).bind fun v8 =>
    Bf n v2.fst yield2 v2.snd.fst.fst v2.snd.snd.fst.fst (v2.snd.snd.snd.fst.set v2.snd.snd.snd.snd.snd.snd.snd.snd.snd.fst.toNat v6.fst) x2 x7 x8 (IntKind.i64.wrap (x9+1))) else
    none) else
    none) else
    Bf n yield1 yield2 yield3 yield4 yield5 x2 x7 x8 (IntKind.i64.wrap (x9+1))) else
    some (.inl ((yield1,((yield2,()),((yield3,()),((yield4,()),(yield5,()))))),((),((),((),((),((),((x2,()),()))))))))
def Cr (n:Nat) (y:C.Ds Ty (Ai BB)):Option (YT Ty E7):=Bf n y.1.1 y.1.2.1.1 y.1.2.2.1.1 y.1.2.2.2.1.1 y.1.2.2.2.2.1 y.2.1.1 y.2.2.1 y.2.2.2.1 y.2.2.2.2.1
noncomputable def froster_Week_broken_i4_cut (n:Nat):St Ty→Tr (Lf Ty):=C3 BB 7 E7 (Cr n)
def Bg:Nat→A8→(List Int)→(List Int)→(List As)→(List Aq)→Int→Int→Option ((A8×(List Int×Unit)×(List Int×Unit)×(List As×Unit)×List Aq×Unit×Unit×Unit×Unit))
  | 0,_,_,_,_,_,_,_=>none
  | n+1,w,roster,truth,out,now,x18,x19 =>
    bif decide (x19<x18) then((Bf n w roster truth out now x19 w.duties (↑w.duties.length:Int) 0).bind fun v0 =>
    Sum.elim (fun v1=>Bg n v1.fst.fst v1.fst.snd.fst.fst v1.fst.snd.snd.fst.fst v1.fst.snd.snd.snd.fst.fst v1.fst.snd.snd.snd.snd.fst x18 (IntKind.i64.wrap (x19+1))) (fun v1=>Bg n v1.fst.fst v1.fst.snd.fst.fst v1.fst.snd.snd.fst.fst v1.fst.snd.snd.snd.fst.fst v1.fst.snd.snd.snd.snd.fst x18 (IntKind.i64.wrap (x19+1))) (v0)) else
    some (w,((roster,()),((truth,()),((out,()),(now,((),((),((),()))))))))
def Cs (n:Nat) (y:C.Ds Ty (Ai BC)):Option (YT Ty E8):=Bg n y.1 y.2.1.1 y.2.2.1.1 y.2.2.2.1.1 y.2.2.2.2.1 y.2.2.2.2.2.1 y.2.2.2.2.2.2.1
noncomputable def froster_Week_broken_l1_cut (n:Nat):St Ty→Tr (Lf Ty):=C3 BC 5 E8 (Cs n)
def Bh:Nat→A8→(List As)→(List Aq)→Int→Int→Option ((A8×(List As×Unit)×List Aq×Unit×Unit))
  | 0,_,_,_,_,_=>none
  | n+1,w,out,now,x72,x73 =>
    bif decide (x73<x72) then(bif now.length.beq 6 then((AC now x73).bind fun v0 =>
    (now.get?Internal x73.toNat).bind fun v1 =>
    bif decide (v1.used>w.hours) then((app out [As.mk (IK.mk 5) x73 0]).bind fun v2 =>
    Bh n w v2 now x72 (IntKind.i64.wrap (x73+1))) else
    Bh n w out now x72 (IntKind.i64.wrap (x73+1))) else
    none) else
    some (w,((out,()),(now,((),()))))
def Ct (n:Nat) (y:C.Ds Ty (Ai BD)):Option (YT Ty E9):=Bh n y.1 y.2.1.1 y.2.2.1 y.2.2.2.1 y.2.2.2.2.1
noncomputable def froster_Week_broken_l3_cut (n:Nat):St Ty→Tr (Lf Ty):=C3 BD 3 E9 (Ct n)
def EV (n:Nat) (w:A8) (roster:List Int) (truth:List Int):Option ((List As×Unit)) :=
    (ER n w).bind fun v0 =>
    bif [Aq.mk 0 0 0 0,Aq.mk 0 0 0 0,Aq.mk 0 0 0 0,Aq.mk 0 0 0 0,Aq.mk 0 0 0 0,Aq.mk 0 0 0 0].length.beq 6 && v0.fst.length.beq 6 then((Bg n w roster truth [] v0.fst w.days 0).bind fun v1 =>
    (Bh n v1.fst v1.snd.snd.snd.fst.fst v1.snd.snd.snd.snd.fst (↑v1.fst.drivers.length:Int) 0).bind fun v2 =>
    (AeS v2.snd.fst.fst).bind fun v3 =>
    some (v3,())) else
    none
def Kj (n:Nat) (y:C.Ds Ty (Ai DJ)):Option (YT Ty Gq):=EV n y.1 y.2.1 y.2.2.1
noncomputable def froster_Week_broken_law (n:Nat):AH Ty:=AI DJ 0 Gq (Kj n)
noncomputable def froster_Week_broken_T (n:Nat):List (Nat×AH Ty):=[(175,froster_Week_before_law n),(238,froster_Week_knows_law n),(239,froster_Week_here_law n),(240,froster_Week_single_law n),(241,froster_Week_rested_law n),(242,froster_Week_fresh_law n),(178,froster_stand_take_law n),(179,sortB_law n)]
theorem Bq (n:Nat):Au Tryz.prog (froster_Week_broken_T n):=⟨Nh n,⟨Oh n,⟨Pc n,⟨Ni n,⟨Nj n,⟨Oi n,⟨Ih n,⟨Aip n,trivial⟩⟩⟩⟩⟩⟩⟩⟩
noncomputable def froster_Week_broken_l2_C (n:Nat):A7 Ty:=[]
theorem Nk (n:Nat) (x:C.Ds Ty (Ai BA)):(A1 Tryz.prog 92 (ApB (An Tryz.prog (froster_Week_broken_T n) [])) (Ah (froster_Week_broken_l2_C n)) (Ar 11 Tryz.f121) (A0 BA x)).runK (AJ 5 BA E6 (Cq n))=Cq (n+1) x:=by kernel_rfl
theorem Nl (n:Nat):AF false Tryz.prog 92 (froster_Week_broken_l2_cut n) (.loop (Ar 11 Tryz.f121)):=AM fun x y hy=>A6 (Fn:=Cq) Aa Ab (fun n=>Ajk (Ac Aa Ab (Bq n) Ak)) (fun _ _=>Ab7) (fun _=>by kernel_rfl) (fun n=>(Ae (fn:=Tryz.f121) (L:=froster_Week_broken_l2_C n) (ks:=[]) trivial (by kernel_rfl) (by kernel_rfl))) (by decide) (fun _=>rfl) Nk hy
noncomputable def froster_Week_broken_B (n:Nat):A7 Ty:=[(.loop 11,froster_Week_broken_l2_cut n)]
noncomputable def froster_Week_broken_Y (n:Nat):List (Nat×AH Ty):=(A4,Aq3 Tryz.prog (An Tryz.prog (froster_Week_broken_T n) []) (Ah []) (Ah (froster_Week_broken_B n)) 121)::froster_Week_broken_T n
theorem Jc (n:Nat):Au Tryz.prog (froster_Week_broken_Y n):=⟨An1 Aa Ab (Ac Aa Ab (Bq n) Ak) (fun _ _ _ h=>by cases h) (Ae (fn:=Tryz.f121) (c:=(RFs.rf 121).body) (N:=(RFs.rf 121).n) (L:=froster_Week_broken_B n) (ks:=[.loop 11]) ⟨Nl n,trivial⟩ (by kernel_rfl) (by kernel_rfl)),Bq n⟩
noncomputable def froster_Week_broken_i4_C (n:Nat):A7 Ty:=[]
theorem Nm (n:Nat) (x:C.Ds Ty (Ai BB)):(A1 Tryz.prog 26 (An Tryz.prog (froster_Week_broken_Y n) []) (Ah (froster_Week_broken_i4_C n)) (Ar 1 Tryz.f237) (A0 BB x)).runK (AJ 7 BB E7 (Cr n))=Cr (n+1) x:=by kernel_rfl
theorem Nn (n:Nat):AF true Tryz.prog 26 (froster_Week_broken_i4_cut n) (.loop (Ar 1 Tryz.f237)):=AM fun x y hy=>A6 (Fn:=Cr) Aa Ab (fun n=>Ac Aa Ab (Jc n) Ak) (fun h=>by cases h) (fun h=>by cases h) (fun n=>(Ae (fn:=Tryz.f237) (L:=froster_Week_broken_i4_C n) (ks:=[]) trivial (by kernel_rfl) (by kernel_rfl))) (by decide) (fun _=>rfl) Nm hy
noncomputable def froster_Week_broken_K (n:Nat):Tj Ty:=[(237,[(.loop 1,froster_Week_broken_i4_cut n)])]
theorem Pf (n:Nat):NA Tryz.prog (froster_Week_broken_K n):=⟨Im (f:=237) Tryz.func237 rfl (Ae (fn:=Tryz.f237) (L:=[(.loop 1,froster_Week_broken_i4_cut n)]) (ks:=[.loop 1]) ⟨Nn n,trivial⟩ (by kernel_rfl) (by kernel_rfl)),trivial⟩
noncomputable def froster_Week_broken_rf (n:Nat):St Ty→Tr (Lf Ty):=Aqv Tryz.prog (An Tryz.prog (froster_Week_broken_Y n) (froster_Week_broken_K n)) (.tmp 24) 121 [3,4,5,6,7]
theorem Oj (n:Nat):AF true Tryz.prog 92 (froster_Week_broken_rf n) (Mj (.rf 8) Tryz.f121):=An8 (Ac Aa Ab (Jc n) (Pf n)) (by kernel_rfl) (by kernel_rfl)
noncomputable def froster_Week_broken_l1_C (n:Nat):A7 Ty:=[(.rf 8,froster_Week_broken_rf n)]
theorem No (n:Nat) (x:C.Ds Ty (Ai BC)):(A1 Tryz.prog 92 (An Tryz.prog (froster_Week_broken_T n) []) (Ah (froster_Week_broken_l1_C n)) (Ar 3 Tryz.f121) (A0 BC x)).runK (AJ 5 BC E8 (Cs n))=Cs (n+1) x:=by kernel_rfl
theorem Np (n:Nat):AF true Tryz.prog 92 (froster_Week_broken_l1_cut n) (.loop (Ar 3 Tryz.f121)):=AM fun x y hy=>A6 (Fn:=Cs) Aa Ab (fun n=>Ac Aa Ab (Bq n) Ak) (fun h=>by cases h) (fun h=>by cases h) (fun n=>(Ae (fn:=Tryz.f121) (L:=froster_Week_broken_l1_C n) (ks:=[.rf 8]) ⟨Oj n,trivial⟩ (by kernel_rfl) (by kernel_rfl))) (by decide) (fun _=>rfl) No hy
noncomputable def froster_Week_broken_l3_C (n:Nat):A7 Ty:=[]
theorem Nq (n:Nat) (x:C.Ds Ty (Ai BD)):(A1 Tryz.prog 92 (An Tryz.prog (froster_Week_broken_T n) []) (Ah (froster_Week_broken_l3_C n)) (Ar 19 Tryz.f121) (A0 BD x)).runK (AJ 3 BD E9 (Ct n))=Ct (n+1) x:=by kernel_rfl
theorem Nr (n:Nat):AF true Tryz.prog 92 (froster_Week_broken_l3_cut n) (.loop (Ar 19 Tryz.f121)):=AM fun x y hy=>A6 (Fn:=Ct) Aa Ab (fun n=>Ac Aa Ab (Bq n) Ak) (fun h=>by cases h) (fun h=>by cases h) (fun n=>(Ae (fn:=Tryz.f121) (L:=froster_Week_broken_l3_C n) (ks:=[]) trivial (by kernel_rfl) (by kernel_rfl))) (by decide) (fun _=>rfl) Nq hy
noncomputable def froster_Week_broken_C (n:Nat):A7 Ty:=[(.loop 3,froster_Week_broken_l1_cut n),(.loop 19,froster_Week_broken_l3_cut n)]
theorem Qn (n:Nat) (x:C.Ds Ty (Ai DJ)):(A1 Tryz.prog 92 (An Tryz.prog (froster_Week_broken_T n) []) (Ah (froster_Week_broken_C n)) (Ap Tryz.f121) (A0 DJ x)).runK (Aw Tryz.prog Tryz.f121.results.toList 0 Gq)=Kj n x:=by kernel_rfl
theorem Ns (n:Nat):Av Tryz.prog 121 (froster_Week_broken_law n):=Ax Tryz.func121 rfl rfl (by decide) rfl Aa Ab (Ac Aa Ab (Bq n) Ak) (Ae (fn:=Tryz.f121) (L:=froster_Week_broken_C n) (ks:=[.loop 3,.loop 19]) ⟨Np n,⟨Nr n,trivial⟩⟩ (by kernel_rfl) (by kernel_rfl)) (Qn n)
def Em:List (Nat×C):=[(0,.g 32),(1,.l 3)]
def Hf:List Wo:=[⟨.ret,[],[],[.s 4]⟩]
def FI (n:Nat) (w:A8) (roster:List Int):Option ((Bool×Unit)) :=
    (GB n w).bind fun v0 =>
    (EV n w roster v0.fst).bind fun v1 =>
    some (decide ((↑v1.fst.length:Int)=0),())
def KR (n:Nat) (y:C.Ds Ty (Ai Em)):Option (YT Ty Hf):=FI n y.1 y.2.1
noncomputable def froster_Week_legal_law (n:Nat):AH Ty:=HY (AI Em 0 Hf (KR n))
noncomputable def froster_Week_legal_T (n:Nat):List (Nat×AH Ty):=[(122,froster_Week_ends_law n),(121,froster_Week_broken_law n)]
theorem Qo (n:Nat):Au Tryz.prog (froster_Week_legal_T n):=⟨OY n,⟨Ns n,trivial⟩⟩
noncomputable def froster_Week_legal_C (n:Nat):A7 Ty:=[]
theorem Ro (n:Nat) (x:C.Ds Ty (Ai Em)):(A1 Tryz.prog 12 (An Tryz.prog (froster_Week_legal_T n) []) (Ah (froster_Week_legal_C n)) (Ap Tryz.f73) (A0 Em x)).runK (Aw Tryz.prog Tryz.f73.results.toList 0 Hf)=KR n x:=by kernel_rfl
theorem Ol (n:Nat):Av Tryz.prog 73 (froster_Week_legal_law n):=BI (Ax Tryz.func73 rfl rfl (by decide) rfl Aa Ab (Ac Aa Ab (Qo n) Ak) (Ae (fn:=Tryz.f73) (L:=froster_Week_legal_C n) (ks:=[]) trivial (by kernel_rfl) (by kernel_rfl)) (Ro n))
def CT:List (Nat×C):=[(2,.s 3),(5,.l 3),(6,.s 3),(7,.s 3)]
def HO:List Wo:=[⟨.exit 0,[],[(2,.s 3)],[]⟩]
def Hr:List (Nat×C):=[(0,.l 3)]
def K3:List Wo:=[⟨.ret,[],[],[.s 3]⟩]
def CA:Nat→Int→(List Int)→Int→Int→Option ((Int×Unit))
  | 0,_,_,_,_=>none
  | n+1,n_,x5,x6,x7 =>
    bif decide (x7<x6) then((AC x5 x7).bind fun v0 =>
    bif v0 != -1 then(CA n (IntKind.i64.wrap (n_+1)) x5 x6 (IntKind.i64.wrap (x7+1))) else
    CA n n_ x5 x6 (IntKind.i64.wrap (x7+1))) else
    some (n_,())
def EW (n:Nat) (y:C.Ds Ty (Ai CT)):Option (YT Ty HO):=CA n y.1 y.2.1 y.2.2.1 y.2.2.2.1
noncomputable def froster_covers_l1_cut (n:Nat):St Ty→Tr (Lf Ty):=C3 CT 0 HO (EW n)
def JD (n:Nat) (roster:List Int):Option ((Int×Unit)) :=
    (CA n 0 roster (↑roster.length:Int) 0).bind fun v0 =>
    some (v0.fst,())
def Pg (n:Nat) (y:C.Ds Ty (Ai Hr)):Option (YT Ty K3):=JD n y.1
noncomputable def froster_covers_law (n:Nat):AH Ty:=HY (AI Hr 0 K3 (Pg n))
noncomputable def froster_covers_T (n:Nat):List (Nat×AH Ty):=[]
theorem MA (n:Nat):Au Tryz.prog (froster_covers_T n):=trivial
noncomputable def froster_covers_l1_C (n:Nat):A7 Ty:=[]
theorem Sp (n:Nat) (x:C.Ds Ty (Ai CT)):(A1 Tryz.prog 17 (An Tryz.prog (froster_covers_T n) []) (Ah (froster_covers_l1_C n)) (Ar 2 Tryz.f74) (A0 CT x)).runK (AJ 0 CT HO (EW n))=EW (n+1) x:=by kernel_rfl
theorem Sq (n:Nat):AF true Tryz.prog 17 (froster_covers_l1_cut n) (.loop (Ar 2 Tryz.f74)):=AM fun x y hy=>A6 (Fn:=EW) Aa Ab (fun n=>Ac Aa Ab (MA n) Ak) (fun h=>by cases h) (fun h=>by cases h) (fun n=>(Ae (fn:=Tryz.f74) (L:=froster_covers_l1_C n) (ks:=[]) trivial (by kernel_rfl) (by kernel_rfl))) (by decide) (fun _=>rfl) Sp hy
noncomputable def froster_covers_C (n:Nat):A7 Ty:=[(.loop 2,froster_covers_l1_cut n)]
theorem Wc (n:Nat) (x:C.Ds Ty (Ai Hr)):(A1 Tryz.prog 17 (An Tryz.prog (froster_covers_T n) []) (Ah (froster_covers_C n)) (Ap Tryz.f74) (A0 Hr x)).runK (Aw Tryz.prog Tryz.f74.results.toList 0 K3)=Pg n x:=by kernel_rfl
theorem Sr (n:Nat):Av Tryz.prog 74 (froster_covers_law n):=BI (Ax Tryz.func74 rfl rfl (by decide) rfl Aa Ab (Ac Aa Ab (MA n) Ak) (Ae (fn:=Tryz.f74) (L:=froster_covers_C n) (ks:=[.loop 2]) ⟨Sq n,trivial⟩ (by kernel_rfl) (by kernel_rfl)) (Wc n))
def DK:List (Nat×C):=[(0,.g 32),(1,.l 3),(2,.s 3)]
def Gr:List Wo:=[⟨.ret,[],[],[.s 4]⟩]
def B1 (n:Nat) (w:A8) (roster:List Int) (least:Int):Option ((Bool×Unit)) :=
    (C8 n w).bind fun v0 =>
    bif decide (v0.fst=0) then((EP n w roster).bind fun v1 =>
    bif v1.fst then((FI n w roster).bind fun v2 =>
    bif v2.fst then((JD n roster).bind fun v3 =>
    some (decide (v3.fst≥least),())) else
    some (false,())) else
    some (false,())) else
    some (false,())
def Kk (n:Nat) (y:C.Ds Ty (Ai DK)):Option (YT Ty Gr):=B1 n y.1 y.2.1 y.2.2.1
noncomputable def froster_ProveRoster_law (n:Nat):AH Ty:=HY (AI DK 0 Gr (Kk n))
noncomputable def froster_ProveRoster_T (n:Nat):List (Nat×AH Ty):=[(71,froster_CheckWeek_law n),(72,froster_Week_roster_law n),(73,froster_Week_legal_law n),(74,froster_covers_law n)]
theorem Ph (n:Nat):Au Tryz.prog (froster_ProveRoster_T n):=⟨Fj n,⟨Nd n,⟨Ol n,⟨Sr n,trivial⟩⟩⟩⟩
noncomputable def froster_ProveRoster_C (n:Nat):A7 Ty:=[]
theorem Qp (n:Nat) (x:C.Ds Ty (Ai DK)):(A1 Tryz.prog 26 (An Tryz.prog (froster_ProveRoster_T n) []) (Ah (froster_ProveRoster_C n)) (Ap Tryz.f33) (A0 DK x)).runK (Aw Tryz.prog Tryz.f33.results.toList 0 Gr)=Kk n x:=by kernel_rfl
theorem H9 (n:Nat):Av Tryz.prog 33 (froster_ProveRoster_law n):=BI (Ax Tryz.func33 rfl rfl (by decide) rfl Aa Ab (Ac Aa Ab (Ph n) Ak) (Ae (fn:=Tryz.f33) (L:=froster_ProveRoster_C n) (ks:=[]) trivial (by kernel_rfl) (by kernel_rfl)) (Qp n))
def Dn:List (Nat×C):=[(0,.u 114),(1,.v 3)]
def FJ:List Wo:=[⟨.ret,[.u 114],[],[]⟩,⟨.pan,[.u 114],[],[.i 234 (.g 234)]⟩]
def C1 (n:Nat) (g:Af) (n_:List Int):Option ((Af×Unit) ⊕ ((Af×AE×Unit))) :=
    bif n_.length.beq 5 then((AC n_ 0).bind fun v0 =>
    (n_.get?Internal (Int.toNat 0)).bind fun v1 =>
    (Bu n v1 0 (IntKind.i64.wrap ((↑g.state.roster.length:Int)-1))).bind fun v2 =>
    bif v2.fst then(bif n_.length.beq 5 then((AC n_ 1).bind fun v3 =>
    (n_.get?Internal (Int.toNat 1)).bind fun v4 =>
    (Bu n v4 (-1) (IntKind.i64.wrap ((↑g.state.week.drivers.length:Int)-1))).bind fun v5 =>
    (AA n v5.fst 2).bind fun v6 =>
    Sum.elim (fun v7=>(UA n g.state.roster).bind fun v8 =>
    bif n_.length.beq 5 then((AC n_ 0).bind fun v9 =>
    (n_.get?Internal (Int.toNat 0)).bind fun v10 =>
    bif n_.length.beq 5 then((AC n_ 1).bind fun v11 =>
    (n_.get?Internal (Int.toNat 1)).bind fun v12 =>
    (AC v8.fst v10).bind fun v13 =>
    (v8.fst.get?Internal v10.toNat).bind fun v14 =>
    (B1 n g.state.week (v8.fst.set v10.toNat v12) 0).bind fun v15 =>
    (AA n v15.fst 10).bind fun v16 =>
    Sum.elim (fun v17=>some (.inl (Af.mk (Ao.mk g.state.cards g.state.outs g.state.runs g.state.records g.state.week (v8.fst.set v10.toNat v12)),()))) (fun v17=>some (.inr (g,(v17.fst,())))) (v16)) else
    none) else
    none) (fun v7=>some (.inr (g,(v7.fst,())))) (v6)) else
    none) else
    (AA n false 2).bind fun v3 =>
    Sum.elim (fun v4=>(UA n g.state.roster).bind fun v5 =>
    bif n_.length.beq 5 then((AC n_ 0).bind fun v6 =>
    (n_.get?Internal (Int.toNat 0)).bind fun v7 =>
    bif n_.length.beq 5 then((AC n_ 1).bind fun v8 =>
    (n_.get?Internal (Int.toNat 1)).bind fun v9 =>
    (AC v5.fst v7).bind fun v10 =>
    (v5.fst.get?Internal v7.toNat).bind fun v11 =>
    (B1 n g.state.week (v5.fst.set v7.toNat v9) 0).bind fun v12 =>
    (AA n v12.fst 10).bind fun v13 =>
    Sum.elim (fun v14=>some (.inl (Af.mk (Ao.mk g.state.cards g.state.outs g.state.runs g.state.records g.state.week (v5.fst.set v7.toNat v9)),()))) (fun v14=>some (.inr (g,(v14.fst,())))) (v13)) else
    none) else
    none) (fun v4=>some (.inr (g,(v4.fst,())))) (v3)) else
    none
def JE (n:Nat) (y:C.Ds Ty (Ai Dn)):Option (YT Ty FJ):=C1 n y.1 y.2.1
noncomputable def fgarage_session_give_law (n:Nat):AH Ty:=AI Dn 1 FJ (JE n)
noncomputable def fgarage_session_give_T (n:Nat):List (Nat×AH Ty):=[(75,fgarage_within_law n),(139,fgarage_ask_law n),(268,clone3_law n),(33,froster_ProveRoster_law n)]
theorem Om (n:Nat):Au Tryz.prog (fgarage_session_give_T n):=⟨Cx n,⟨B3 n,⟨VS n,⟨H9 n,trivial⟩⟩⟩⟩
noncomputable def fgarage_session_give_C (n:Nat):A7 Ty:=[]
theorem Pi (n:Nat) (x:C.Ds Ty (Ai Dn)):(A1 Tryz.prog 54 (An Tryz.prog (fgarage_session_give_T n) []) (Ah (fgarage_session_give_C n)) (Ap Tryz.f200) (A0 Dn x)).runK (Aw Tryz.prog Tryz.f200.results.toList 1 FJ)=JE n x:=by kernel_rfl
theorem Hg (n:Nat):Av Tryz.prog 200 (fgarage_session_give_law n):=Ax Tryz.func200 rfl rfl (by decide) rfl Aa Ab (Ac Aa Ab (Om n) Ak) (Ae (fn:=Tryz.f200) (L:=fgarage_session_give_C n) (ks:=[]) trivial (by kernel_rfl) (by kernel_rfl)) (Pi n)
def Aac:List (Nat×C):=[]
def Agy:List Wo:=[⟨.ret,[],[],[.m 9 237]⟩]
def AnR (n:Nat):Option (((List (ByteArray×Ey))×Unit)) :=
    some (Je DS (Je DS (Je DS (Je DS (Je DS (Je DS (Je DS (Je DS (Je DS (Je DS (Je DS (Je DS [] (B [102,111,117,110,100]) (Ey.mk 4 (Fp.mk (↑189:Int)))) (B [104,101,108,100]) (Ey.mk 4 (Fp.mk (↑190:Int)))) (B [115,105,103,110,101,100]) (Ey.mk 4 (Fp.mk (↑191:Int)))) (B [99,104,101,99,107,101,100]) (Ey.mk 3 (Fp.mk (↑192:Int)))) (B [111,117,116]) (Ey.mk 2 (Fp.mk (↑193:Int)))) (B [105,110]) (Ey.mk 3 (Fp.mk (↑194:Int)))) (B [115,97,108,101]) (Ey.mk 5 (Fp.mk (↑195:Int)))) (B [115,121,110,99]) (Ey.mk 4 (Fp.mk (↑196:Int)))) (B [99,108,111,115,101]) (Ey.mk 5 (Fp.mk (↑197:Int)))) (B [100,114,105,118,101,114]) (Ey.mk 2 (Fp.mk (↑198:Int)))) (B [100,117,116,121]) (Ey.mk 5 (Fp.mk (↑199:Int)))) (B [103,105,118,101]) (Ey.mk 2 (Fp.mk (↑200:Int))),())
def Akz (n:Nat) (y:C.Ds Ty (Ai Aac)):Option (YT Ty Agy):=AnR n
noncomputable def words_law (n:Nat):AH Ty:=AI Aac 0 Agy (Akz n)
noncomputable def words_T (n:Nat):List (Nat×AH Ty):=[(189,fgarage_session_found_law n),(190,fgarage_session_held_law n),(191,fgarage_session_signed_law n),(192,fgarage_session_checked_law n),(193,fgarage_session_out_law n),(194,fgarage_session_in_law n),(195,fgarage_session_sale_law n),(196,fgarage_session_sync_law n),(197,fgarage_session_close_law n),(198,fgarage_session_driver_law n),(199,fgarage_session_duty_law n),(200,fgarage_session_give_law n)]
theorem AlM (n:Nat):Au Tryz.prog (words_T n):=⟨G6 n,⟨GU n,⟨FT n,⟨Fs n,⟨H7 n,⟨Ib n,⟨GY n,⟨GZ n,⟨G8 n,⟨FU n,⟨Ha n,⟨Hg n,trivial⟩⟩⟩⟩⟩⟩⟩⟩⟩⟩⟩⟩
noncomputable def words_C (n:Nat):A7 Ty:=[]
theorem AnS (n:Nat) (x:C.Ds Ty (Ai Aac)):(A1 Tryz.prog 15 (An Tryz.prog (words_T n) []) (Ah (words_C n)) (Ap Tryz.f138) (A0 Aac x)).runK (Aw Tryz.prog Tryz.f138.results.toList 0 Agy)=Akz n x:=by kernel_rfl
theorem Ait (n:Nat):Av Tryz.prog 138 (words_law n):=Ax Tryz.func138 rfl rfl (by decide) rfl Aa Ab (Ac Aa Ab (AlM n) Ak) (Ae (fn:=Tryz.f138) (L:=words_C n) (ks:=[]) trivial (by kernel_rfl) (by kernel_rfl)) (AnS n)
def Hs:List (Nat×C):=[(0,.s 9)]
def K4:List Wo:=[⟨.ret,[],[],[.s 3]⟩,⟨.pan,[],[],[.i 234 (.g 234)]⟩]
def JF (n:Nat) (s:ByteArray):Option ((Int×Unit) ⊕ ((AE×Unit))) :=
    (TW s).bind fun v0 =>
    Sum.elim (fun v1=>(Yp n v1).bind fun v2 =>
    bif v2.fst.beq s then((Bu n v1 (-999999999) 999999999).bind fun v3 =>
    (AA n v3.fst 4).bind fun v4 =>
    Sum.elim (fun v5=>some (.inl (v1,()))) (fun v5=>some (.inr (v5.fst,()))) (v4)) else
    (AA n false 4).bind fun v3 =>
    Sum.elim (fun v4=>some (.inl (v1,()))) (fun v4=>some (.inr (v4.fst,()))) (v3)) (fun v1=>(AA n false 4).bind fun v2 =>
    Sum.elim (fun v3=>some (.inl (v1,()))) (fun v3=>some (.inr (v3.fst,()))) (v2)) (v0)
def Pj (n:Nat) (y:C.Ds Ty (Ai Hs)):Option (YT Ty K4):=JF n y.1
noncomputable def fgarage_number_law (n:Nat):AH Ty:=AI Hs 0 K4 (Pj n)
noncomputable def fgarage_number_T (n:Nat):List (Nat×AH Ty):=[(113,atoiS_law n),(89,itoaS_law n),(75,fgarage_within_law n),(139,fgarage_ask_law n)]
theorem UH (n:Nat):Au Tryz.prog (fgarage_number_T n):=⟨Yr n,⟨Yq n,⟨Cx n,⟨B3 n,trivial⟩⟩⟩⟩
noncomputable def fgarage_number_C (n:Nat):A7 Ty:=[]
theorem Wd (n:Nat) (x:C.Ds Ty (Ai Hs)):(A1 Tryz.prog 24 (An Tryz.prog (fgarage_number_T n) []) (Ah (fgarage_number_C n)) (Ap Tryz.f140) (A0 Hs x)).runK (Aw Tryz.prog Tryz.f140.results.toList 0 K4)=Pj n x:=by kernel_rfl
theorem Ss (n:Nat):Av Tryz.prog 140 (fgarage_number_law n):=Ax Tryz.func140 rfl rfl (by decide) rfl Aa Ab (Ac Aa Ab (UH n) Ak) (Ae (fn:=Tryz.f140) (L:=fgarage_number_C n) (ks:=[]) trivial (by kernel_rfl) (by kernel_rfl)) (Wd n)
end Go.Proofs.YtkpgggfibljflaaGreatDoor
namespace Go.Proofs.YtkpgggfibljflaaGreatDoor
open Go Go.RowKit Go.Proofs
open Rep (rep)
def Ub:Nat→Code→Code
  | n+1,.seq _ b=>Ub n b
  | _,c=>c
def MB:List (Nat×C):=[(0,.u 114),(4,.p [.s 3]),(6,.u 237),(8,.a 3),(33,.l 9),(34,.s 3),(35,.s 3)]
def UJ:List Wo:=[⟨.exit 0,[.u 114,.p [.s 3],.u 237,.a 3],[(0,.q 0),(4,.q 1),(6,.q 2),(8,.q 3)],[]⟩,⟨.pan,[.u 114,.p [.s 3],.u 237,.a 3],[(4,.q 1)],[.i 234 (.g 234)]⟩]
def NJ:List (Nat×C):=[(0,.u 114),(1,.s 9),(4,.p [.s 37])]
def Qq:List Wo:=[⟨.ret,[.u 114,.p [.s 37]],[(4,.q 1)],[]⟩,⟨.pan,[.u 114,.p [.s 37]],[(4,.q 1)],[.i 234 (.g 234)]⟩]
def MC:Nat→Af→Int→Ey→(List Int)→(List ByteArray)→Int→Int→Option ((Af×(Int×Unit)×Ey×List Int×Unit×Unit×Unit×Unit×Unit) ⊕ ((Af×(Int×Unit)×Ey×List Int×Unit×AE×Unit)))
  | 0,_,_,_,_,_,_,_=>none
  | n+1,g,e,x,n_,x33,x34,x35 =>
    bif decide (x35<x34) then((AC x33 x35).bind fun v0 =>
    (JF n v0).bind fun v1 =>
    Sum.elim (fun v2=>bif n_.length.beq 5 then((AC n_ x35).bind fun v3 =>
    (n_.get?Internal x35.toNat).bind fun v4 =>
    MC n g e x (n_.set x35.toNat v2.fst) x33 x34 (IntKind.i64.wrap (x35+1))) else
    none) (fun v2=>some (.inr (g,((e,()),(x,(n_,((),(v2.fst,())))))))) (v1)) else
    some (.inl (g,((e,()),(x,(n_,((),((),((),((),())))))))))
def Qr (n:Nat) (y:C.Ds Ty (Ai MB)):Option (YT Ty UJ):=MC n y.1 y.2.1.1 y.2.2.1 y.2.2.2.1 y.2.2.2.2.1 y.2.2.2.2.2.1 y.2.2.2.2.2.2.1
noncomputable def nextB_l1_cut (n:Nat):St Ty→Tr (Lf Ty):=C3 MB 4 UJ (Qr n)
def Aiu (n:Nat) (g:Af) (text:ByteArray) (e:Int):Option ((Af×(Int×Unit)×Unit×Unit) ⊕ ((Af×(Int×Unit)×Unit×AE×Unit))) :=
    (Xm n text (B [32])).bind fun v0 =>
    (AnR n).bind fun v1 =>
    (AC v0.fst 0).bind fun v2 =>
    bif Gc DS v1.fst v2 then((AA n (decide ((↑v0.fst.length:Int)=IntKind.i64.wrap ((AZ DS v1.fst v2 (Ey.mk 0 (Fp.mk (-1)))).many+1))) 4).bind fun v3 =>
    Sum.elim (fun v4=>(GP v0.fst 1 (↑v0.fst.length:Int)).bind fun v5 =>
    (MC n g e (AZ DS v1.fst v2 (Ey.mk 0 (Fp.mk (-1)))) [0,0,0,0,0] v5 (↑v5.length:Int) 0).bind fun v6 =>
    Sum.elim (fun v7=>bif v7.snd.snd.snd.fst.length.beq 5 then(bif decide (v7.snd.snd.fst.do_.f=(↑189:Int)) then((D8 n v7.fst v7.snd.snd.snd.fst).bind fun v8 =>
    Sum.elim (fun v9=>some (.inl (v9.fst,((0,()),((),()))))) (fun v9=>some (.inr (v9.fst,((v7.snd.fst.fst,()),((),(v9.snd.fst,())))))) (v8)) else
    bif decide (v7.snd.snd.fst.do_.f=(↑190:Int)) then((Ec n v7.fst v7.snd.snd.snd.fst).bind fun v8 =>
    Sum.elim (fun v9=>some (.inl (v9.fst,((0,()),((),()))))) (fun v9=>some (.inr (v9.fst,((v7.snd.fst.fst,()),((),(v9.snd.fst,())))))) (v8)) else
    bif decide (v7.snd.snd.fst.do_.f=(↑191:Int)) then((De n v7.fst v7.snd.snd.snd.fst).bind fun v8 =>
    Sum.elim (fun v9=>some (.inl (v9.fst,((0,()),((),()))))) (fun v9=>some (.inr (v9.fst,((v7.snd.fst.fst,()),((),(v9.snd.fst,())))))) (v8)) else
    bif decide (v7.snd.snd.fst.do_.f=(↑192:Int)) then((C5 n v7.fst v7.snd.snd.snd.fst).bind fun v8 =>
    Sum.elim (fun v9=>some (.inl (v9.fst,((0,()),((),()))))) (fun v9=>some (.inr (v9.fst,((v7.snd.fst.fst,()),((),(v9.snd.fst,())))))) (v8)) else
    bif decide (v7.snd.snd.fst.do_.f=(↑193:Int)) then((CL n v7.fst v7.snd.snd.snd.fst).bind fun v8 =>
    Sum.elim (fun v9=>some (.inl (v9.fst,((0,()),((),()))))) (fun v9=>some (.inr (v9.fst,((v7.snd.fst.fst,()),((),(v9.snd.fst,())))))) (v8)) else
    bif decide (v7.snd.snd.fst.do_.f=(↑194:Int)) then((Dy n v7.fst v7.snd.snd.snd.fst).bind fun v8 =>
    Sum.elim (fun v9=>some (.inl (v9.fst,((0,()),((),()))))) (fun v9=>some (.inr (v9.fst,((v7.snd.fst.fst,()),((),(v9.snd.fst,())))))) (v8)) else
    bif decide (v7.snd.snd.fst.do_.f=(↑195:Int)) then((Ef n v7.fst v7.snd.snd.snd.fst).bind fun v8 =>
    Sum.elim (fun v9=>some (.inl (v9.fst,((0,()),((),()))))) (fun v9=>some (.inr (v9.fst,((v7.snd.fst.fst,()),((),(v9.snd.fst,())))))) (v8)) else
    bif decide (v7.snd.snd.fst.do_.f=(↑196:Int)) then((Eg n v7.fst v7.snd.snd.snd.fst).bind fun v8 =>
    Sum.elim (fun v9=>some (.inl (v9.fst,((0,()),((),()))))) (fun v9=>some (.inr (v9.fst,((v7.snd.fst.fst,()),((),(v9.snd.fst,())))))) (v8)) else
    bif decide (v7.snd.snd.fst.do_.f=(↑197:Int)) then((DC n v7.fst v7.snd.snd.snd.fst).bind fun v8 =>
    Sum.elim (fun v9=>some (.inl (v9.fst,((0,()),((),()))))) (fun v9=>some (.inr (v9.fst,((v7.snd.fst.fst,()),((),(v9.snd.fst,())))))) (v8)) else
    bif decide (v7.snd.snd.fst.do_.f=(↑198:Int)) then((BN n v7.fst v7.snd.snd.snd.fst).bind fun v8 =>
    Sum.elim (fun v9=>some (.inl (v9.fst,((0,()),((),()))))) (fun v9=>some (.inr (v9.fst,((v7.snd.fst.fst,()),((),(v9.snd.fst,())))))) (v8)) else
    bif decide (v7.snd.snd.fst.do_.f=(↑199:Int)) then((Cz n v7.fst v7.snd.snd.snd.fst).bind fun v8 =>
    Sum.elim (fun v9=>some (.inl (v9.fst,((0,()),((),()))))) (fun v9=>some (.inr (v9.fst,((v7.snd.fst.fst,()),((),(v9.snd.fst,())))))) (v8)) else
    bif decide (v7.snd.snd.fst.do_.f=(↑200:Int)) then((C1 n v7.fst v7.snd.snd.snd.fst).bind fun v8 =>
    Sum.elim (fun v9=>some (.inl (v9.fst,((0,()),((),()))))) (fun v9=>some (.inr (v9.fst,((v7.snd.fst.fst,()),((),(v9.snd.fst,())))))) (v8)) else
    none) else
    none) (fun v7=>some (.inr (v7.fst,((v7.snd.fst.fst,()),((),(v7.snd.snd.snd.snd.snd.fst,())))))) (v6)) (fun v4=>some (.inr (g,((e,()),((),(v4.fst,())))))) (v3)) else
    (AA n false 4).bind fun v3 =>
    Sum.elim (fun v4=>(GP v0.fst 1 (↑v0.fst.length:Int)).bind fun v5 =>
    (MC n g e (AZ DS v1.fst v2 (Ey.mk 0 (Fp.mk (-1)))) [0,0,0,0,0] v5 (↑v5.length:Int) 0).bind fun v6 =>
    Sum.elim (fun v7=>bif v7.snd.snd.snd.fst.length.beq 5 then(bif decide (v7.snd.snd.fst.do_.f=(↑189:Int)) then((D8 n v7.fst v7.snd.snd.snd.fst).bind fun v8 =>
    Sum.elim (fun v9=>some (.inl (v9.fst,((0,()),((),()))))) (fun v9=>some (.inr (v9.fst,((v7.snd.fst.fst,()),((),(v9.snd.fst,())))))) (v8)) else
    bif decide (v7.snd.snd.fst.do_.f=(↑190:Int)) then((Ec n v7.fst v7.snd.snd.snd.fst).bind fun v8 =>
    Sum.elim (fun v9=>some (.inl (v9.fst,((0,()),((),()))))) (fun v9=>some (.inr (v9.fst,((v7.snd.fst.fst,()),((),(v9.snd.fst,())))))) (v8)) else
    bif decide (v7.snd.snd.fst.do_.f=(↑191:Int)) then((De n v7.fst v7.snd.snd.snd.fst).bind fun v8 =>
    Sum.elim (fun v9=>some (.inl (v9.fst,((0,()),((),()))))) (fun v9=>some (.inr (v9.fst,((v7.snd.fst.fst,()),((),(v9.snd.fst,())))))) (v8)) else
    bif decide (v7.snd.snd.fst.do_.f=(↑192:Int)) then((C5 n v7.fst v7.snd.snd.snd.fst).bind fun v8 =>
    Sum.elim (fun v9=>some (.inl (v9.fst,((0,()),((),()))))) (fun v9=>some (.inr (v9.fst,((v7.snd.fst.fst,()),((),(v9.snd.fst,())))))) (v8)) else
    bif decide (v7.snd.snd.fst.do_.f=(↑193:Int)) then((CL n v7.fst v7.snd.snd.snd.fst).bind fun v8 =>
    Sum.elim (fun v9=>some (.inl (v9.fst,((0,()),((),()))))) (fun v9=>some (.inr (v9.fst,((v7.snd.fst.fst,()),((),(v9.snd.fst,())))))) (v8)) else
    bif decide (v7.snd.snd.fst.do_.f=(↑194:Int)) then((Dy n v7.fst v7.snd.snd.snd.fst).bind fun v8 =>
    Sum.elim (fun v9=>some (.inl (v9.fst,((0,()),((),()))))) (fun v9=>some (.inr (v9.fst,((v7.snd.fst.fst,()),((),(v9.snd.fst,())))))) (v8)) else
    bif decide (v7.snd.snd.fst.do_.f=(↑195:Int)) then((Ef n v7.fst v7.snd.snd.snd.fst).bind fun v8 =>
    Sum.elim (fun v9=>some (.inl (v9.fst,((0,()),((),()))))) (fun v9=>some (.inr (v9.fst,((v7.snd.fst.fst,()),((),(v9.snd.fst,())))))) (v8)) else
    bif decide (v7.snd.snd.fst.do_.f=(↑196:Int)) then((Eg n v7.fst v7.snd.snd.snd.fst).bind fun v8 =>
    Sum.elim (fun v9=>some (.inl (v9.fst,((0,()),((),()))))) (fun v9=>some (.inr (v9.fst,((v7.snd.fst.fst,()),((),(v9.snd.fst,())))))) (v8)) else
    bif decide (v7.snd.snd.fst.do_.f=(↑197:Int)) then((DC n v7.fst v7.snd.snd.snd.fst).bind fun v8 =>
    Sum.elim (fun v9=>some (.inl (v9.fst,((0,()),((),()))))) (fun v9=>some (.inr (v9.fst,((v7.snd.fst.fst,()),((),(v9.snd.fst,())))))) (v8)) else
    bif decide (v7.snd.snd.fst.do_.f=(↑198:Int)) then((BN n v7.fst v7.snd.snd.snd.fst).bind fun v8 =>
    Sum.elim (fun v9=>some (.inl (v9.fst,((0,()),((),()))))) (fun v9=>some (.inr (v9.fst,((v7.snd.fst.fst,()),((),(v9.snd.fst,())))))) (v8)) else
    bif decide (v7.snd.snd.fst.do_.f=(↑199:Int)) then((Cz n v7.fst v7.snd.snd.snd.fst).bind fun v8 =>
    Sum.elim (fun v9=>some (.inl (v9.fst,((0,()),((),()))))) (fun v9=>some (.inr (v9.fst,((v7.snd.fst.fst,()),((),(v9.snd.fst,())))))) (v8)) else
    bif decide (v7.snd.snd.fst.do_.f=(↑200:Int)) then((C1 n v7.fst v7.snd.snd.snd.fst).bind fun v8 =>
    Sum.elim (fun v9=>some (.inl (v9.fst,((0,()),((),()))))) (fun v9=>some (.inr (v9.fst,((v7.snd.fst.fst,()),((),(v9.snd.fst,())))))) (v8)) else
    none) else
    none) (fun v7=>some (.inr (v7.fst,((v7.snd.fst.fst,()),((),(v7.snd.snd.snd.snd.snd.fst,())))))) (v6)) (fun v4=>some (.inr (g,((e,()),((),(v4.fst,())))))) (v3)
def We (n:Nat) (y:C.Ds Ty (Ai NJ)):Option (YT Ty Qq):=Aiu n y.1 y.2.1 y.2.2.1.1
noncomputable def nextB_T (n:Nat):List (Nat×AH Ty):=[(112,splitS_law n),(138,words_law n),(139,fgarage_ask_law n),(140,fgarage_number_law n),(189,fgarage_session_found_law n),(190,fgarage_session_held_law n),(191,fgarage_session_signed_law n),(192,fgarage_session_checked_law n),(193,fgarage_session_out_law n),(194,fgarage_session_in_law n),(195,fgarage_session_sale_law n),(196,fgarage_session_sync_law n),(197,fgarage_session_close_law n),(198,fgarage_session_driver_law n),(199,fgarage_session_duty_law n),(200,fgarage_session_give_law n)]
theorem AeZ (n:Nat):Au Tryz.prog (nextB_T n):=⟨VU n,⟨Ait n,⟨B3 n,⟨Ss n,⟨G6 n,⟨GU n,⟨FT n,⟨Fs n,⟨H7 n,⟨Ib n,⟨GY n,⟨GZ n,⟨G8 n,⟨FU n,⟨Ha n,⟨Hg n,trivial⟩⟩⟩⟩⟩⟩⟩⟩⟩⟩⟩⟩⟩⟩⟩⟩
noncomputable def nextB_l1_C (n:Nat):A7 Ty:=[]
theorem Aiv (n:Nat) (x:C.Ds Ty (Ai MB)):(A1 Tryz.prog 50 (An Tryz.prog (nextB_T n) []) (Ah (nextB_l1_C n)) (Ar 7 Tryz.f84) (A0 MB x)).runK (AJ 4 MB UJ (Qr n))=Qr (n+1) x:=by kernel_rfl
theorem Aiw (n:Nat):AF true Tryz.prog 50 (nextB_l1_cut n) (.loop (Ar 7 Tryz.f84)):=AM fun x y hy=>A6 (Fn:=Qr) Aa Ab (fun n=>Ac Aa Ab (AeZ n) Ak) (fun h=>by cases h) (fun h=>by cases h) (fun n=>(Ae (fn:=Tryz.f84) (L:=nextB_l1_C n) (ks:=[]) trivial (by kernel_rfl) (by kernel_rfl))) (by decide) (fun _=>rfl) Aiv hy
noncomputable def nextB_C (n:Nat):A7 Ty:=[(.loop 7,nextB_l1_cut n)]
theorem AnT (n:Nat) (x:C.Ds Ty (Ai NJ)):(A1 Tryz.prog 50 (An Tryz.prog (nextB_T n) []) (Ah (nextB_C n)) (Ub 2 (Ap Tryz.f84)) (A0 NJ x)).runK (Mg 2 Qq)=We n x:=by kernel_rfl
theorem AlN (n:Nat) {x:C.Ds Ty (Ai NJ)} {y:YT Ty Qq} (hy:We n x=some y):Akm true Tryz.prog 50 (Ub 2 (Ap Tryz.f84)) NJ 2 Qq x y:=ApK Aa Ab (Ac Aa Ab (AeZ n) Ak) (fun h=>by cases h) (fun h=>by cases h) (Ae (c:=Ub 2 (Ap Tryz.f84)) (fn:=Tryz.f84) (L:=nextB_C n) (ks:=[.loop 7]) ⟨Aiw n,trivial⟩ (by kernel_rfl) (by kernel_rfl)) ((AnT n x).trans hy)
end Go.Proofs.YtkpgggfibljflaaGreatDoor
