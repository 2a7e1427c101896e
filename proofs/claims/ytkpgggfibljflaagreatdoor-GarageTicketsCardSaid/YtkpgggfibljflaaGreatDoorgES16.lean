/- What a proof leans on: a machine that steps through code, and what functions compute. -/
import Derived.Test.YtkpgggfibljflaaGreatDoorgES15
import Derived.Shelf.Strings.OnBuilder
set_option linter.all false
set_option maxRecDepth 100000
namespace Go.Proofs.YtkpgggfibljflaaGreatDoor
open Go Go.RowKit Go.Proofs
open Rep (rep)
def Iv:List (Nat×C):=[(0,.l 28),(3,.s 3),(9,.l 28),(10,.s 3),(11,.s 3)]
def OC:List Wo:=[⟨.exit 0,[],[(0,.l 28),(3,.s 3)],[]⟩]
def Iw:List (Nat×C):=[(6,.o 93),(25,.l 28),(26,.s 3),(27,.s 3)]
def OD:List Wo:=[⟨.exit 2,[],[(6,.o 93)],[]⟩]
def R1:List (Nat×C):=[(0,.l 28)]
def V7:List Wo:=[⟨.ret,[],[],[.o 93]⟩]
def Ld:Nat→(List (List Ac))→Int→(List (List Ac))→Int→Int→Option ((List (List Ac)×Int×Unit))
  | 0,_,_,_,_,_=>none
  | n+1,slices,size,x9,x10,x11 =>
    bif decide (x11<x10) then((AO x9 x11).bind fun v0 =>
    bif decide (IntKind.i64.wrap (size+(↑v0.length:Int))<0) then(none) else
    Ld n slices (IntKind.i64.wrap (size+(↑v0.length:Int))) x9 x10 (IntKind.i64.wrap (x11+1))) else
    some (slices,(size,()))
def K0 (n:Nat) (y:C.Ds Ty (Aj Iv)):Option (YT Ty OC):=Ld n y.1 y.2.1 y.2.2.1 y.2.2.2.1 y.2.2.2.2.1
noncomputable def concatR_l1_cut (n:Nat):St Ty→Tr (Lf Ty):=CK Iv 0 OC (K0 n)
def Le:Nat→(List Ac)→(List (List Ac))→Int→Int→Option ((List Ac×Unit))
  | 0,_,_,_,_=>none
  | n+1,newslice,x25,x26,x27 =>
    bif decide (x27<x26) then((AO x25 x27).bind fun v0 =>
    (app newslice v0).bind fun v1 =>
    Le n v1 x25 x26 (IntKind.i64.wrap (x27+1))) else
    some (newslice,())
def K1 (n:Nat) (y:C.Ds Ty (Aj Iw)):Option (YT Ty OD):=Le n y.1 y.2.1 y.2.2.1 y.2.2.2.1
noncomputable def concatR_l2_cut (n:Nat):St Ty→Tr (Lf Ty):=CK Iw 0 OD (K1 n)
def X2 (n:Nat) (slices:List (List Ac)):Option ((List Ac×Unit)) :=
    (Ld n slices 0 slices (↑slices.length:Int) 0).bind fun v0 =>
    (bif decide (0≤v0.snd.fst) && decide (v0.snd.fst≤1000000000) then some () else none).bind fun v1 =>
    (Le n [] v0.fst (↑v0.fst.length:Int) 0).bind fun v2 =>
    some (v2.fst,())
def Ab2 (n:Nat) (y:C.Ds Ty (Aj R1)):Option (YT Ty V7):=X2 n y.1
noncomputable def concatR_law (n:Nat):AE Ty:=AF R1 0 V7 (Ab2 n)
noncomputable def concatR_T (n:Nat):List (Nat×AE Ty):=[(187,growS_law n)]
theorem Q1 (n:Nat):Aq Tryz.prog (concatR_T n):=⟨Aew n,trivial⟩
noncomputable def concatR_l1_C (n:Nat):A3 Ty:=[]
theorem Aar (n:Nat) (x:C.Ds Ty (Aj Iv)):(Az Tryz.prog 36 (Am Tryz.prog (concatR_T n) []) (Ai (concatR_l1_C n)) (Ap 3 Tryz.f131) (Aw Iv x)).runK (AI 0 Iv OC (K0 n))=K0 (n+1) x:=by kernel_rfl
theorem Aas (n:Nat):A9 true Tryz.prog 36 (concatR_l1_cut n) (.loop (Ap 3 Tryz.f131)):=AM fun x y hy=>A2 (Fn:=K0) Aa Ab (fun n=>Ad Aa Ab (Q1 n) Al) (fun h=>by cases h) (fun h=>by cases h) (fun n=>(Af (fn:=Tryz.f131) (L:=concatR_l1_C n) (ks:=[]) trivial (by kernel_rfl) (by kernel_rfl))) (by decide) (fun _=>rfl) Aar hy
noncomputable def concatR_l2_C (n:Nat):A3 Ty:=[]
theorem Aat (n:Nat) (x:C.Ds Ty (Aj Iw)):(Az Tryz.prog 36 (Am Tryz.prog (concatR_T n) []) (Ai (concatR_l2_C n)) (Ap 11 Tryz.f131) (Aw Iw x)).runK (AI 0 Iw OD (K1 n))=K1 (n+1) x:=by kernel_rfl
theorem Aau (n:Nat):A9 true Tryz.prog 36 (concatR_l2_cut n) (.loop (Ap 11 Tryz.f131)):=AM fun x y hy=>A2 (Fn:=K1) Aa Ab (fun n=>Ad Aa Ab (Q1 n) Al) (fun h=>by cases h) (fun h=>by cases h) (fun n=>(Af (fn:=Tryz.f131) (L:=concatR_l2_C n) (ks:=[]) trivial (by kernel_rfl) (by kernel_rfl))) (by decide) (fun _=>rfl) Aat hy
noncomputable def concatR_C (n:Nat):A3 Ty:=[(.loop 3,concatR_l1_cut n),(.loop 11,concatR_l2_cut n)]
theorem AfE (n:Nat) (x:C.Ds Ty (Aj R1)):(Az Tryz.prog 36 (Am Tryz.prog (concatR_T n) []) (Ai (concatR_C n)) (An Tryz.f131) (Aw R1 x)).runK (As Tryz.prog Tryz.f131.results.toList 0 V7)=Ab2 n x:=by kernel_rfl
theorem Aav (n:Nat):Ar Tryz.prog 131 (concatR_law n):=Au Tryz.func131 rfl rfl (by decide) rfl Aa Ab (Ad Aa Ab (Q1 n) Al) (Af (fn:=Tryz.f131) (L:=concatR_C n) (ks:=[.loop 3,.loop 11]) ⟨Aas n,⟨Aau n,trivial⟩⟩ (by kernel_rfl) (by kernel_rfl)) (AfE n)
def J7:List (Nat×C):=[(0,.s 4),(1,.s 3)]
def MK:List Wo:=[⟨.ret,[],[],[]⟩,⟨.pan,[],[],[.i 234 (.g 234)]⟩]
def A5 (n:Nat) (is:Bool) (e:Int):Option (Unit ⊕ ((A8×Unit))) :=
    bif !is then(some (.inr (A8.mk e,()))) else
    some (.inl ())
def Sk (n:Nat) (y:C.Ds Ty (Aj J7)):Option (YT Ty MK):=A5 n y.1 y.2.1
noncomputable def fgarage_ask_law (n:Nat):AE Ty:=AF J7 0 MK (Sk n)
noncomputable def fgarage_ask_T (n:Nat):List (Nat×AE Ty):=[]
theorem Xb (n:Nat):Aq Tryz.prog (fgarage_ask_T n):=trivial
noncomputable def fgarage_ask_C (n:Nat):A3 Ty:=[]
theorem ZE (n:Nat) (x:C.Ds Ty (Aj J7)):(Az Tryz.prog 9 (Am Tryz.prog (fgarage_ask_T n) []) (Ai (fgarage_ask_C n)) (An Tryz.f139) (Aw J7 x)).runK (As Tryz.prog Tryz.f139.results.toList 0 MK)=Sk n x:=by kernel_rfl
theorem Bs (n:Nat):Ar Tryz.prog 139 (fgarage_ask_law n):=Au Tryz.func139 rfl rfl (by decide) rfl Aa Ab (Ad Aa Ab (Xb n) Al) (Af (fn:=Tryz.f139) (L:=fgarage_ask_C n) (ks:=[]) trivial (by kernel_rfl) (by kernel_rfl)) (ZE n)
def Eo:List (Nat×C):=[(0,.l 180),(1,.g 180)]
def GW:List Wo:=[⟨.ret,[],[],[.l 180]⟩]
def FW (n:Nat) (l:List A6) (x:A6):Option ((List A6×Unit)) :=
    (Z4 n l).bind fun v0 =>
    (app v0.fst [x]).bind fun v1 =>
    some (v1,())
def Ki (n:Nat) (y:C.Ds Ty (Aj Eo)):Option (YT Ty GW):=FW n y.1 y.2.1
noncomputable def fgarage_with_Card_law (n:Nat):AE Ty:=AF Eo 0 GW (Ki n)
noncomputable def fgarage_with_Card_T (n:Nat):List (Nat×AE Ty):=[(340,clone180_law n)]
theorem P9 (n:Nat):Aq Tryz.prog (fgarage_with_Card_T n):=⟨Z5 n,trivial⟩
noncomputable def fgarage_with_Card_C (n:Nat):A3 Ty:=[]
theorem Q2 (n:Nat) (x:C.Ds Ty (Aj Eo)):(Az Tryz.prog 10 (Am Tryz.prog (fgarage_with_Card_T n) []) (Ai (fgarage_with_Card_C n)) (An Tryz.f308) (Aw Eo x)).runK (As Tryz.prog Tryz.f308.results.toList 0 GW)=Ki n x:=by kernel_rfl
theorem Nz (n:Nat):Ar Tryz.prog 308 (fgarage_with_Card_law n):=Au Tryz.func308 rfl rfl (by decide) rfl Aa Ab (Ad Aa Ab (P9 n) Al) (Af (fn:=Tryz.f308) (L:=fgarage_with_Card_C n) (ks:=[]) trivial (by kernel_rfl) (by kernel_rfl)) (Q2 n)
def FX:List (Nat×C):=[(0,.g 180)]
def Ix:List Wo:=[⟨.ret,[],[],[.s 4]⟩]
def Fv (n:Nat) (c:A6):Option ((Bool×Unit)) :=
    bif decide (0≤c.bus) then(bif decide (c.bus≤99) then(bif decide (1≤c.number) then(bif decide (c.number≤999) then(bif decide (0≤c.minute) then(bif decide (c.minute≤1000000) then(bif decide (IntKind.i64.wrap c.kind.n<(↑[Ic.mk (Fp.mk (↑212:Int)),Ic.mk (Fp.mk (↑212:Int)),Ic.mk (Fp.mk (↑213:Int)),Ic.mk (Fp.mk (↑214:Int))].length:Int)) then((AO [Ic.mk (Fp.mk (↑212:Int)),Ic.mk (Fp.mk (↑212:Int)),Ic.mk (Fp.mk (↑213:Int)),Ic.mk (Fp.mk (↑214:Int))] c.kind.n).bind fun v0 =>
    ([Ic.mk (Fp.mk (↑212:Int)),Ic.mk (Fp.mk (↑212:Int)),Ic.mk (Fp.mk (↑213:Int)),Ic.mk (Fp.mk (↑214:Int))].get?Internal c.kind.n.toNat).bind fun v1 =>
    bif decide (v1.right.f=(↑212:Int)) then(bif decide (0≤c.part) then(bif decide (c.part≤15) then(some (decide (c.sg=0),())) else
    some (false,())) else
    some (false,())) else
    bif decide (v1.right.f=(↑213:Int)) then(bif decide (c.part=0) then(bif decide (1≤c.sg) then(some (decide (c.sg≤999),())) else
    some (false,())) else
    some (false,())) else
    bif decide (v1.right.f=(↑214:Int)) then(bif decide (c.part=0) then(some (decide (c.sg=0),())) else
    some (false,())) else
    none) else
    some (false,())) else
    some (false,())) else
    some (false,())) else
    some (false,())) else
    some (false,())) else
    some (false,())) else
    some (false,())
def My (n:Nat) (y:C.Ds Ty (Aj FX)):Option (YT Ty Ix):=Fv n y.1
noncomputable def fpit_Card_valid_law (n:Nat):AE Ty:=AF FX 0 Ix (My n)
noncomputable def fpit_Card_valid_T (n:Nat):List (Nat×AE Ty):=[]
theorem RB (n:Nat):Aq Tryz.prog (fpit_Card_valid_T n):=trivial
noncomputable def fpit_Card_valid_C (n:Nat):A3 Ty:=[]
theorem SJ (n:Nat) (x:C.Ds Ty (Aj FX)):(Az Tryz.prog 34 (Am Tryz.prog (fpit_Card_valid_T n) []) (Ai (fpit_Card_valid_C n)) (An Tryz.f106) (Aw FX x)).runK (As Tryz.prog Tryz.f106.results.toList 0 Ix)=My n x:=by kernel_rfl
theorem PA (n:Nat):Ar Tryz.prog 106 (fpit_Card_valid_law n):=Au Tryz.func106 rfl rfl (by decide) rfl Aa Ab (Ad Aa Ab (RB n) Al) (Af (fn:=Tryz.f106) (L:=fpit_Card_valid_C n) (ks:=[]) trivial (by kernel_rfl) (by kernel_rfl)) (SJ n)
def Gn:List (Nat×C):=[(0,.l 180),(1,.f 158 [] [.p [.f 106 [] []]]),(7,.s 3),(8,.s 3)]
def Lg:List Wo:=[⟨.exit 0,[.p [.f 106 [] []]],[],[]⟩,⟨.ret,[.p [.f 106 [] []]],[(4,.s 3)],[]⟩]
def Gp:List (Nat×C):=[(4,.p [.m 3 180,.o 3]),(20,.l 180),(21,.s 3),(22,.s 3)]
def Lh:List Wo:=[⟨.exit 1,[.p [.m 3 180,.o 3],.q 1],[(4,.q 0)],[]⟩,⟨.ret,[.p [.m 3 180,.o 3],.q 1],[(2,.z),(3,.s 3)],[]⟩]
def Mz:List (Nat×C):=[(0,.l 180)]
def Q3:List Wo:=[⟨.ret,[],[],[.z,.s 3]⟩,⟨.ret,[],[],[.p [.m 3 180,.l 3],.s 3]⟩]
def ET:Nat→(List A6)→Int→Int→Option ((((Unit×Unit)×Unit)×Unit) ⊕ ((((Unit×Unit)×Unit)×Int×Unit)))
  | 0,_,_,_=>none
  | n+1,s,x7,x8 =>
    bif decide (x8<x7) then((AO s x8).bind fun v0 =>
    (Fv n v0).bind fun v1 =>
    bif !v1.fst then(some (.inr ((((),()),()),(x8,())))) else
    ET n s x7 (IntKind.i64.wrap (x8+1))) else
    some (.inl ((((),()),()),()))
def Iy (n:Nat) (y:C.Ds Ty (Aj Gn)):Option (YT Ty Lg):=ET n y.1 y.2.2.1 y.2.2.2.1
noncomputable def fpit_read_i2_cut (n:Nat):St Ty→Tr (Lf Ty):=CK Gn 1 Lg (Iy n)
def Ca:Nat→(List (Int×A6))→(List Int)→(List A6)→Int→Int→Option ((((List (Int×A6))×List Int×Unit)×Unit×Unit×Unit) ⊕ ((((List (Int×A6))×List Int×Unit)×Unit×Unit×Int×Unit)))
  | 0,_,_,_,_,_=>none
  | n+1,b1,b2,x20,x21,x22 =>
    bif decide (x22<x21) then((AO x20 x22).bind fun v0 =>
    bif EM Gj b1 v0.number then(bif !(decide ((Ba Gj b1 v0.number (A6.mk 0 0 0 (IK.mk 0) 0 0)).bus=v0.bus) && (decide ((Ba Gj b1 v0.number (A6.mk 0 0 0 (IK.mk 0) 0 0)).number=v0.number) && (decide ((Ba Gj b1 v0.number (A6.mk 0 0 0 (IK.mk 0) 0 0)).minute=v0.minute) && (decide ((Ba Gj b1 v0.number (A6.mk 0 0 0 (IK.mk 0) 0 0)).kind.n=v0.kind.n) && (decide ((Ba Gj b1 v0.number (A6.mk 0 0 0 (IK.mk 0) 0 0)).part=v0.part) && (decide ((Ba Gj b1 v0.number (A6.mk 0 0 0 (IK.mk 0) 0 0)).sg=v0.sg) && true)))))) then(some (.inr ((b1,(b2,())),((),((),(6,())))))) else
    bif !EM Gj b1 v0.number then((app b2 [v0.number]).bind fun v1 =>
    Ca n (Ip Gj b1 v0.number v0) v1 x20 x21 (IntKind.i64.wrap (x22+1))) else
    Ca n b1 b2 x20 x21 (IntKind.i64.wrap (x22+1))) else
    bif !EM Gj b1 v0.number then((app b2 [v0.number]).bind fun v1 =>
    Ca n (Ip Gj b1 v0.number v0) v1 x20 x21 (IntKind.i64.wrap (x22+1))) else
    Ca n b1 b2 x20 x21 (IntKind.i64.wrap (x22+1))) else
    some (.inl ((b1,(b2,())),((),((),()))))
def Iz (n:Nat) (y:C.Ds Ty (Aj Gp)):Option (YT Ty Lh):=Ca n y.1.1 y.1.2.1 y.2.1 y.2.2.1 y.2.2.2.1
noncomputable def fpit_read_l1_cut (n:Nat):St Ty→Tr (Lf Ty):=CK Gp 2 Lh (Iz n)
def N0 (n:Nat) (l:List A6):Option ((Unit×Int×Unit) ⊕ ((((List (Int×A6))×List Int×Unit)×Int×Unit))) :=
    bif decide ((↑l.length:Int)>40) then(some (.inl ((),(3,())))) else
    (ET n l (↑l.length:Int) 0).bind fun v0 =>
    Sum.elim (fun v1=>(Ca n [] [] l (↑l.length:Int) 0).bind fun v2 =>
    Sum.elim (fun v3=>(Af0 v3.fst.snd.fst).bind fun v4 =>
    some (.inr ((v3.fst.fst,(v4,())),(0,())))) (fun v3=>some (.inl ((),(v3.snd.snd.snd.fst,())))) (v2)) (fun v1=>bif !!decide (v1.snd.fst≥0) then(some (.inl ((),(1,())))) else
    (Ca n [] [] l (↑l.length:Int) 0).bind fun v2 =>
    Sum.elim (fun v3=>(Af0 v3.fst.snd.fst).bind fun v4 =>
    some (.inr ((v3.fst.fst,(v4,())),(0,())))) (fun v3=>some (.inl ((),(v3.snd.snd.snd.fst,())))) (v2)) (v0)
def WL (n:Nat) (y:C.Ds Ty (Aj Mz)):Option (YT Ty Q3):=N0 n y.1
noncomputable def fpit_read_law (n:Nat):AE Ty:=AF Mz 0 Q3 (WL n)
noncomputable def fpit_read_T (n:Nat):List (Nat×AE Ty):=[(106,fpit_Card_valid_law n),(108,sortI_law n)]
theorem ML (n:Nat):Aq Tryz.prog (fpit_read_T n):=⟨PA n,⟨Aes n,trivial⟩⟩
noncomputable def fpit_read_i2_C (n:Nat):A3 Ty:=[]
theorem Xc (n:Nat) (x:C.Ds Ty (Aj Gn)):(Az Tryz.prog 19 (Am Tryz.prog (fpit_read_T n) []) (Ai (fpit_read_i2_C n)) (Ap 2 Tryz.f210) (Aw Gn x)).runK (AI 1 Gn Lg (Iy n))=Iy (n+1) x:=by kernel_rfl
theorem Xd (n:Nat):A9 true Tryz.prog 19 (fpit_read_i2_cut n) (.loop (Ap 2 Tryz.f210)):=AM fun x y hy=>A2 (Fn:=Iy) Aa Ab (fun n=>Ad Aa Ab (ML n) Al) (fun h=>by cases h) (fun h=>by cases h) (fun n=>(Af (fn:=Tryz.f210) (L:=fpit_read_i2_C n) (ks:=[]) trivial (by kernel_rfl) (by kernel_rfl))) (by decide) (fun _=>rfl) Xc hy
noncomputable def fpit_read_J1 (n:Nat):Qw Ty:=[(210,[(.loop 2,fpit_read_i2_cut n)])]
theorem Q4 (n:Nat):La Tryz.prog (fpit_read_J1 n):=⟨G9 (f:=210) Tryz.func210 rfl (Af (fn:=Tryz.f210) (L:=[(.loop 2,fpit_read_i2_cut n)]) (ks:=[.loop 2]) ⟨Xd n,trivial⟩ (by kernel_rfl) (by kernel_rfl)),trivial⟩
noncomputable def fpit_read_l1_C (n:Nat):A3 Ty:=[]
theorem Xe (n:Nat) (x:C.Ds Ty (Aj Gp)):(Az Tryz.prog 69 (Am Tryz.prog (fpit_read_T n) (fpit_read_J1 n)) (Ai (fpit_read_l1_C n)) (Ap 7 Tryz.f66) (Aw Gp x)).runK (AI 2 Gp Lh (Iz n))=Iz (n+1) x:=by kernel_rfl
theorem Xf (n:Nat):A9 true Tryz.prog 69 (fpit_read_l1_cut n) (.loop (Ap 7 Tryz.f66)):=AM fun x y hy=>A2 (Fn:=Iz) Aa Ab (fun n=>Ad Aa Ab (ML n) (Q4 n)) (fun h=>by cases h) (fun h=>by cases h) (fun n=>(Af (fn:=Tryz.f66) (L:=fpit_read_l1_C n) (ks:=[]) trivial (by kernel_rfl) (by kernel_rfl))) (by decide) (fun _=>rfl) Xe hy
noncomputable def fpit_read_C (n:Nat):A3 Ty:=[(.loop 7,fpit_read_l1_cut n)]
theorem Ac9 (n:Nat) (x:C.Ds Ty (Aj Mz)):(Az Tryz.prog 69 (Am Tryz.prog (fpit_read_T n) (fpit_read_J1 n)) (Ai (fpit_read_C n)) (An Tryz.f66) (Aw Mz x)).runK (As Tryz.prog Tryz.f66.results.toList 0 Q3)=WL n x:=by kernel_rfl
theorem Pz (n:Nat):Ar Tryz.prog 66 (fpit_read_law n):=Au Tryz.func66 rfl rfl (by decide) rfl Aa Ab (Ad Aa Ab (ML n) (Q4 n)) (Af (fn:=Tryz.f66) (L:=fpit_read_C n) (ks:=[.loop 7]) ⟨Xf n,trivial⟩ (by kernel_rfl) (by kernel_rfl)) (Ac9 n)
def FY:List (Nat×C):=[(0,.l 180)]
def I0:List Wo:=[⟨.ret,[],[],[.s 3]⟩]
def Hw (n:Nat) (l:List A6):Option ((Int×Unit)) :=
    (N0 n l).bind fun v0 =>
    Sum.elim (fun v1=>some (v1.snd.fst,())) (fun v1=>some (v1.snd.fst,())) (v0)
def M3 (n:Nat) (y:C.Ds Ty (Aj FY)):Option (YT Ty I0):=Hw n y.1
noncomputable def fpit_CheckCards_law (n:Nat):AE Ty:=IZ (AF FY 0 I0 (M3 n))
noncomputable def fpit_CheckCards_T (n:Nat):List (Nat×AE Ty):=[(66,fpit_read_law n)]
theorem RC (n:Nat):Aq Tryz.prog (fpit_CheckCards_T n):=⟨Pz n,trivial⟩
noncomputable def fpit_CheckCards_C (n:Nat):A3 Ty:=[]
theorem SK (n:Nat) (x:C.Ds Ty (Aj FY)):(Az Tryz.prog 11 (Am Tryz.prog (fpit_CheckCards_T n) []) (Ai (fpit_CheckCards_C n)) (An Tryz.f309) (Aw FY x)).runK (As Tryz.prog Tryz.f309.results.toList 0 I0)=M3 n x:=by kernel_rfl
theorem PB (n:Nat):Ar Tryz.prog 309 (fpit_CheckCards_law n):=C6 (Au Tryz.func309 rfl rfl (by decide) rfl Aa Ab (Ad Aa Ab (RC n) Al) (Af (fn:=Tryz.f309) (L:=fpit_CheckCards_C n) (ks:=[]) trivial (by kernel_rfl) (by kernel_rfl)) (SK n))
def I1:List (Nat×C):=[(0,.s 3)]
def Li:List Wo:=[⟨.ret,[],[],[]⟩,⟨.pan,[],[],[.i 234 (.g 234)]⟩]
def CL (n:Nat) (e:Int):Option (Unit ⊕ ((A8×Unit))) :=
    (A5 n (decide (e=0)) e).bind fun v0 =>
    Sum.elim (fun v1=>some (.inl ())) (fun v1=>some (.inr (v1.fst,()))) (v0)
def Q5 (n:Nat) (y:C.Ds Ty (Aj I1)):Option (YT Ty Li):=CL n y.1
noncomputable def fgarage_must_law (n:Nat):AE Ty:=AF I1 0 Li (Q5 n)
noncomputable def fgarage_must_T (n:Nat):List (Nat×AE Ty):=[(139,fgarage_ask_law n)]
theorem V8 (n:Nat):Aq Tryz.prog (fgarage_must_T n):=⟨Bs n,trivial⟩
noncomputable def fgarage_must_C (n:Nat):A3 Ty:=[]
theorem Xg (n:Nat) (x:C.Ds Ty (Aj I1)):(Az Tryz.prog 6 (Am Tryz.prog (fgarage_must_T n) []) (Ai (fgarage_must_C n)) (An Tryz.f259) (Aw I1 x)).runK (As Tryz.prog Tryz.f259.results.toList 0 Li)=Q5 n x:=by kernel_rfl
theorem Dd (n:Nat):Ar Tryz.prog 259 (fgarage_must_law n):=Au Tryz.func259 rfl rfl (by decide) rfl Aa Ab (Ad Aa Ab (V8 n) Al) (Af (fn:=Tryz.f259) (L:=fgarage_must_C n) (ks:=[]) trivial (by kernel_rfl) (by kernel_rfl)) (Xg n)
def Bq:List (Nat×C):=[(0,.u 114),(3,.u 180),(11,.l 180),(12,.s 3),(13,.s 3)]
def D5:List Wo:=[⟨.exit 0,[.u 114,.u 180],[(0,.q 0),(3,.q 1)],[]⟩,⟨.pan,[.u 114,.u 180],[],[.i 234 (.g 234)]⟩]
def CM:List (Nat×C):=[(0,.u 114),(1,.g 180)]
def EU:List Wo:=[⟨.ret,[.u 114],[],[]⟩,⟨.pan,[.u 114],[],[.i 234 (.g 234)]⟩]
def Bg:Nat→Ah→A6→(List A6)→Int→Int→Option ((Ah×A6×Unit×Unit×Unit) ⊕ ((Ah×A6×A8×Unit)))
  | 0,_,_,_,_,_=>none
  | n+1,g,c,x11,x12,x13 =>
    bif decide (x13<x12) then((AO x11 x13).bind fun v0 =>
    (A5 n (!(decide (v0.bus=c.bus) && (decide (v0.number=c.number) && (decide (v0.minute=c.minute) && (decide (v0.kind.n=c.kind.n) && (decide (v0.part=c.part) && (decide (v0.sg=c.sg) && true))))))) 6).bind fun v1 =>
    Sum.elim (fun v2=>Bg n g c x11 x12 (IntKind.i64.wrap (x13+1))) (fun v2=>some (.inr (g,(c,(v2.fst,()))))) (v1)) else
    some (.inl (g,(c,((),((),())))))
def BQ (n:Nat) (y:C.Ds Ty (Aj Bq)):Option (YT Ty D5):=Bg n y.1 y.2.1 y.2.2.1 y.2.2.2.1 y.2.2.2.2.1
noncomputable def fgarage_session_card_l1_cut (n:Nat):St Ty→Tr (Lf Ty):=CK Bq 2 D5 (BQ n)
def Bl (n:Nat) (g:Ah) (c:A6):Option ((Ah×Unit) ⊕ ((Ah×A8×Unit))) :=
    (Bg n g c g.state.cards (↑g.state.cards.length:Int) 0).bind fun v0 =>
    Sum.elim (fun v1=>(FW n v1.fst.state.cards v1.snd.fst).bind fun v2 =>
    (Hw n v2.fst).bind fun v3 =>
    (CL n v3.fst).bind fun v4 =>
    Sum.elim (fun v5=>some (.inl (Ah.mk (A0.mk v2.fst v1.fst.state.outs v1.fst.state.runs v1.fst.state.records v1.fst.state.week v1.fst.state.roster),()))) (fun v5=>some (.inr (v1.fst,(v5.fst,())))) (v4)) (fun v1=>some (.inr (v1.fst,(v1.snd.snd.fst,())))) (v0)
def I2 (n:Nat) (y:C.Ds Ty (Aj CM)):Option (YT Ty EU):=Bl n y.1 y.2.1
noncomputable def fgarage_session_card_law (n:Nat):AE Ty:=AF CM 1 EU (I2 n)
noncomputable def fgarage_session_card_T (n:Nat):List (Nat×AE Ty):=[(139,fgarage_ask_law n),(308,fgarage_with_Card_law n),(309,fpit_CheckCards_law n),(259,fgarage_must_law n)]
theorem Hm (n:Nat):Aq Tryz.prog (fgarage_session_card_T n):=⟨Bs n,⟨Nz n,⟨PB n,⟨Dd n,trivial⟩⟩⟩⟩
noncomputable def fgarage_session_card_l1_C (n:Nat):A3 Ty:=[]
theorem Lj (n:Nat) (x:C.Ds Ty (Aj Bq)):(Az Tryz.prog 37 (Am Tryz.prog (fgarage_session_card_T n) []) (Ai (fgarage_session_card_l1_C n)) (Ap 2 Tryz.f258) (Aw Bq x)).runK (AI 2 Bq D5 (BQ n))=BQ (n+1) x:=by kernel_rfl
theorem Lk (n:Nat):A9 true Tryz.prog 37 (fgarage_session_card_l1_cut n) (.loop (Ap 2 Tryz.f258)):=AM fun x y hy=>A2 (Fn:=BQ) Aa Ab (fun n=>Ad Aa Ab (Hm n) Al) (fun h=>by cases h) (fun h=>by cases h) (fun n=>(Af (fn:=Tryz.f258) (L:=fgarage_session_card_l1_C n) (ks:=[]) trivial (by kernel_rfl) (by kernel_rfl))) (by decide) (fun _=>rfl) Lj hy
noncomputable def fgarage_session_card_C (n:Nat):A3 Ty:=[(.loop 2,fgarage_session_card_l1_cut n)]
theorem N1 (n:Nat) (x:C.Ds Ty (Aj CM)):(Az Tryz.prog 37 (Am Tryz.prog (fgarage_session_card_T n) []) (Ai (fgarage_session_card_C n)) (An Tryz.f258) (Aw CM x)).runK (As Tryz.prog Tryz.f258.results.toList 1 EU)=I2 n x:=by kernel_rfl
theorem BF (n:Nat):Ar Tryz.prog 258 (fgarage_session_card_law n):=Au Tryz.func258 rfl rfl (by decide) rfl Aa Ab (Ad Aa Ab (Hm n) Al) (Af (fn:=Tryz.f258) (L:=fgarage_session_card_C n) (ks:=[.loop 2]) ⟨Lk n,trivial⟩ (by kernel_rfl) (by kernel_rfl)) (N1 n)
def Cs:List (Nat×C):=[(0,.u 114),(1,.v 3)]
def EA:List Wo:=[⟨.ret,[.u 114],[],[]⟩,⟨.pan,[.u 114],[],[.i 234 (.g 234)]⟩]
def Dm (n:Nat) (g:Ah) (n_:List Int):Option ((Ah×Unit) ⊕ ((Ah×A8×Unit))) :=
    bif n_.length.beq 5 then((AO n_ 0).bind fun v0 =>
    (n_.get?Internal (Int.toNat 0)).bind fun v1 =>
    bif n_.length.beq 5 then((AO n_ 1).bind fun v2 =>
    (n_.get?Internal (Int.toNat 1)).bind fun v3 =>
    bif n_.length.beq 5 then((AO n_ 2).bind fun v4 =>
    (n_.get?Internal (Int.toNat 2)).bind fun v5 =>
    bif n_.length.beq 5 then((AO n_ 3).bind fun v6 =>
    (n_.get?Internal (Int.toNat 3)).bind fun v7 =>
    (Bl n g (A6.mk v1 v3 v5 (IK.mk 0) v7 0)).bind fun v8 =>
    Sum.elim (fun v9=>some (.inl (v9.fst,()))) (fun v9=>some (.inr (v9.fst,(v9.snd.fst,())))) (v8)) else
    none) else
    none) else
    none) else
    none
def HT (n:Nat) (y:C.Ds Ty (Aj Cs)):Option (YT Ty EA):=Dm n y.1 y.2.1
noncomputable def fgarage_session_found_law (n:Nat):AE Ty:=AF Cs 1 EA (HT n)
noncomputable def fgarage_session_found_T (n:Nat):List (Nat×AE Ty):=[(258,fgarage_session_card_law n)]
theorem LA (n:Nat):Aq Tryz.prog (fgarage_session_found_T n):=⟨BF n,trivial⟩
noncomputable def fgarage_session_found_C (n:Nat):A3 Ty:=[]
theorem MM (n:Nat) (x:C.Ds Ty (Aj Cs)):(Az Tryz.prog 15 (Am Tryz.prog (fgarage_session_found_T n) []) (Ai (fgarage_session_found_C n)) (An Tryz.f189) (Aw Cs x)).runK (As Tryz.prog Tryz.f189.results.toList 1 EA)=HT n x:=by kernel_rfl
theorem FZ (n:Nat):Ar Tryz.prog 189 (fgarage_session_found_law n):=Au Tryz.func189 rfl rfl (by decide) rfl Aa Ab (Ad Aa Ab (LA n) Al) (Af (fn:=Tryz.f189) (L:=fgarage_session_found_C n) (ks:=[]) trivial (by kernel_rfl) (by kernel_rfl)) (MM n)
def CN:List (Nat×C):=[(0,.u 114),(1,.v 3)]
def EV:List Wo:=[⟨.ret,[.u 114],[],[]⟩,⟨.pan,[.u 114],[],[.i 234 (.g 234)]⟩]
def DE (n:Nat) (g:Ah) (n_:List Int):Option ((Ah×Unit) ⊕ ((Ah×A8×Unit))) :=
    bif n_.length.beq 5 then((AO n_ 0).bind fun v0 =>
    (n_.get?Internal (Int.toNat 0)).bind fun v1 =>
    bif n_.length.beq 5 then((AO n_ 1).bind fun v2 =>
    (n_.get?Internal (Int.toNat 1)).bind fun v3 =>
    bif n_.length.beq 5 then((AO n_ 2).bind fun v4 =>
    (n_.get?Internal (Int.toNat 2)).bind fun v5 =>
    bif n_.length.beq 5 then((AO n_ 3).bind fun v6 =>
    (n_.get?Internal (Int.toNat 3)).bind fun v7 =>
    (Bl n g (A6.mk v1 v3 v5 (IK.mk 1) v7 0)).bind fun v8 =>
    Sum.elim (fun v9=>some (.inl (v9.fst,()))) (fun v9=>some (.inr (v9.fst,(v9.snd.fst,())))) (v8)) else
    none) else
    none) else
    none) else
    none
def I3 (n:Nat) (y:C.Ds Ty (Aj CN)):Option (YT Ty EV):=DE n y.1 y.2.1
noncomputable def fgarage_session_held_law (n:Nat):AE Ty:=AF CN 1 EV (I3 n)
noncomputable def fgarage_session_held_T (n:Nat):List (Nat×AE Ty):=[(258,fgarage_session_card_law n)]
theorem MN (n:Nat):Aq Tryz.prog (fgarage_session_held_T n):=⟨BF n,trivial⟩
noncomputable def fgarage_session_held_C (n:Nat):A3 Ty:=[]
theorem N2 (n:Nat) (x:C.Ds Ty (Aj CN)):(Az Tryz.prog 15 (Am Tryz.prog (fgarage_session_held_T n) []) (Ai (fgarage_session_held_C n)) (An Tryz.f190) (Aw CN x)).runK (As Tryz.prog Tryz.f190.results.toList 1 EV)=I3 n x:=by kernel_rfl
theorem Gq (n:Nat):Ar Tryz.prog 190 (fgarage_session_held_law n):=Au Tryz.func190 rfl rfl (by decide) rfl Aa Ab (Ad Aa Ab (MN n) Al) (Af (fn:=Tryz.f190) (L:=fgarage_session_held_C n) (ks:=[]) trivial (by kernel_rfl) (by kernel_rfl)) (N2 n)
def Cb:List (Nat×C):=[(0,.u 114),(1,.v 3)]
def DY:List Wo:=[⟨.ret,[.u 114],[],[]⟩,⟨.pan,[.u 114],[],[.i 234 (.g 234)]⟩]
def CO (n:Nat) (g:Ah) (n_:List Int):Option ((Ah×Unit) ⊕ ((Ah×A8×Unit))) :=
    bif n_.length.beq 5 then((AO n_ 0).bind fun v0 =>
    (n_.get?Internal (Int.toNat 0)).bind fun v1 =>
    bif n_.length.beq 5 then((AO n_ 1).bind fun v2 =>
    (n_.get?Internal (Int.toNat 1)).bind fun v3 =>
    bif n_.length.beq 5 then((AO n_ 2).bind fun v4 =>
    (n_.get?Internal (Int.toNat 2)).bind fun v5 =>
    bif n_.length.beq 5 then((AO n_ 3).bind fun v6 =>
    (n_.get?Internal (Int.toNat 3)).bind fun v7 =>
    (Bl n g (A6.mk v1 v3 v5 (IK.mk 2) 0 v7)).bind fun v8 =>
    Sum.elim (fun v9=>some (.inl (v9.fst,()))) (fun v9=>some (.inr (v9.fst,(v9.snd.fst,())))) (v8)) else
    none) else
    none) else
    none) else
    none
def Hn (n:Nat) (y:C.Ds Ty (Aj Cb)):Option (YT Ty DY):=CO n y.1 y.2.1
noncomputable def fgarage_session_signed_law (n:Nat):AE Ty:=AF Cb 1 DY (Hn n)
noncomputable def fgarage_session_signed_T (n:Nat):List (Nat×AE Ty):=[(258,fgarage_session_card_law n)]
theorem Ll (n:Nat):Aq Tryz.prog (fgarage_session_signed_T n):=⟨BF n,trivial⟩
noncomputable def fgarage_session_signed_C (n:Nat):A3 Ty:=[]
theorem LB (n:Nat) (x:C.Ds Ty (Aj Cb)):(Az Tryz.prog 15 (Am Tryz.prog (fgarage_session_signed_T n) []) (Ai (fgarage_session_signed_C n)) (An Tryz.f191) (Aw Cb x)).runK (As Tryz.prog Tryz.f191.results.toList 1 DY)=Hn n x:=by kernel_rfl
theorem Fw (n:Nat):Ar Tryz.prog 191 (fgarage_session_signed_law n):=Au Tryz.func191 rfl rfl (by decide) rfl Aa Ab (Ad Aa Ab (Ll n) Al) (Af (fn:=Tryz.f191) (L:=fgarage_session_signed_C n) (ks:=[]) trivial (by kernel_rfl) (by kernel_rfl)) (LB n)
def BR:List (Nat×C):=[(0,.u 114),(1,.v 3)]
def D6:List Wo:=[⟨.ret,[.u 114],[],[]⟩,⟨.pan,[.u 114],[],[.i 234 (.g 234)]⟩]
def Ct (n:Nat) (g:Ah) (n_:List Int):Option ((Ah×Unit) ⊕ ((Ah×A8×Unit))) :=
    bif n_.length.beq 5 then((AO n_ 0).bind fun v0 =>
    (n_.get?Internal (Int.toNat 0)).bind fun v1 =>
    bif n_.length.beq 5 then((AO n_ 1).bind fun v2 =>
    (n_.get?Internal (Int.toNat 1)).bind fun v3 =>
    bif n_.length.beq 5 then((AO n_ 2).bind fun v4 =>
    (n_.get?Internal (Int.toNat 2)).bind fun v5 =>
    (Bl n g (A6.mk v1 v3 v5 (IK.mk 3) 0 0)).bind fun v6 =>
    Sum.elim (fun v7=>some (.inl (v7.fst,()))) (fun v7=>some (.inr (v7.fst,(v7.snd.fst,())))) (v6)) else
    none) else
    none) else
    none
def GP (n:Nat) (y:C.Ds Ty (Aj BR)):Option (YT Ty D6):=Ct n y.1 y.2.1
noncomputable def fgarage_session_checked_law (n:Nat):AE Ty:=AF BR 1 D6 (GP n)
noncomputable def fgarage_session_checked_T (n:Nat):List (Nat×AE Ty):=[(258,fgarage_session_card_law n)]
theorem K2 (n:Nat):Aq Tryz.prog (fgarage_session_checked_T n):=⟨BF n,trivial⟩
noncomputable def fgarage_session_checked_C (n:Nat):A3 Ty:=[]
theorem Lm (n:Nat) (x:C.Ds Ty (Aj BR)):(Az Tryz.prog 13 (Am Tryz.prog (fgarage_session_checked_T n) []) (Ai (fgarage_session_checked_C n)) (An Tryz.f192) (Aw BR x)).runK (As Tryz.prog Tryz.f192.results.toList 1 D6)=GP n x:=by kernel_rfl
theorem EO (n:Nat):Ar Tryz.prog 192 (fgarage_session_checked_law n):=Au Tryz.func192 rfl rfl (by decide) rfl Aa Ab (Ad Aa Ab (K2 n) Al) (Af (fn:=Tryz.f192) (L:=fgarage_session_checked_C n) (ks:=[]) trivial (by kernel_rfl) (by kernel_rfl)) (Lm n)
def GC:List (Nat×C):=[(0,.s 3),(1,.s 3),(2,.s 3)]
def Jx:List Wo:=[⟨.ret,[],[],[.s 4]⟩]
def Bw (n:Nat) (n_:Int) (low:Int) (high:Int):Option ((Bool×Unit)) :=
    bif decide (low≤n_) then(some (decide (n_≤high),())) else
    some (false,())
def N3 (n:Nat) (y:C.Ds Ty (Aj GC)):Option (YT Ty Jx):=Bw n y.1 y.2.1 y.2.2.1
noncomputable def fgarage_within_law (n:Nat):AE Ty:=AF GC 0 Jx (N3 n)
noncomputable def fgarage_within_T (n:Nat):List (Nat×AE Ty):=[]
theorem SL (n:Nat):Aq Tryz.prog (fgarage_within_T n):=trivial
noncomputable def fgarage_within_C (n:Nat):A3 Ty:=[]
theorem Up (n:Nat) (x:C.Ds Ty (Aj GC)):(Az Tryz.prog 15 (Am Tryz.prog (fgarage_within_T n) []) (Ai (fgarage_within_C n)) (An Tryz.f75) (Aw GC x)).runK (As Tryz.prog Tryz.f75.results.toList 0 Jx)=N3 n x:=by kernel_rfl
theorem DF (n:Nat):Ar Tryz.prog 75 (fgarage_within_law n):=Au Tryz.func75 rfl rfl (by decide) rfl Aa Ab (Ad Aa Ab (SL n) Al) (Af (fn:=Tryz.f75) (L:=fgarage_within_C n) (ks:=[]) trivial (by kernel_rfl) (by kernel_rfl)) (Up n)
def N4:List (Nat×C):=[(1,.s 3),(5,.s 3),(12,.l 60),(13,.s 3),(14,.s 3)]
def V9:List Wo:=[⟨.exit 0,[],[(5,.s 3)],[]⟩]
def AcA:List (Nat×C):=[(0,.u 114),(1,.s 3)]
def AfF:List Wo:=[⟨.ret,[.u 114],[],[.s 3]⟩]
def Uq:Nat→Int→Int→(List Sf)→Int→Int→Option ((Int×Unit))
  | 0,_,_,_,_,_=>none
  | n+1,bus,at_,x12,x13,x14 =>
    bif decide (x14<x13) then((AO x12 x14).bind fun v0 =>
    bif decide (v0.bus=bus) then(some (x14,())) else
    Uq n bus at_ x12 x13 (IntKind.i64.wrap (x14+1))) else
    some (at_,())
def R2 (n:Nat) (y:C.Ds Ty (Aj N4)):Option (YT Ty V9):=Uq n y.1 y.2.1 y.2.2.1 y.2.2.2.1 y.2.2.2.2.1
noncomputable def gone_l1_cut (n:Nat):St Ty→Tr (Lf Ty):=CK N4 0 V9 (R2 n)
def AhM (n:Nat) (g:Ah) (bus:Int):Option ((Ah×Int×Unit)) :=
    (Uq n bus (-1) g.state.outs (↑g.state.outs.length:Int) 0).bind fun v0 =>
    some (g,(v0.fst,()))
def Akb (n:Nat) (y:C.Ds Ty (Aj AcA)):Option (YT Ty AfF):=AhM n y.1 y.2.1
noncomputable def gone_law (n:Nat):AE Ty:=AF AcA 1 AfF (Akb n)
noncomputable def gone_T (n:Nat):List (Nat×AE Ty):=[]
theorem Aey (n:Nat):Aq Tryz.prog (gone_T n):=trivial
noncomputable def gone_l1_C (n:Nat):A3 Ty:=[]
theorem AfG (n:Nat) (x:C.Ds Ty (Aj N4)):(Az Tryz.prog 26 (Am Tryz.prog (gone_T n) []) (Ai (gone_l1_C n)) (Ap 3 Tryz.f94) (Aw N4 x)).runK (AI 0 N4 V9 (R2 n))=R2 (n+1) x:=by kernel_rfl
theorem AfH (n:Nat):A9 true Tryz.prog 26 (gone_l1_cut n) (.loop (Ap 3 Tryz.f94)):=AM fun x y hy=>A2 (Fn:=R2) Aa Ab (fun n=>Ad Aa Ab (Aey n) Al) (fun h=>by cases h) (fun h=>by cases h) (fun n=>(Af (fn:=Tryz.f94) (L:=gone_l1_C n) (ks:=[]) trivial (by kernel_rfl) (by kernel_rfl))) (by decide) (fun _=>rfl) AfG hy
noncomputable def gone_C (n:Nat):A3 Ty:=[(.loop 3,gone_l1_cut n)]
theorem Alq (n:Nat) (x:C.Ds Ty (Aj AcA)):(Az Tryz.prog 26 (Am Tryz.prog (gone_T n) []) (Ai (gone_C n)) (An Tryz.f94) (Aw AcA x)).runK (As Tryz.prog Tryz.f94.results.toList 1 AfF)=Akb n x:=by kernel_rfl
theorem ZF (n:Nat):Ar Tryz.prog 94 (gone_law n):=Au Tryz.func94 rfl rfl (by decide) rfl Aa Ab (Ad Aa Ab (Aey n) Al) (Af (fn:=Tryz.f94) (L:=gone_C n) (ks:=[.loop 3]) ⟨AfH n,trivial⟩ (by kernel_rfl) (by kernel_rfl)) (Alq n)
def Cn:List (Nat×C):=[(0,.y 0 69 [5,6,7] [.p [.s 3],.p [.o 3],.p [.f 109 [.p [.m 3 180,.l 3]] []]]),(1,.p [.q 4]),(2,.p [.s 3]),(10,.l 3),(11,.s 3),(12,.s 3)]
def Gr:List Wo:=[⟨.exit 0,[.y 0 69 [5,6,7] [.p [.s 3],.p [.o 3],.p [.f 109 [.p [.m 3 180,.l 3]] []]],.q 1,.q 2,.q 3,.q 4,.q 5,.p [.q 4],.p [.s 3]],[],[]⟩,⟨.ret,[.y 0 69 [5,6,7] [.p [.s 3],.p [.o 3],.p [.f 109 [.p [.m 3 180,.l 3]] []]],.q 1,.q 2,.q 3,.q 4,.q 5,.p [.q 4],.p [.s 3]],[],[]⟩]
def Ga:List (Nat×C):=[(0,.p [.m 3 180,.l 3]),(1,.s 3),(2,.s 3)]
def I4:List Wo:=[⟨.ret,[.p [.m 3 180,.l 3],.q 1],[],[.o 3]⟩]
def AP:Nat→Int→(List Int)→(List (Int×A6))→(List Int)→Int→(List Int)→Int→Int→Option ((((Int×Unit)×(List Int×Unit)×(((((List (Int×A6))×List Int×Unit)×Unit)×Unit)×Unit)×Unit)×Unit×Unit×Unit×Unit×Unit×(Unit×Unit)×(Int×Unit)×Unit) ⊕ ((((Int×Unit)×(List Int×Unit)×(((((List (Int×A6))×List Int×Unit)×Unit)×Unit)×Unit)×Unit)×Unit×Unit×Unit×Unit×Unit×(Unit×Unit)×(Int×Unit)×Unit)))
  | 0,_,_,_,_,_,_,_,_=>none
  | n+1,yield1,yield2,yield3,yield4,x2,x10,x11,x12 =>
    bif decide (x12<x11) then((AO x10 x12).bind fun v0 =>
    bif decide ((Ba Gj yield3 v0 (A6.mk 0 0 0 (IK.mk 0) 0 0)).bus=x2) then(bif !decide ((Ba Gj yield3 v0 (A6.mk 0 0 0 (IK.mk 0) 0 0)).kind.n=0) then(bif decide ((Ba Gj yield3 v0 (A6.mk 0 0 0 (IK.mk 0) 0 0)).kind.n=1) then((Ag3 n yield3 yield4 (Ba Gj yield3 v0 (A6.mk 0 0 0 (IK.mk 0) 0 0)) yield1).bind fun v1 =>
    bif v1.snd.snd.fst then((app yield2 [(Ba Gj yield3 v0 (A6.mk 0 0 0 (IK.mk 0) 0 0)).number]).bind fun v2 =>
    AP n yield1 v2 v1.fst.fst v1.fst.snd.fst x2 x10 x11 (IntKind.i64.wrap (x12+1))) else
    AP n yield1 yield2 v1.fst.fst v1.fst.snd.fst x2 x10 x11 (IntKind.i64.wrap (x12+1))) else
    AP n yield1 yield2 yield3 yield4 x2 x10 x11 (IntKind.i64.wrap (x12+1))) else
    (Ag3 n yield3 yield4 (Ba Gj yield3 v0 (A6.mk 0 0 0 (IK.mk 0) 0 0)) yield1).bind fun v1 =>
    bif v1.snd.snd.fst then((app yield2 [(Ba Gj yield3 v0 (A6.mk 0 0 0 (IK.mk 0) 0 0)).number]).bind fun v2 =>
    AP n yield1 v2 v1.fst.fst v1.fst.snd.fst x2 x10 x11 (IntKind.i64.wrap (x12+1))) else
    AP n yield1 yield2 v1.fst.fst v1.fst.snd.fst x2 x10 x11 (IntKind.i64.wrap (x12+1))) else
    AP n yield1 yield2 yield3 yield4 x2 x10 x11 (IntKind.i64.wrap (x12+1))) else
    some (.inl (((yield1,()),((yield2,()),(((((yield3,(yield4,())),()),()),()),()))),((),((),((),((),((),(((),()),((x2,()),())))))))))
def DG (n:Nat) (y:C.Ds Ty (Aj Cn)):Option (YT Ty Gr):=AP n y.1.1.1 y.1.2.1.1 y.1.2.2.1.1.1.1.1 y.1.2.2.1.1.1.1.2.1 y.2.2.1.1 y.2.2.2.1 y.2.2.2.2.1 y.2.2.2.2.2.1
noncomputable def fpit_book_opens_i1_cut (n:Nat):St Ty→Tr (Lf Ty):=CK Cn 8 Gr (DG n)
def Hx (n:Nat) (b1:List (Int×A6)) (b2:List Int) (bus:Int) (at_:Int):Option ((((List (Int×A6))×List Int×Unit)×Unit×List Int×Unit)) :=
    (AP n at_ [] b1 b2 bus b2 (↑b2.length:Int) 0).bind fun v0 =>
    Sum.elim (fun v1=>some ((v1.fst.snd.snd.fst.fst.fst.fst.fst,(v1.fst.snd.snd.fst.fst.fst.fst.snd.fst,())),((),(v1.fst.snd.fst.fst,())))) (fun v1=>some ((v1.fst.snd.snd.fst.fst.fst.fst.fst,(v1.fst.snd.snd.fst.fst.fst.fst.snd.fst,())),((),(v1.fst.snd.fst.fst,())))) (v0)
def M4 (n:Nat) (y:C.Ds Ty (Aj Ga)):Option (YT Ty I4):=Hx n y.1.1 y.1.2.1 y.2.1 y.2.2.1
noncomputable def fpit_book_opens_law (n:Nat):AE Ty:=AF Ga 2 I4 (M4 n)
noncomputable def fpit_book_opens_T (n:Nat):List (Nat×AE Ty):=[(109,openB_law n)]
theorem GX (n:Nat):Aq Tryz.prog (fpit_book_opens_T n):=⟨Aex n,trivial⟩
noncomputable def fpit_book_opens_B (n:Nat):A3 Ty:=[]
noncomputable def fpit_book_opens_Y (n:Nat):List (Nat×AE Ty):=(Ay,AmE Tryz.prog (Am Tryz.prog (fpit_book_opens_T n) []) (Ai []) (Ai (fpit_book_opens_B n)) 69)::fpit_book_opens_T n
theorem Kj (n:Nat):Aq Tryz.prog (fpit_book_opens_Y n):=⟨Afw Aa Ab (Ad Aa Ab (GX n) Al) (fun _ _ _ h=>by cases h) (Af (fn:=Tryz.f69) (c:=(RFs.rf 69).body) (N:=(RFs.rf 69).n) (L:=fpit_book_opens_B n) (ks:=[]) trivial (by kernel_rfl) (by kernel_rfl)),GX n⟩
noncomputable def fpit_book_opens_i1_C (n:Nat):A3 Ty:=[]
theorem PC (n:Nat) (x:C.Ds Ty (Aj Cn)):(Az Tryz.prog 37 (Am Tryz.prog (fpit_book_opens_Y n) []) (Ai (fpit_book_opens_i1_C n)) (Ap 1 Tryz.f163) (Aw Cn x)).runK (AI 8 Cn Gr (DG n))=DG (n+1) x:=by kernel_rfl
theorem PD (n:Nat):A9 true Tryz.prog 37 (fpit_book_opens_i1_cut n) (.loop (Ap 1 Tryz.f163)):=AM fun x y hy=>A2 (Fn:=DG) Aa Ab (fun n=>Ad Aa Ab (Kj n) Al) (fun h=>by cases h) (fun h=>by cases h) (fun n=>(Af (fn:=Tryz.f163) (L:=fpit_book_opens_i1_C n) (ks:=[]) trivial (by kernel_rfl) (by kernel_rfl))) (by decide) (fun _=>rfl) PC hy
noncomputable def fpit_book_opens_K (n:Nat):Qw Ty:=[(163,[(.loop 1,fpit_book_opens_i1_cut n)])]
theorem RD (n:Nat):La Tryz.prog (fpit_book_opens_K n):=⟨G9 (f:=163) Tryz.func163 rfl (Af (fn:=Tryz.f163) (L:=[(.loop 1,fpit_book_opens_i1_cut n)]) (ks:=[.loop 1]) ⟨PD n,trivial⟩ (by kernel_rfl) (by kernel_rfl)),trivial⟩
noncomputable def fpit_book_opens_rf (n:Nat):St Ty→Tr (Lf Ty):=Amq Tryz.prog (Am Tryz.prog (fpit_book_opens_Y n) (fpit_book_opens_K n)) (.tmp 13) 69 [5,6,7]
theorem Q6 (n:Nat):A9 true Tryz.prog 25 (fpit_book_opens_rf n) (JW (.rf 4) Tryz.f69):=Afz (Ad Aa Ab (Kj n) (RD n)) (by kernel_rfl) (by kernel_rfl)
noncomputable def fpit_book_opens_C (n:Nat):A3 Ty:=[(.rf 4,fpit_book_opens_rf n)]
theorem SM (n:Nat) (x:C.Ds Ty (Aj Ga)):(Az Tryz.prog 25 (Am Tryz.prog (fpit_book_opens_T n) []) (Ai (fpit_book_opens_C n)) (An Tryz.f69) (Aw Ga x)).runK (As Tryz.prog Tryz.f69.results.toList 2 I4)=M4 n x:=by kernel_rfl
theorem PE (n:Nat):Ar Tryz.prog 69 (fpit_book_opens_law n):=Au Tryz.func69 rfl rfl (by decide) rfl Aa Ab (Ad Aa Ab (GX n) Al) (Af (fn:=Tryz.f69) (L:=fpit_book_opens_C n) (ks:=[.rf 4]) ⟨Q6 n,trivial⟩ (by kernel_rfl) (by kernel_rfl)) (SM n)
def M5:List (Nat×C):=[(0,.l 180),(1,.s 3),(2,.s 3)]
def Q7:List Wo:=[⟨.ret,[],[],[.l 3,.s 3]⟩]
def GD (n:Nat) (l:List A6) (bus:Int) (at_:Int):Option ((List Int×Int×Unit)) :=
    (N0 n l).bind fun v0 =>
    Sum.elim (fun v1=>bif v1.snd.fst != 0 then(some ([],(v1.snd.fst,()))) else
    bif decide (0≤bus) then(bif !!decide (bus≤99) then(bif decide (0≤at_) then(bif !decide (at_≤1000000) then(some ([],(2,()))) else
    none) else
    some ([],(2,()))) else
    some ([],(2,()))) else
    some ([],(2,()))) (fun v1=>bif v1.snd.fst != 0 then(some ([],(v1.snd.fst,()))) else
    bif decide (0≤bus) then(bif !!decide (bus≤99) then(bif decide (0≤at_) then(bif !decide (at_≤1000000) then(some ([],(2,()))) else
    (Hx n v1.fst.fst v1.fst.snd.fst bus at_).bind fun v2 =>
    some (v2.snd.snd.fst,(0,()))) else
    some ([],(2,()))) else
    some ([],(2,()))) else
    some ([],(2,()))) (v0)
def WM (n:Nat) (y:C.Ds Ty (Aj M5)):Option (YT Ty Q7):=GD n y.1 y.2.1 y.2.2.1
noncomputable def fpit_Open_law (n:Nat):AE Ty:=AF M5 0 Q7 (WM n)
noncomputable def fpit_Open_T (n:Nat):List (Nat×AE Ty):=[(66,fpit_read_law n),(69,fpit_book_opens_law n)]
theorem Aaw (n:Nat):Aq Tryz.prog (fpit_Open_T n):=⟨Pz n,⟨PE n,trivial⟩⟩
noncomputable def fpit_Open_C (n:Nat):A3 Ty:=[]
theorem AcB (n:Nat) (x:C.Ds Ty (Aj M5)):(Az Tryz.prog 32 (Am Tryz.prog (fpit_Open_T n) []) (Ai (fpit_Open_C n)) (An Tryz.f29) (Aw M5 x)).runK (As Tryz.prog Tryz.f29.results.toList 0 Q7)=WM n x:=by kernel_rfl
theorem P0 (n:Nat):Ar Tryz.prog 29 (fpit_Open_law n):=Au Tryz.func29 rfl rfl (by decide) rfl Aa Ab (Ad Aa Ab (Aaw n) Al) (Af (fn:=Tryz.f29) (L:=fpit_Open_C n) (ks:=[]) trivial (by kernel_rfl) (by kernel_rfl)) (AcB n)
def EW:List (Nat×C):=[(0,.l 60),(1,.g 60)]
def HF:List Wo:=[⟨.ret,[],[],[.l 60]⟩]
def EB (n:Nat) (l:List Sf) (x:Sf):Option ((List Sf×Unit)) :=
    (OA n l).bind fun v0 =>
    (app v0.fst [x]).bind fun v1 =>
    some (v1,())
def Ln (n:Nat) (y:C.Ds Ty (Aj EW)):Option (YT Ty HF):=EB n y.1 y.2.1
noncomputable def fgarage_with_Out_law (n:Nat):AE Ty:=AF EW 0 HF (Ln n)
noncomputable def fgarage_with_Out_T (n:Nat):List (Nat×AE Ty):=[(262,clone60_law n)]
theorem Q8 (n:Nat):Aq Tryz.prog (fgarage_with_Out_T n):=⟨Sj n,trivial⟩
noncomputable def fgarage_with_Out_C (n:Nat):A3 Ty:=[]
theorem RE (n:Nat) (x:C.Ds Ty (Aj EW)):(Az Tryz.prog 10 (Am Tryz.prog (fgarage_with_Out_T n) []) (Ai (fgarage_with_Out_C n)) (An Tryz.f260) (Aw EW x)).runK (As Tryz.prog Tryz.f260.results.toList 0 HF)=Ln n x:=by kernel_rfl
theorem OE (n:Nat):Ar Tryz.prog 260 (fgarage_with_Out_law n):=Au Tryz.func260 rfl rfl (by decide) rfl Aa Ab (Ad Aa Ab (Q8 n) Al) (Af (fn:=Tryz.f260) (L:=fgarage_with_Out_C n) (ks:=[]) trivial (by kernel_rfl) (by kernel_rfl)) (RE n)
def Bx:List (Nat×C):=[(0,.u 114),(4,.s 3),(5,.s 3),(30,.l 62),(31,.s 3),(32,.s 3)]
def DZ:List Wo:=[⟨.exit 0,[.u 114],[(0,.q 0),(4,.s 3),(5,.s 3)],[]⟩,⟨.pan,[.u 114],[],[.i 234 (.g 234)]⟩]
def Dn:List (Nat×C):=[(0,.u 114),(1,.v 3)]
def FE:List Wo:=[⟨.ret,[.u 114],[],[]⟩,⟨.pan,[.u 114],[],[.i 234 (.g 234)]⟩]
def AH:Nat→Ah→Int→Int→(List W9)→Int→Int→Option ((Ah×Unit×Int×Int×Unit) ⊕ ((Ah×A8×Unit)))
  | 0,_,_,_,_,_,_=>none
  | n+1,g,bus,at_,x30,x31,x32 =>
    bif decide (x32<x31) then((AO x30 x32).bind fun v0 =>
    bif !v0.bus != bus then((A5 n (decide (v0.to_≤at_)) 8).bind fun v1 =>
    Sum.elim (fun v2=>AH n g bus at_ x30 x31 (IntKind.i64.wrap (x32+1))) (fun v2=>some (.inr (g,(v2.fst,())))) (v1)) else
    (A5 n true 8).bind fun v1 =>
    Sum.elim (fun v2=>AH n g bus at_ x30 x31 (IntKind.i64.wrap (x32+1))) (fun v2=>some (.inr (g,(v2.fst,())))) (v1)) else
    some (.inl (g,((),(bus,(at_,())))))
def Cc (n:Nat) (y:C.Ds Ty (Aj Bx)):Option (YT Ty DZ):=AH n y.1 y.2.1 y.2.2.1 y.2.2.2.1 y.2.2.2.2.1 y.2.2.2.2.2.1
noncomputable def fgarage_session_out_l1_cut (n:Nat):St Ty→Tr (Lf Ty):=CK Bx 1 DZ (Cc n)
def C7 (n:Nat) (g:Ah) (n_:List Int):Option ((Ah×Unit) ⊕ ((Ah×A8×Unit))) :=
    bif n_.length.beq 5 then((AO n_ 0).bind fun v0 =>
    (n_.get?Internal (Int.toNat 0)).bind fun v1 =>
    bif n_.length.beq 5 then((AO n_ 1).bind fun v2 =>
    (n_.get?Internal (Int.toNat 1)).bind fun v3 =>
    (Bw n v1 0 99).bind fun v4 =>
    bif v4.fst then((Bw n v3 0 1000000).bind fun v5 =>
    (A5 n v5.fst 2).bind fun v6 =>
    Sum.elim (fun v7=>(AhM n g v1).bind fun v8 =>
    (A5 n (decide (v8.snd.fst<0)) 8).bind fun v9 =>
    Sum.elim (fun v10=>(AH n v8.fst v1 v3 v8.fst.state.runs (↑v8.fst.state.runs.length:Int) 0).bind fun v11 =>
    Sum.elim (fun v12=>(GD n v12.fst.state.cards v12.snd.snd.fst v12.snd.snd.snd.fst).bind fun v13 =>
    (CL n v13.snd.fst).bind fun v14 =>
    Sum.elim (fun v15=>(A5 n (decide ((↑v13.fst.length:Int)=0)) 11).bind fun v16 =>
    Sum.elim (fun v17=>(EB n v12.fst.state.outs (Sf.mk v12.snd.snd.fst v12.snd.snd.snd.fst)).bind fun v18 =>
    some (.inl (Ah.mk (A0.mk v12.fst.state.cards v18.fst v12.fst.state.runs v12.fst.state.records v12.fst.state.week v12.fst.state.roster),()))) (fun v17=>some (.inr (v12.fst,(v17.fst,())))) (v16)) (fun v15=>some (.inr (v12.fst,(v15.fst,())))) (v14)) (fun v12=>some (.inr (v12.fst,(v12.snd.fst,())))) (v11)) (fun v10=>some (.inr (v8.fst,(v10.fst,())))) (v9)) (fun v7=>some (.inr (g,(v7.fst,())))) (v6)) else
    (A5 n false 2).bind fun v5 =>
    Sum.elim (fun v6=>(AhM n g v1).bind fun v7 =>
    (A5 n (decide (v7.snd.fst<0)) 8).bind fun v8 =>
    Sum.elim (fun v9=>(AH n v7.fst v1 v3 v7.fst.state.runs (↑v7.fst.state.runs.length:Int) 0).bind fun v10 =>
    Sum.elim (fun v11=>(GD n v11.fst.state.cards v11.snd.snd.fst v11.snd.snd.snd.fst).bind fun v12 =>
    (CL n v12.snd.fst).bind fun v13 =>
    Sum.elim (fun v14=>(A5 n (decide ((↑v12.fst.length:Int)=0)) 11).bind fun v15 =>
    Sum.elim (fun v16=>(EB n v11.fst.state.outs (Sf.mk v11.snd.snd.fst v11.snd.snd.snd.fst)).bind fun v17 =>
    some (.inl (Ah.mk (A0.mk v11.fst.state.cards v17.fst v11.fst.state.runs v11.fst.state.records v11.fst.state.week v11.fst.state.roster),()))) (fun v16=>some (.inr (v11.fst,(v16.fst,())))) (v15)) (fun v14=>some (.inr (v11.fst,(v14.fst,())))) (v13)) (fun v11=>some (.inr (v11.fst,(v11.snd.fst,())))) (v10)) (fun v9=>some (.inr (v7.fst,(v9.fst,())))) (v8)) (fun v6=>some (.inr (g,(v6.fst,())))) (v5)) else
    none) else
    none
def Ja (n:Nat) (y:C.Ds Ty (Aj Dn)):Option (YT Ty FE):=C7 n y.1 y.2.1
noncomputable def fgarage_session_out_law (n:Nat):AE Ty:=AF Dn 1 FE (Ja n)
noncomputable def fgarage_session_out_T (n:Nat):List (Nat×AE Ty):=[(75,fgarage_within_law n),(139,fgarage_ask_law n),(94,gone_law n),(29,fpit_Open_law n),(259,fgarage_must_law n),(260,fgarage_with_Out_law n)]
theorem HU (n:Nat):Aq Tryz.prog (fgarage_session_out_T n):=⟨DF n,⟨Bs n,⟨ZF n,⟨P0 n,⟨Dd n,⟨OE n,trivial⟩⟩⟩⟩⟩⟩
noncomputable def fgarage_session_out_l1_C (n:Nat):A3 Ty:=[]
theorem LC (n:Nat) (x:C.Ds Ty (Aj Bx)):(Az Tryz.prog 78 (Am Tryz.prog (fgarage_session_out_T n) []) (Ai (fgarage_session_out_l1_C n)) (Ap 5 Tryz.f193) (Aw Bx x)).runK (AI 1 Bx DZ (Cc n))=Cc (n+1) x:=by kernel_rfl
theorem LD (n:Nat):A9 true Tryz.prog 78 (fgarage_session_out_l1_cut n) (.loop (Ap 5 Tryz.f193)):=AM fun x y hy=>A2 (Fn:=Cc) Aa Ab (fun n=>Ad Aa Ab (HU n) Al) (fun h=>by cases h) (fun h=>by cases h) (fun n=>(Af (fn:=Tryz.f193) (L:=fgarage_session_out_l1_C n) (ks:=[]) trivial (by kernel_rfl) (by kernel_rfl))) (by decide) (fun _=>rfl) LC hy
noncomputable def fgarage_session_out_C (n:Nat):A3 Ty:=[(.loop 5,fgarage_session_out_l1_cut n)]
theorem OF (n:Nat) (x:C.Ds Ty (Aj Dn)):(Az Tryz.prog 78 (Am Tryz.prog (fgarage_session_out_T n) []) (Ai (fgarage_session_out_C n)) (An Tryz.f193) (Aw Dn x)).runK (As Tryz.prog Tryz.f193.results.toList 1 FE)=Ja n x:=by kernel_rfl
theorem GQ (n:Nat):Ar Tryz.prog 193 (fgarage_session_out_law n):=Au Tryz.func193 rfl rfl (by decide) rfl Aa Ab (Ad Aa Ab (HU n) Al) (Af (fn:=Tryz.f193) (L:=fgarage_session_out_C n) (ks:=[.loop 5]) ⟨LD n,trivial⟩ (by kernel_rfl) (by kernel_rfl)) (OF n)
def EX:List (Nat×C):=[(0,.l 62),(1,.g 62)]
def HG:List Wo:=[⟨.ret,[],[],[.l 62]⟩]
def EC (n:Nat) (l:List W9) (x:W9):Option ((List W9×Unit)) :=
    (Ac4 n l).bind fun v0 =>
    (app v0.fst [x]).bind fun v1 =>
    some (v1,())
def Lo (n:Nat) (y:C.Ds Ty (Aj EX)):Option (YT Ty HG):=EC n y.1 y.2.1
noncomputable def fgarage_with_Run_law (n:Nat):AE Ty:=AF EX 0 HG (Lo n)
noncomputable def fgarage_with_Run_T (n:Nat):List (Nat×AE Ty):=[(310,clone62_law n)]
theorem Q9 (n:Nat):Aq Tryz.prog (fgarage_with_Run_T n):=⟨Aao n,trivial⟩
noncomputable def fgarage_with_Run_C (n:Nat):A3 Ty:=[]
theorem RF (n:Nat) (x:C.Ds Ty (Aj EX)):(Az Tryz.prog 10 (Am Tryz.prog (fgarage_with_Run_T n) []) (Ai (fgarage_with_Run_C n)) (An Tryz.f263) (Aw EX x)).runK (As Tryz.prog Tryz.f263.results.toList 0 HG)=Lo n x:=by kernel_rfl
theorem OG (n:Nat):Ar Tryz.prog 263 (fgarage_with_Run_law n):=Au Tryz.func263 rfl rfl (by decide) rfl Aa Ab (Ad Aa Ab (Q9 n) Al) (Af (fn:=Tryz.f263) (L:=fgarage_with_Run_C n) (ks:=[]) trivial (by kernel_rfl) (by kernel_rfl)) (RF n)
def DH:List (Nat×C):=[(0,.u 114),(1,.v 3)]
def Gs:List Wo:=[⟨.ret,[.u 114],[],[]⟩,⟨.pan,[.u 114],[],[.i 234 (.g 234)]⟩]
def De (n:Nat) (g:Ah) (n_:List Int):Option ((Ah×Unit) ⊕ ((Ah×A8×Unit))) :=
    bif n_.length.beq 5 then((AO n_ 0).bind fun v0 =>
    (n_.get?Internal (Int.toNat 0)).bind fun v1 =>
    (AhM n g v1).bind fun v2 =>
    (A5 n (decide (v2.snd.fst≥0)) 8).bind fun v3 =>
    Sum.elim (fun v4=>(AO v2.fst.state.outs v2.snd.fst).bind fun v5 =>
    bif n_.length.beq 5 then((AO n_ 1).bind fun v6 =>
    (n_.get?Internal (Int.toNat 1)).bind fun v7 =>
    (Bw n v7 v5.fr 1000000).bind fun v8 =>
    bif v8.fst then(bif n_.length.beq 5 then((AO n_ 2).bind fun v9 =>
    (n_.get?Internal (Int.toNat 2)).bind fun v10 =>
    (Bw n v10 0 1000).bind fun v11 =>
    (A5 n v11.fst 2).bind fun v12 =>
    Sum.elim (fun v13=>(OA n v2.fst.state.outs).bind fun v14 =>
    (Ac6 n v14.fst v2.snd.fst (IntKind.i64.wrap (v2.snd.fst+1))).bind fun v15 =>
    bif n_.length.beq 5 then((AO n_ 1).bind fun v16 =>
    (n_.get?Internal (Int.toNat 1)).bind fun v17 =>
    bif n_.length.beq 5 then((AO n_ 2).bind fun v18 =>
    (n_.get?Internal (Int.toNat 2)).bind fun v19 =>
    (EC n v2.fst.state.runs (W9.mk v5.bus v5.fr v17 v19)).bind fun v20 =>
    some (.inl (Ah.mk (A0.mk v2.fst.state.cards v15.fst v20.fst v2.fst.state.records v2.fst.state.week v2.fst.state.roster),()))) else
    none) else
    none) (fun v13=>some (.inr (v2.fst,(v13.fst,())))) (v12)) else
    none) else
    (A5 n false 2).bind fun v9 =>
    Sum.elim (fun v10=>(OA n v2.fst.state.outs).bind fun v11 =>
    (Ac6 n v11.fst v2.snd.fst (IntKind.i64.wrap (v2.snd.fst+1))).bind fun v12 =>
    bif n_.length.beq 5 then((AO n_ 1).bind fun v13 =>
    (n_.get?Internal (Int.toNat 1)).bind fun v14 =>
    bif n_.length.beq 5 then((AO n_ 2).bind fun v15 =>
    (n_.get?Internal (Int.toNat 2)).bind fun v16 =>
    (EC n v2.fst.state.runs (W9.mk v5.bus v5.fr v14 v16)).bind fun v17 =>
    some (.inl (Ah.mk (A0.mk v2.fst.state.cards v12.fst v17.fst v2.fst.state.records v2.fst.state.week v2.fst.state.roster),()))) else
    none) else
    none) (fun v10=>some (.inr (v2.fst,(v10.fst,())))) (v9)) else
    none) (fun v4=>some (.inr (v2.fst,(v4.fst,())))) (v3)) else
    none
def JG (n:Nat) (y:C.Ds Ty (Aj DH)):Option (YT Ty Gs):=De n y.1 y.2.1
noncomputable def fgarage_session_in_law (n:Nat):AE Ty:=AF DH 1 Gs (JG n)
noncomputable def fgarage_session_in_T (n:Nat):List (Nat×AE Ty):=[(94,gone_law n),(139,fgarage_ask_law n),(75,fgarage_within_law n),(262,clone60_law n),(261,delOut_law n),(263,fgarage_with_Run_law n)]
theorem OH (n:Nat):Aq Tryz.prog (fgarage_session_in_T n):=⟨ZF n,⟨Bs n,⟨DF n,⟨Sj n,⟨Ac7 n,⟨OG n,trivial⟩⟩⟩⟩⟩⟩
noncomputable def fgarage_session_in_C (n:Nat):A3 Ty:=[]
theorem PF (n:Nat) (x:C.Ds Ty (Aj DH)):(Az Tryz.prog 65 (Am Tryz.prog (fgarage_session_in_T n) []) (Ai (fgarage_session_in_C n)) (An Tryz.f194) (Aw DH x)).runK (As Tryz.prog Tryz.f194.results.toList 1 Gs)=JG n x:=by kernel_rfl
theorem Ho (n:Nat):Ar Tryz.prog 194 (fgarage_session_in_law n):=Au Tryz.func194 rfl rfl (by decide) rfl Aa Ab (Ad Aa Ab (OH n) Al) (Af (fn:=Tryz.f194) (L:=fgarage_session_in_C n) (ks:=[]) trivial (by kernel_rfl) (by kernel_rfl)) (PF n)
def Br:List (Nat×C):=[(0,.l 93),(3,.u 93),(7,.s 3),(8,.s 3)]
def D7:List Wo:=[⟨.exit 0,[.u 93],[],[]⟩,⟨.ret,[.u 93],[(4,.s 3)],[]⟩]
def CP:List (Nat×C):=[(0,.l 93),(1,.g 93)]
def EY:List Wo:=[⟨.ret,[],[],[.s 3]⟩]
def Bh:Nat→(List Ac)→Ac→Int→Int→Option ((Ac×Unit) ⊕ ((Ac×Int×Unit)))
  | 0,_,_,_,_=>none
  | n+1,s,v,x7,x8 =>
    bif decide (x8<x7) then((AO s x8).bind fun v0 =>
    bif decide (v.machine=v0.machine) && (decide (v.seq=v0.seq) && (decide (v.minute=v0.minute) && (decide (v.kind.n=v0.kind.n) && (decide (v.a=v0.a) && (decide (v.b=v0.b) && true))))) then(some (.inr (v,(x8,())))) else
    Bh n s v x7 (IntKind.i64.wrap (x8+1))) else
    some (.inl (v,()))
def BS (n:Nat) (y:C.Ds Ty (Aj Br)):Option (YT Ty D7):=Bh n y.1 y.2.1 y.2.2.1 y.2.2.2.1
noncomputable def fslices_Index_Record_l1_cut (n:Nat):St Ty→Tr (Lf Ty):=CK Br 1 D7 (BS n)
def Gt (n:Nat) (s:List Ac) (v:Ac):Option ((Int×Unit)) :=
    (Bh n s v (↑s.length:Int) 0).bind fun v0 =>
    Sum.elim (fun v1=>some (-1,())) (fun v1=>some (v1.snd.fst,())) (v0)
def I5 (n:Nat) (y:C.Ds Ty (Aj CP)):Option (YT Ty EY):=Gt n y.1 y.2.1
noncomputable def fslices_Index_Record_law (n:Nat):AE Ty:=IZ (AF CP 0 EY (I5 n))
noncomputable def fslices_Index_Record_T (n:Nat):List (Nat×AE Ty):=[]
theorem Hp (n:Nat):Aq Tryz.prog (fslices_Index_Record_T n):=trivial
noncomputable def fslices_Index_Record_l1_C (n:Nat):A3 Ty:=[]
theorem Lp (n:Nat) (x:C.Ds Ty (Aj Br)):(Az Tryz.prog 19 (Am Tryz.prog (fslices_Index_Record_T n) []) (Ai (fslices_Index_Record_l1_C n)) (Ap 2 Tryz.f341) (Aw Br x)).runK (AI 1 Br D7 (BS n))=BS (n+1) x:=by kernel_rfl
theorem Lq (n:Nat):A9 true Tryz.prog 19 (fslices_Index_Record_l1_cut n) (.loop (Ap 2 Tryz.f341)):=AM fun x y hy=>A2 (Fn:=BS) Aa Ab (fun n=>Ad Aa Ab (Hp n) Al) (fun h=>by cases h) (fun h=>by cases h) (fun n=>(Af (fn:=Tryz.f341) (L:=fslices_Index_Record_l1_C n) (ks:=[]) trivial (by kernel_rfl) (by kernel_rfl))) (by decide) (fun _=>rfl) Lp hy
noncomputable def fslices_Index_Record_C (n:Nat):A3 Ty:=[(.loop 2,fslices_Index_Record_l1_cut n)]
theorem N5 (n:Nat) (x:C.Ds Ty (Aj CP)):(Az Tryz.prog 19 (Am Tryz.prog (fslices_Index_Record_T n) []) (Ai (fslices_Index_Record_C n)) (An Tryz.f341) (Aw CP x)).runK (As Tryz.prog Tryz.f341.results.toList 0 EY)=I5 n x:=by kernel_rfl
theorem Lr (n:Nat):Ar Tryz.prog 341 (fslices_Index_Record_law n):=C6 (Au Tryz.func341 rfl rfl (by decide) rfl Aa Ab (Ad Aa Ab (Hp n) Al) (Af (fn:=Tryz.f341) (L:=fslices_Index_Record_C n) (ks:=[.loop 2]) ⟨Lq n,trivial⟩ (by kernel_rfl) (by kernel_rfl)) (N5 n))
def BT:List (Nat×C):=[(0,.l 93),(1,.g 93)]
def D8:List Wo:=[⟨.ret,[],[],[.s 4]⟩]
def Cu (n:Nat) (s:List Ac) (v:Ac):Option ((Bool×Unit)) :=
    (Gt n s v).bind fun v0 =>
    some (decide (v0.fst≥0),())
def GR (n:Nat) (y:C.Ds Ty (Aj BT)):Option (YT Ty D8):=Cu n y.1 y.2.1
noncomputable def fslices_Contains_Record_law (n:Nat):AE Ty:=IZ (AF BT 0 D8 (GR n))
noncomputable def fslices_Contains_Record_T (n:Nat):List (Nat×AE Ty):=[(341,fslices_Index_Record_law n)]
theorem K3 (n:Nat):Aq Tryz.prog (fslices_Contains_Record_T n):=⟨Lr n,trivial⟩
noncomputable def fslices_Contains_Record_C (n:Nat):A3 Ty:=[]
theorem Ls (n:Nat) (x:C.Ds Ty (Aj BT)):(Az Tryz.prog 9 (Am Tryz.prog (fslices_Contains_Record_T n) []) (Ai (fslices_Contains_Record_C n)) (An Tryz.f311) (Aw BT x)).runK (As Tryz.prog Tryz.f311.results.toList 0 D8)=GR n x:=by kernel_rfl
theorem JH (n:Nat):Ar Tryz.prog 311 (fslices_Contains_Record_law n):=C6 (Au Tryz.func311 rfl rfl (by decide) rfl Aa Ab (Ad Aa Ab (K3 n) Al) (Af (fn:=Tryz.f311) (L:=fslices_Contains_Record_C n) (ks:=[]) trivial (by kernel_rfl) (by kernel_rfl)) (Ls n))
def Dp:List (Nat×C):=[(0,.g 93)]
def FF:List Wo:=[⟨.ret,[],[],[.s 4]⟩]
def C8 (n:Nat) (r:Ac):Option ((Bool×Unit)) :=
    bif decide (0≤r.machine) then(bif decide (r.machine≤999) then(bif decide (1≤r.seq) then(bif decide (r.seq≤9999) then(bif decide (0≤r.minute) then(bif decide (r.minute≤1000000) then(bif decide (IntKind.i64.wrap r.kind.n<(↑[Ic.mk (Fp.mk (↑302:Int)),Ic.mk (Fp.mk (↑303:Int)),Ic.mk (Fp.mk (↑304:Int))].length:Int)) then((AO [Ic.mk (Fp.mk (↑302:Int)),Ic.mk (Fp.mk (↑303:Int)),Ic.mk (Fp.mk (↑304:Int))] r.kind.n).bind fun v0 =>
    ([Ic.mk (Fp.mk (↑302:Int)),Ic.mk (Fp.mk (↑303:Int)),Ic.mk (Fp.mk (↑304:Int))].get?Internal r.kind.n.toNat).bind fun v1 =>
    bif decide (v1.right.f=(↑302:Int)) then(bif decide (0≤r.a) then(bif decide (r.a≤99) then(bif decide (0≤r.b) then(some (decide (r.b≤10000),())) else
    some (false,())) else
    some (false,())) else
    some (false,())) else
    bif decide (v1.right.f=(↑303:Int)) then(bif decide (0≤r.a) then(bif decide (r.a≤1000000) then(some (decide (r.b=0),())) else
    some (false,())) else
    some (false,())) else
    bif decide (v1.right.f=(↑304:Int)) then(bif decide (0≤r.a) then(bif decide (r.a≤9999) then(bif decide (0≤r.b) then(some (decide (r.b≤10000000),())) else
    some (false,())) else
    some (false,())) else
    some (false,())) else
    none) else
    some (false,())) else
    some (false,())) else
    some (false,())) else
    some (false,())) else
    some (false,())) else
    some (false,())) else
    some (false,())
def Jb (n:Nat) (y:C.Ds Ty (Aj Dp)):Option (YT Ty FF):=C8 n y.1
noncomputable def fsheet_Record_valid_law (n:Nat):AE Ty:=AF Dp 0 FF (Jb n)
noncomputable def fsheet_Record_valid_T (n:Nat):List (Nat×AE Ty):=[]
theorem N6 (n:Nat):Aq Tryz.prog (fsheet_Record_valid_T n):=trivial
noncomputable def fsheet_Record_valid_C (n:Nat):A3 Ty:=[]
theorem OI (n:Nat) (x:C.Ds Ty (Aj Dp)):(Az Tryz.prog 34 (Am Tryz.prog (fsheet_Record_valid_T n) []) (Ai (fsheet_Record_valid_C n)) (An Tryz.f186) (Aw Dp x)).runK (As Tryz.prog Tryz.f186.results.toList 0 FF)=Jb n x:=by kernel_rfl
theorem LF (n:Nat):Ar Tryz.prog 186 (fsheet_Record_valid_law n):=Au Tryz.func186 rfl rfl (by decide) rfl Aa Ab (Ad Aa Ab (N6 n) Al) (Af (fn:=Tryz.f186) (L:=fsheet_Record_valid_C n) (ks:=[]) trivial (by kernel_rfl) (by kernel_rfl)) (OI n)
def C9:List (Nat×C):=[(0,.l 93),(1,.f 248 [] [.p [.f 186 [] []]]),(7,.s 3),(8,.s 3)]
def GY:List Wo:=[⟨.exit 0,[.p [.f 186 [] []]],[],[]⟩,⟨.ret,[.p [.f 186 [] []]],[(4,.s 3)],[]⟩]
def CA:List (Nat×C):=[(0,.l 28),(1,.f 246 [] [.p [.f 183 [] []]]),(7,.s 3),(8,.s 3)]
def GZ:List Wo:=[⟨.exit 0,[.p [.f 183 [] []]],[],[]⟩,⟨.ret,[.p [.f 183 [] []]],[(4,.s 3)],[]⟩]
def CB:List (Nat×C):=[(0,.l 28),(1,.f 246 [] [.p [.f 184 [] []]]),(7,.s 3),(8,.s 3)]
def Ha:List Wo:=[⟨.exit 0,[.p [.f 184 [] []]],[],[]⟩,⟨.ret,[.p [.f 184 [] []]],[(4,.s 3)],[]⟩]
def GF:List (Nat×C):=[(0,.l 28)]
def Jy:List Wo:=[⟨.ret,[],[],[.s 3]⟩]
def Bt:Nat→(List Ac)→Int→Int→Option ((((Unit×Unit)×Unit)×Unit) ⊕ ((((Unit×Unit)×Unit)×Int×Unit)))
  | 0,_,_,_=>none
  | n+1,s,x7,x8 =>
    bif decide (x8<x7) then((AO s x8).bind fun v0 =>
    (C8 n v0).bind fun v1 =>
    bif !v1.fst then(some (.inr ((((),()),()),(x8,())))) else
    Bt n s x7 (IntKind.i64.wrap (x8+1))) else
    some (.inl ((((),()),()),()))
def Ep (n:Nat) (y:C.Ds Ty (Aj C9)):Option (YT Ty GY):=Bt n y.1 y.2.2.1 y.2.2.2.1
noncomputable def fsheet_checked_i1_cut (n:Nat):St Ty→Tr (Lf Ty):=CK C9 1 GY (Ep n)
def BG:Nat→(List (List Ac))→Int→Int→Option ((((Unit×Unit)×Unit)×Unit) ⊕ ((((Unit×Unit)×Unit)×Int×Unit)))
  | 0,_,_,_=>none
  | n+1,s,x7,x8 =>
    bif decide (x8<x7) then((AO s x8).bind fun v0 =>
    bif !decide ((↑v0.length:Int)≤60) then(some (.inr ((((),()),()),(x8,())))) else
    BG n s x7 (IntKind.i64.wrap (x8+1))) else
    some (.inl ((((),()),()),()))
def Er (n:Nat) (y:C.Ds Ty (Aj CA)):Option (YT Ty GZ):=BG n y.1 y.2.2.1 y.2.2.2.1
noncomputable def fsheet_checked_i2_cut (n:Nat):St Ty→Tr (Lf Ty):=CK CA 1 GZ (Er n)
def AS:Nat→(List (List Ac))→Int→Int→Option ((((Unit×Unit)×Unit)×Unit) ⊕ ((((Unit×Unit)×Unit)×Int×Unit)))
  | 0,_,_,_=>none
  | n+1,s,x7,x8 =>
    bif decide (x8<x7) then((AO s x8).bind fun v0 =>
    (Bt n v0 (↑v0.length:Int) 0).bind fun v1 =>
    Sum.elim (fun v2=>AS n s x7 (IntKind.i64.wrap (x8+1))) (fun v2=>bif !!decide (v2.snd.fst≥0) then(some (.inr ((((),()),()),(x8,())))) else
    AS n s x7 (IntKind.i64.wrap (x8+1))) (v1)) else
    some (.inl ((((),()),()),()))
def Es (n:Nat) (y:C.Ds Ty (Aj CB)):Option (YT Ty Ha):=AS n y.1 y.2.2.1 y.2.2.2.1
noncomputable def fsheet_checked_i3_cut (n:Nat):St Ty→Tr (Lf Ty):=CK CB 1 Ha (Es n)
def I6 (n:Nat) (lists:List (List Ac)):Option ((Int×Unit)) :=
    bif !decide ((↑lists.length:Int)>6) then((BG n lists (↑lists.length:Int) 0).bind fun v0 =>
    Sum.elim (fun v1=>(AS n lists (↑lists.length:Int) 0).bind fun v2 =>
    Sum.elim (fun v3=>some (0,())) (fun v3=>bif !!decide (v3.snd.fst≥0) then(some (1,())) else
    some (0,())) (v2)) (fun v1=>bif !!decide (v1.snd.fst≥0) then(some (3,())) else
    (AS n lists (↑lists.length:Int) 0).bind fun v2 =>
    Sum.elim (fun v3=>some (0,())) (fun v3=>bif !!decide (v3.snd.fst≥0) then(some (1,())) else
    some (0,())) (v2)) (v0)) else
    some (3,())
def N7 (n:Nat) (y:C.Ds Ty (Aj GF)):Option (YT Ty Jy):=I6 n y.1
noncomputable def fsheet_checked_law (n:Nat):AE Ty:=IZ (AF GF 0 Jy (N7 n))
noncomputable def fsheet_checked_T (n:Nat):List (Nat×AE Ty):=[(186,fsheet_Record_valid_law n)]
theorem EZ (n:Nat):Aq Tryz.prog (fsheet_checked_T n):=⟨LF n,trivial⟩
noncomputable def fsheet_checked_i1_C (n:Nat):A3 Ty:=[]
theorem QA (n:Nat) (x:C.Ds Ty (Aj C9)):(Az Tryz.prog 19 (Am Tryz.prog (fsheet_checked_T n) []) (Ai (fsheet_checked_i1_C n)) (Ap 2 Tryz.f301) (Aw C9 x)).runK (AI 1 C9 GY (Ep n))=Ep (n+1) x:=by kernel_rfl
theorem JI (n:Nat):A9 true Tryz.prog 19 (fsheet_checked_i1_cut n) (.loop (Ap 2 Tryz.f301)):=AM fun x y hy=>A2 (Fn:=Ep) Aa Ab (fun n=>Ad Aa Ab (EZ n) Al) (fun h=>by cases h) (fun h=>by cases h) (fun n=>(Af (fn:=Tryz.f301) (L:=fsheet_checked_i1_C n) (ks:=[]) trivial (by kernel_rfl) (by kernel_rfl))) (by decide) (fun _=>rfl) QA hy
noncomputable def fsheet_checked_J1 (n:Nat):Qw Ty:=[(301,[(.loop 2,fsheet_checked_i1_cut n)])]
theorem Kk (n:Nat):La Tryz.prog (fsheet_checked_J1 n):=⟨G9 (f:=301) Tryz.func301 rfl (Af (fn:=Tryz.f301) (L:=[(.loop 2,fsheet_checked_i1_cut n)]) (ks:=[.loop 2]) ⟨JI n,trivial⟩ (by kernel_rfl) (by kernel_rfl)),trivial⟩
noncomputable def fsheet_checked_i2_C (n:Nat):A3 Ty:=[]
theorem QB (n:Nat) (x:C.Ds Ty (Aj CA)):(Az Tryz.prog 19 (Am Tryz.prog (fsheet_checked_T n) (fsheet_checked_J1 n)) (Ai (fsheet_checked_i2_C n)) (Ap 2 Tryz.f300) (Aw CA x)).runK (AI 1 CA GZ (Er n))=Er (n+1) x:=by kernel_rfl
theorem QC (n:Nat):A9 true Tryz.prog 19 (fsheet_checked_i2_cut n) (.loop (Ap 2 Tryz.f300)):=AM fun x y hy=>A2 (Fn:=Er) Aa Ab (fun n=>Ad Aa Ab (EZ n) (Kk n)) (fun h=>by cases h) (fun h=>by cases h) (fun n=>(Af (fn:=Tryz.f300) (L:=fsheet_checked_i2_C n) (ks:=[]) trivial (by kernel_rfl) (by kernel_rfl))) (by decide) (fun _=>rfl) QB hy
noncomputable def fsheet_checked_i3_C (n:Nat):A3 Ty:=[]
theorem QD (n:Nat) (x:C.Ds Ty (Aj CB)):(Az Tryz.prog 19 (Am Tryz.prog (fsheet_checked_T n) (fsheet_checked_J1 n)) (Ai (fsheet_checked_i3_C n)) (Ap 2 Tryz.f300) (Aw CB x)).runK (AI 1 CB Ha (Es n))=Es (n+1) x:=by kernel_rfl
theorem QE (n:Nat):A9 true Tryz.prog 19 (fsheet_checked_i3_cut n) (.loop (Ap 2 Tryz.f300)):=AM fun x y hy=>A2 (Fn:=Es) Aa Ab (fun n=>Ad Aa Ab (EZ n) (Kk n)) (fun h=>by cases h) (fun h=>by cases h) (fun n=>(Af (fn:=Tryz.f300) (L:=fsheet_checked_i3_C n) (ks:=[]) trivial (by kernel_rfl) (by kernel_rfl))) (by decide) (fun _=>rfl) QD hy
noncomputable def fsheet_checked_J2 (n:Nat):Qw Ty:=[(301,[(.loop 2,fsheet_checked_i1_cut n)]),(300,[(.loop 2,Ala (fsheet_checked_i2_cut n) (fsheet_checked_i3_cut n))])]
theorem RG (n:Nat):La Tryz.prog (fsheet_checked_J2 n):=⟨G9 (f:=301) Tryz.func301 rfl (Af (fn:=Tryz.f301) (L:=[(.loop 2,fsheet_checked_i1_cut n)]) (ks:=[.loop 2]) ⟨JI n,trivial⟩ (by kernel_rfl) (by kernel_rfl)),⟨G9 (f:=300) Tryz.func300 rfl (Af (fn:=Tryz.f300) (L:=[(.loop 2,Ala (fsheet_checked_i2_cut n) (fsheet_checked_i3_cut n))]) (ks:=[.loop 2]) ⟨Alb (QC n) (QE n),trivial⟩ (by kernel_rfl) (by kernel_rfl)),trivial⟩⟩
noncomputable def fsheet_checked_C (n:Nat):A3 Ty:=[]
theorem Ur (n:Nat) (x:C.Ds Ty (Aj GF)):(Az Tryz.prog 16 (Am Tryz.prog (fsheet_checked_T n) (fsheet_checked_J2 n)) (Ai (fsheet_checked_C n)) (An Tryz.f130) (Aw GF x)).runK (As Tryz.prog Tryz.f130.results.toList 0 Jy)=N7 n x:=by kernel_rfl
theorem QF (n:Nat):Ar Tryz.prog 130 (fsheet_checked_law n):=C6 (Au Tryz.func130 rfl rfl (by decide) rfl Aa Ab (Ad Aa Ab (EZ n) (RG n)) (Af (fn:=Tryz.f130) (L:=fsheet_checked_C n) (ks:=[]) trivial (by kernel_rfl) (by kernel_rfl)) (Ur n))
def Df:List (Nat×C):=[(5,.m 227 93),(6,.o 93),(21,.l 93),(22,.s 3),(23,.s 3)]
def HH:List Wo:=[⟨.exit 0,[.m 227 93],[(6,.o 93)],[]⟩,⟨.ret,[.m 227 93],[(2,.l 93),(3,.s 3)],[]⟩]
def Dg:List (Nat×C):=[(6,.o 93),(56,.r 93 0),(57,.s 3),(58,.s 3)]
def HI:List Wo:=[⟨.exit 2,[],[(6,.o 93)],[]⟩,⟨.ret,[],[(2,.l 93),(3,.s 3)],[]⟩]
def Hy:List (Nat×C):=[(0,.l 28)]
def JX:List Wo:=[⟨.ret,[],[],[.l 93,.s 3]⟩]
def Bm:Nat→(List (JE×Ac))→(List Ac)→(List Ac)→Int→Int→Option (((List (JE×Ac))×List Ac×Unit) ⊕ (((List (JE×Ac))×List Ac×Int×Unit)))
  | 0,_,_,_,_,_=>none
  | n+1,known,out,x21,x22,x23 =>
    bif decide (x23<x22) then((AO x21 x23).bind fun v0 =>
    bif EM AB known (JE.mk v0.machine v0.seq) then(bif !(decide ((Ba AB known (JE.mk v0.machine v0.seq) (Ac.mk 0 0 0 (IK.mk 0) 0 0)).machine=v0.machine) && (decide ((Ba AB known (JE.mk v0.machine v0.seq) (Ac.mk 0 0 0 (IK.mk 0) 0 0)).seq=v0.seq) && (decide ((Ba AB known (JE.mk v0.machine v0.seq) (Ac.mk 0 0 0 (IK.mk 0) 0 0)).minute=v0.minute) && (decide ((Ba AB known (JE.mk v0.machine v0.seq) (Ac.mk 0 0 0 (IK.mk 0) 0 0)).kind.n=v0.kind.n) && (decide ((Ba AB known (JE.mk v0.machine v0.seq) (Ac.mk 0 0 0 (IK.mk 0) 0 0)).a=v0.a) && (decide ((Ba AB known (JE.mk v0.machine v0.seq) (Ac.mk 0 0 0 (IK.mk 0) 0 0)).b=v0.b) && true)))))) then(some (.inr (known,([],(6,()))))) else
    bif !EM AB known (JE.mk v0.machine v0.seq) then((app out [v0]).bind fun v1 =>
    Bm n (Ip AB known (JE.mk v0.machine v0.seq) v0) v1 x21 x22 (IntKind.i64.wrap (x23+1))) else
    Bm n known out x21 x22 (IntKind.i64.wrap (x23+1))) else
    bif !EM AB known (JE.mk v0.machine v0.seq) then((app out [v0]).bind fun v1 =>
    Bm n (Ip AB known (JE.mk v0.machine v0.seq) v0) v1 x21 x22 (IntKind.i64.wrap (x23+1))) else
    Bm n known out x21 x22 (IntKind.i64.wrap (x23+1))) else
    some (.inl (known,(out,())))
def Fa (n:Nat) (y:C.Ds Ty (Aj Df)):Option (YT Ty HH):=Bm n y.1 y.2.1 y.2.2.1 y.2.2.2.1 y.2.2.2.2.1
noncomputable def fsheet_merged_l1_cut (n:Nat):St Ty→Tr (Lf Ty):=CK Df 1 HH (Fa n)
def BY:Nat→(List Ac)→Int→Int→Option ((List Ac×Unit) ⊕ ((List Ac×Int×Unit)))
  | 0,_,_,_=>none
  | n+1,out,x57,x58 =>
    bif decide (x58<x57) then((AO out x58).bind fun v0 =>
    (out.get?Internal x58.toNat).bind fun v1 =>
    bif decide (x58>0) then((AO out (IntKind.i64.wrap (x58-1))).bind fun v2 =>
    (out.get?Internal (IntKind.i64.wrap (x58-1)).toNat).bind fun v3 =>
    bif decide (v3.machine=v1.machine) then((AO out (IntKind.i64.wrap (x58-1))).bind fun v4 =>
    (out.get?Internal (IntKind.i64.wrap (x58-1)).toNat).bind fun v5 =>
    bif decide (v5.minute>v1.minute) then(some (.inr ([],(6,())))) else
    BY n out x57 (IntKind.i64.wrap (x58+1))) else
    BY n out x57 (IntKind.i64.wrap (x58+1))) else
    BY n out x57 (IntKind.i64.wrap (x58+1))) else
    some (.inl (out,()))
def Fb (n:Nat) (y:C.Ds Ty (Aj Dg)):Option (YT Ty HI):=BY n y.1 y.2.2.1 y.2.2.2.1
noncomputable def fsheet_merged_l2_cut (n:Nat):St Ty→Tr (Lf Ty):=CK Dg 0 HI (Fb n)
def F8 (n:Nat) (lists:List (List Ac)):Option ((List Ac×Int×Unit)) :=
    (I6 n lists).bind fun v0 =>
    bif v0.fst != 0 then(some ([],(v0.fst,()))) else
    (X2 n lists).bind fun v1 =>
    (Bm n [] [] v1.fst (↑v1.fst.length:Int) 0).bind fun v2 =>
    Sum.elim (fun v3=>(Ah5 v3.snd.fst).bind fun v4 =>
    (BY n v4 (↑v4.length:Int) 0).bind fun v5 =>
    Sum.elim (fun v6=>some (v6.fst,(0,()))) (fun v6=>some (v6.fst,(v6.snd.fst,()))) (v5)) (fun v3=>some (v3.snd.fst,(v3.snd.snd.fst,()))) (v2)
def P1 (n:Nat) (y:C.Ds Ty (Aj Hy)):Option (YT Ty JX):=F8 n y.1
noncomputable def fsheet_merged_law (n:Nat):AE Ty:=AF Hy 0 JX (P1 n)
noncomputable def fsheet_merged_T (n:Nat):List (Nat×AE Ty):=[(130,fsheet_checked_law n),(131,concatR_law n),(132,sortR_law n)]
theorem I7 (n:Nat):Aq Tryz.prog (fsheet_merged_T n):=⟨QF n,⟨Aav n,⟨Aeu n,trivial⟩⟩⟩
noncomputable def fsheet_merged_l1_C (n:Nat):A3 Ty:=[]
theorem RH (n:Nat) (x:C.Ds Ty (Aj Df)):(Az Tryz.prog 89 (Am Tryz.prog (fsheet_merged_T n) []) (Ai (fsheet_merged_l1_C n)) (Ap 7 Tryz.f81) (Aw Df x)).runK (AI 1 Df HH (Fa n))=Fa (n+1) x:=by kernel_rfl
theorem RI (n:Nat):A9 true Tryz.prog 89 (fsheet_merged_l1_cut n) (.loop (Ap 7 Tryz.f81)):=AM fun x y hy=>A2 (Fn:=Fa) Aa Ab (fun n=>Ad Aa Ab (I7 n) Al) (fun h=>by cases h) (fun h=>by cases h) (fun n=>(Af (fn:=Tryz.f81) (L:=fsheet_merged_l1_C n) (ks:=[]) trivial (by kernel_rfl) (by kernel_rfl))) (by decide) (fun _=>rfl) RH hy
noncomputable def fsheet_merged_l2_C (n:Nat):A3 Ty:=[]
theorem RJ (n:Nat) (x:C.Ds Ty (Aj Dg)):(Az Tryz.prog 89 (Am Tryz.prog (fsheet_merged_T n) []) (Ai (fsheet_merged_l2_C n)) (Ap 19 Tryz.f81) (Aw Dg x)).runK (AI 0 Dg HI (Fb n))=Fb (n+1) x:=by kernel_rfl
theorem RK (n:Nat):A9 true Tryz.prog 89 (fsheet_merged_l2_cut n) (.loop (Ap 19 Tryz.f81)):=AM fun x y hy=>A2 (Fn:=Fb) Aa Ab (fun n=>Ad Aa Ab (I7 n) Al) (fun h=>by cases h) (fun h=>by cases h) (fun n=>(Af (fn:=Tryz.f81) (L:=fsheet_merged_l2_C n) (ks:=[]) trivial (by kernel_rfl) (by kernel_rfl))) (by decide) (fun _=>rfl) RJ hy
noncomputable def fsheet_merged_C (n:Nat):A3 Ty:=[(.loop 7,fsheet_merged_l1_cut n),(.loop 19,fsheet_merged_l2_cut n)]
theorem VA (n:Nat) (x:C.Ds Ty (Aj Hy)):(Az Tryz.prog 89 (Am Tryz.prog (fsheet_merged_T n) []) (Ai (fsheet_merged_C n)) (An Tryz.f81) (Aw Hy x)).runK (As Tryz.prog Tryz.f81.results.toList 0 JX)=P1 n x:=by kernel_rfl
theorem Kl (n:Nat):Ar Tryz.prog 81 (fsheet_merged_law n):=Au Tryz.func81 rfl rfl (by decide) rfl Aa Ab (Ad Aa Ab (I7 n) Al) (Af (fn:=Tryz.f81) (L:=fsheet_merged_C n) (ks:=[.loop 7,.loop 19]) ⟨RI n,⟨RK n,trivial⟩⟩ (by kernel_rfl) (by kernel_rfl)) (VA n)
def I8:List (Nat×C):=[(0,.l 28)]
def Lt:List Wo:=[⟨.ret,[],[],[.l 93,.s 3]⟩]
def K4 (n:Nat) (lists:List (List Ac)):Option ((List Ac×Int×Unit)) :=
    (F8 n lists).bind fun v0 =>
    bif v0.snd.fst != 0 then(some ([],(v0.snd.fst,()))) else
    bif decide ((↑v0.fst.length:Int)>60) then(some ([],(3,()))) else
    some (v0.fst,(0,()))
def QG (n:Nat) (y:C.Ds Ty (Aj I8)):Option (YT Ty Lt):=K4 n y.1
noncomputable def fsheet_Merge_law (n:Nat):AE Ty:=AF I8 0 Lt (QG n)
noncomputable def fsheet_Merge_T (n:Nat):List (Nat×AE Ty):=[(81,fsheet_merged_law n)]
theorem VB (n:Nat):Aq Tryz.prog (fsheet_Merge_T n):=⟨Kl n,trivial⟩
noncomputable def fsheet_Merge_C (n:Nat):A3 Ty:=[]
theorem Xh (n:Nat) (x:C.Ds Ty (Aj I8)):(Az Tryz.prog 20 (Am Tryz.prog (fsheet_Merge_T n) []) (Ai (fsheet_Merge_C n)) (An Tryz.f312) (Aw I8 x)).runK (As Tryz.prog Tryz.f312.results.toList 0 Lt)=QG n x:=by kernel_rfl
theorem SN (n:Nat):Ar Tryz.prog 312 (fsheet_Merge_law n):=Au Tryz.func312 rfl rfl (by decide) rfl Aa Ab (Ad Aa Ab (VB n) Al) (Af (fn:=Tryz.f312) (L:=fsheet_Merge_C n) (ks:=[]) trivial (by kernel_rfl) (by kernel_rfl)) (Xh n)
def Dq:List (Nat×C):=[(0,.l 93),(1,.g 93)]
def FG:List Wo:=[⟨.ret,[],[],[.l 93]⟩]
def Et (n:Nat) (l:List Ac) (x:Ac):Option ((List Ac×Unit)) :=
    (Ac5 n l).bind fun v0 =>
    (app v0.fst [x]).bind fun v1 =>
    some (v1,())
def Jc (n:Nat) (y:C.Ds Ty (Aj Dq)):Option (YT Ty FG):=Et n y.1 y.2.1
noncomputable def fgarage_with_Record_law (n:Nat):AE Ty:=AF Dq 0 FG (Jc n)
noncomputable def fgarage_with_Record_T (n:Nat):List (Nat×AE Ty):=[(342,clone93_law n)]
theorem N8 (n:Nat):Aq Tryz.prog (fgarage_with_Record_T n):=⟨Aap n,trivial⟩
noncomputable def fgarage_with_Record_C (n:Nat):A3 Ty:=[]
theorem OJ (n:Nat) (x:C.Ds Ty (Aj Dq)):(Az Tryz.prog 10 (Am Tryz.prog (fgarage_with_Record_T n) []) (Ai (fgarage_with_Record_C n)) (An Tryz.f313) (Aw Dq x)).runK (As Tryz.prog Tryz.f313.results.toList 0 FG)=Jc n x:=by kernel_rfl
theorem LG (n:Nat):Ar Tryz.prog 313 (fgarage_with_Record_law n):=Au Tryz.func313 rfl rfl (by decide) rfl Aa Ab (Ad Aa Ab (N8 n) Al) (Af (fn:=Tryz.f313) (L:=fgarage_with_Record_C n) (ks:=[]) trivial (by kernel_rfl) (by kernel_rfl)) (OJ n)
def Cd:List (Nat×C):=[(0,.u 114),(1,.g 93)]
def Ea:List Wo:=[⟨.ret,[.u 114],[],[]⟩,⟨.pan,[.u 114],[],[.i 234 (.g 234)]⟩]
def Bn (n:Nat) (g:Ah) (r:Ac):Option ((Ah×Unit) ⊕ ((Ah×A8×Unit))) :=
    (Cu n g.state.records r).bind fun v0 =>
    (A5 n (!v0.fst) 6).bind fun v1 =>
    Sum.elim (fun v2=>(K4 n [g.state.records,[r]]).bind fun v3 =>
    (CL n v3.snd.fst).bind fun v4 =>
    Sum.elim (fun v5=>(Et n g.state.records r).bind fun v6 =>
    some (.inl (Ah.mk (A0.mk g.state.cards g.state.outs g.state.runs v6.fst g.state.week g.state.roster),()))) (fun v5=>some (.inr (g,(v5.fst,())))) (v4)) (fun v2=>some (.inr (g,(v2.fst,())))) (v1)
def Hq (n:Nat) (y:C.Ds Ty (Aj Cd)):Option (YT Ty Ea):=Bn n y.1 y.2.1
noncomputable def fgarage_session_record_law (n:Nat):AE Ty:=AF Cd 1 Ea (Hq n)
noncomputable def fgarage_session_record_T (n:Nat):List (Nat×AE Ty):=[(311,fslices_Contains_Record_law n),(139,fgarage_ask_law n),(312,fsheet_Merge_law n),(259,fgarage_must_law n),(313,fgarage_with_Record_law n)]
theorem Lu (n:Nat):Aq Tryz.prog (fgarage_session_record_T n):=⟨JH n,⟨Bs n,⟨SN n,⟨Dd n,⟨LG n,trivial⟩⟩⟩⟩⟩
noncomputable def fgarage_session_record_C (n:Nat):A3 Ty:=[]
theorem LH (n:Nat) (x:C.Ds Ty (Aj Cd)):(Az Tryz.prog 40 (Am Tryz.prog (fgarage_session_record_T n) []) (Ai (fgarage_session_record_C n)) (An Tryz.f264) (Aw Cd x)).runK (As Tryz.prog Tryz.f264.results.toList 1 Ea)=Hq n x:=by kernel_rfl
theorem C4 (n:Nat):Ar Tryz.prog 264 (fgarage_session_record_law n):=Au Tryz.func264 rfl rfl (by decide) rfl Aa Ab (Ad Aa Ab (Lu n) Al) (Af (fn:=Tryz.f264) (L:=fgarage_session_record_C n) (ks:=[]) trivial (by kernel_rfl) (by kernel_rfl)) (LH n)
def CQ:List (Nat×C):=[(0,.u 114),(1,.v 3)]
def Fc:List Wo:=[⟨.ret,[.u 114],[],[]⟩,⟨.pan,[.u 114],[],[.i 234 (.g 234)]⟩]
def DI (n:Nat) (g:Ah) (n_:List Int):Option ((Ah×Unit) ⊕ ((Ah×A8×Unit))) :=
    bif n_.length.beq 5 then((AO n_ 0).bind fun v0 =>
    (n_.get?Internal (Int.toNat 0)).bind fun v1 =>
    bif n_.length.beq 5 then((AO n_ 1).bind fun v2 =>
    (n_.get?Internal (Int.toNat 1)).bind fun v3 =>
    bif n_.length.beq 5 then((AO n_ 2).bind fun v4 =>
    (n_.get?Internal (Int.toNat 2)).bind fun v5 =>
    bif n_.length.beq 5 then((AO n_ 3).bind fun v6 =>
    (n_.get?Internal (Int.toNat 3)).bind fun v7 =>
    bif n_.length.beq 5 then((AO n_ 4).bind fun v8 =>
    (n_.get?Internal (Int.toNat 4)).bind fun v9 =>
    (Bn n g (Ac.mk v1 v3 v5 (IK.mk 0) v7 v9)).bind fun v10 =>
    Sum.elim (fun v11=>some (.inl (v11.fst,()))) (fun v11=>some (.inr (v11.fst,(v11.snd.fst,())))) (v10)) else
    none) else
    none) else
    none) else
    none) else
    none
def I9 (n:Nat) (y:C.Ds Ty (Aj CQ)):Option (YT Ty Fc):=DI n y.1 y.2.1
noncomputable def fgarage_session_sale_law (n:Nat):AE Ty:=AF CQ 1 Fc (I9 n)
noncomputable def fgarage_session_sale_T (n:Nat):List (Nat×AE Ty):=[(264,fgarage_session_record_law n)]
theorem MO (n:Nat):Aq Tryz.prog (fgarage_session_sale_T n):=⟨C4 n,trivial⟩
noncomputable def fgarage_session_sale_C (n:Nat):A3 Ty:=[]
theorem N9 (n:Nat) (x:C.Ds Ty (Aj CQ)):(Az Tryz.prog 17 (Am Tryz.prog (fgarage_session_sale_T n) []) (Ai (fgarage_session_sale_C n)) (An Tryz.f195) (Aw CQ x)).runK (As Tryz.prog Tryz.f195.results.toList 1 Fc)=I9 n x:=by kernel_rfl
theorem Gu (n:Nat):Ar Tryz.prog 195 (fgarage_session_sale_law n):=Au Tryz.func195 rfl rfl (by decide) rfl Aa Ab (Ad Aa Ab (MO n) Al) (Af (fn:=Tryz.f195) (L:=fgarage_session_sale_C n) (ks:=[]) trivial (by kernel_rfl) (by kernel_rfl)) (N9 n)
def CS:List (Nat×C):=[(0,.u 114),(1,.v 3)]
def Fd:List Wo:=[⟨.ret,[.u 114],[],[]⟩,⟨.pan,[.u 114],[],[.i 234 (.g 234)]⟩]
def DJ (n:Nat) (g:Ah) (n_:List Int):Option ((Ah×Unit) ⊕ ((Ah×A8×Unit))) :=
    bif n_.length.beq 5 then((AO n_ 0).bind fun v0 =>
    (n_.get?Internal (Int.toNat 0)).bind fun v1 =>
    bif n_.length.beq 5 then((AO n_ 1).bind fun v2 =>
    (n_.get?Internal (Int.toNat 1)).bind fun v3 =>
    bif n_.length.beq 5 then((AO n_ 2).bind fun v4 =>
    (n_.get?Internal (Int.toNat 2)).bind fun v5 =>
    bif n_.length.beq 5 then((AO n_ 3).bind fun v6 =>
    (n_.get?Internal (Int.toNat 3)).bind fun v7 =>
    (Bn n g (Ac.mk v1 v3 v5 (IK.mk 1) v7 0)).bind fun v8 =>
    Sum.elim (fun v9=>some (.inl (v9.fst,()))) (fun v9=>some (.inr (v9.fst,(v9.snd.fst,())))) (v8)) else
    none) else
    none) else
    none) else
    none
def IA (n:Nat) (y:C.Ds Ty (Aj CS)):Option (YT Ty Fd):=DJ n y.1 y.2.1
noncomputable def fgarage_session_sync_law (n:Nat):AE Ty:=AF CS 1 Fd (IA n)
noncomputable def fgarage_session_sync_T (n:Nat):List (Nat×AE Ty):=[(264,fgarage_session_record_law n)]
theorem MP (n:Nat):Aq Tryz.prog (fgarage_session_sync_T n):=⟨C4 n,trivial⟩
noncomputable def fgarage_session_sync_C (n:Nat):A3 Ty:=[]
theorem NA (n:Nat) (x:C.Ds Ty (Aj CS)):(Az Tryz.prog 15 (Am Tryz.prog (fgarage_session_sync_T n) []) (Ai (fgarage_session_sync_C n)) (An Tryz.f196) (Aw CS x)).runK (As Tryz.prog Tryz.f196.results.toList 1 Fd)=IA n x:=by kernel_rfl
theorem Gv (n:Nat):Ar Tryz.prog 196 (fgarage_session_sync_law n):=Au Tryz.func196 rfl rfl (by decide) rfl Aa Ab (Ad Aa Ab (MP n) Al) (Af (fn:=Tryz.f196) (L:=fgarage_session_sync_C n) (ks:=[]) trivial (by kernel_rfl) (by kernel_rfl)) (NA n)
def Cv:List (Nat×C):=[(0,.u 114),(1,.v 3)]
def ED:List Wo:=[⟨.ret,[.u 114],[],[]⟩,⟨.pan,[.u 114],[],[.i 234 (.g 234)]⟩]
def Dr (n:Nat) (g:Ah) (n_:List Int):Option ((Ah×Unit) ⊕ ((Ah×A8×Unit))) :=
    bif n_.length.beq 5 then((AO n_ 0).bind fun v0 =>
    (n_.get?Internal (Int.toNat 0)).bind fun v1 =>
    bif n_.length.beq 5 then((AO n_ 1).bind fun v2 =>
    (n_.get?Internal (Int.toNat 1)).bind fun v3 =>
    bif n_.length.beq 5 then((AO n_ 2).bind fun v4 =>
    (n_.get?Internal (Int.toNat 2)).bind fun v5 =>
    bif n_.length.beq 5 then((AO n_ 3).bind fun v6 =>
    (n_.get?Internal (Int.toNat 3)).bind fun v7 =>
    bif n_.length.beq 5 then((AO n_ 4).bind fun v8 =>
    (n_.get?Internal (Int.toNat 4)).bind fun v9 =>
    (Bn n g (Ac.mk v1 v3 v5 (IK.mk 2) v7 v9)).bind fun v10 =>
    Sum.elim (fun v11=>some (.inl (v11.fst,()))) (fun v11=>some (.inr (v11.fst,(v11.snd.fst,())))) (v10)) else
    none) else
    none) else
    none) else
    none) else
    none
def HV (n:Nat) (y:C.Ds Ty (Aj Cv)):Option (YT Ty ED):=Dr n y.1 y.2.1
noncomputable def fgarage_session_close_law (n:Nat):AE Ty:=AF Cv 1 ED (HV n)
noncomputable def fgarage_session_close_T (n:Nat):List (Nat×AE Ty):=[(264,fgarage_session_record_law n)]
theorem LJ (n:Nat):Aq Tryz.prog (fgarage_session_close_T n):=⟨C4 n,trivial⟩
noncomputable def fgarage_session_close_C (n:Nat):A3 Ty:=[]
theorem MQ (n:Nat) (x:C.Ds Ty (Aj Cv)):(Az Tryz.prog 17 (Am Tryz.prog (fgarage_session_close_T n) []) (Ai (fgarage_session_close_C n)) (An Tryz.f197) (Aw Cv x)).runK (As Tryz.prog Tryz.f197.results.toList 1 ED)=HV n x:=by kernel_rfl
theorem Gb (n:Nat):Ar Tryz.prog 197 (fgarage_session_close_law n):=Au Tryz.func197 rfl rfl (by decide) rfl Aa Ab (Ad Aa Ab (LJ n) Al) (Af (fn:=Tryz.f197) (L:=fgarage_session_close_C n) (ks:=[]) trivial (by kernel_rfl) (by kernel_rfl)) (MQ n)
def Dt:List (Nat×C):=[(0,.l 186),(1,.g 186)]
def FH:List Wo:=[⟨.ret,[],[],[.l 186]⟩]
def Eu (n:Nat) (l:List AR) (x:AR):Option ((List AR×Unit)) :=
    (Z0 n l).bind fun v0 =>
    (app v0.fst [x]).bind fun v1 =>
    some (v1,())
def Jd (n:Nat) (y:C.Ds Ty (Aj Dt)):Option (YT Ty FH):=Eu n y.1 y.2.1
noncomputable def fgarage_with_Driver_law (n:Nat):AE Ty:=AF Dt 0 FH (Jd n)
noncomputable def fgarage_with_Driver_T (n:Nat):List (Nat×AE Ty):=[(314,clone186_law n)]
theorem NB (n:Nat):Aq Tryz.prog (fgarage_with_Driver_T n):=⟨Z1 n,trivial⟩
noncomputable def fgarage_with_Driver_C (n:Nat):A3 Ty:=[]
theorem OL (n:Nat) (x:C.Ds Ty (Aj Dt)):(Az Tryz.prog 10 (Am Tryz.prog (fgarage_with_Driver_T n) []) (Ai (fgarage_with_Driver_C n)) (An Tryz.f265) (Aw Dt x)).runK (As Tryz.prog Tryz.f265.results.toList 0 FH)=Jd n x:=by kernel_rfl
theorem LK (n:Nat):Ar Tryz.prog 265 (fgarage_with_Driver_law n):=Au Tryz.func265 rfl rfl (by decide) rfl Aa Ab (Ad Aa Ab (NB n) Al) (Af (fn:=Tryz.f265) (L:=fgarage_with_Driver_C n) (ks:=[]) trivial (by kernel_rfl) (by kernel_rfl)) (OL n)
def Ev:List (Nat×C):=[(0,.g 32),(1,.g 184)]
def Hb:List Wo:=[⟨.ret,[],[],[.s 4]⟩]
def DK (n:Nat) (w:AD) (d:Bu):Option ((Bool×Unit)) :=
    bif decide (0≤d.day) then(bif decide (d.day≤IntKind.i64.wrap (w.days-1)) then(bif decide (0≤d.on) then(bif decide (d.on≤1439) then(bif decide (d.on≤d.off.lo) then(bif decide (d.off.lo≤d.off.hi) then(bif decide (d.off.hi≤IntKind.i64.wrap (d.on+1440)) then(bif decide (0≤d.route) then(some (decide (d.route≤15),())) else
    some (false,())) else
    some (false,())) else
    some (false,())) else
    some (false,())) else
    some (false,())) else
    some (false,())) else
    some (false,())) else
    some (false,())
def Km (n:Nat) (y:C.Ds Ty (Aj Ev)):Option (YT Ty Hb):=DK n y.1 y.2.1
noncomputable def froster_Week_duty_law (n:Nat):AE Ty:=AF Ev 0 Hb (Km n)
noncomputable def froster_Week_duty_T (n:Nat):List (Nat×AE Ty):=[]
theorem PG (n:Nat):Aq Tryz.prog (froster_Week_duty_T n):=trivial
noncomputable def froster_Week_duty_C (n:Nat):A3 Ty:=[]
theorem QH (n:Nat) (x:C.Ds Ty (Aj Ev)):(Az Tryz.prog 47 (Am Tryz.prog (froster_Week_duty_T n) []) (Ai (froster_Week_duty_C n)) (An Tryz.f116) (Aw Ev x)).runK (As Tryz.prog Tryz.f116.results.toList 0 Hb)=Km n x:=by kernel_rfl
theorem NC (n:Nat):Ar Tryz.prog 116 (froster_Week_duty_law n):=Au Tryz.func116 rfl rfl (by decide) rfl Aa Ab (Ad Aa Ab (PG n) Al) (Af (fn:=Tryz.f116) (L:=froster_Week_duty_C n) (ks:=[]) trivial (by kernel_rfl) (by kernel_rfl)) (QH n)
def Dh:List (Nat×C):=[(0,.l 3),(1,.s 3),(2,.s 3),(9,.l 3),(10,.s 3),(11,.s 3)]
def HJ:List Wo:=[⟨.exit 0,[],[],[]⟩,⟨.ret,[],[(6,.s 4)],[]⟩]
def Hz:List (Nat×C):=[(0,.l 3),(1,.s 3),(2,.s 3)]
def JY:List Wo:=[⟨.ret,[],[],[.s 4]⟩]
def GG:Nat→(List Int)→Int→Int→(List Int)→Int→Int→Option (Unit ⊕ ((Bool×Unit)))
  | 0,_,_,_,_,_,_=>none
  | n+1,l,low,high,x9,x10,x11 =>
    bif decide (x11<x10) then((AO x9 x11).bind fun v0 =>
    bif decide (low≤v0) then(bif !!decide (v0≤high) then(bif decide (x11>0) then((AO l (IntKind.i64.wrap (x11-1))).bind fun v1 =>
    bif decide (v0≤v1) then(some (.inr (false,()))) else
    GG n l low high x9 x10 (IntKind.i64.wrap (x11+1))) else
    GG n l low high x9 x10 (IntKind.i64.wrap (x11+1))) else
    some (.inr (false,()))) else
    some (.inr (false,()))) else
    some (.inl ())
def Fe (n:Nat) (y:C.Ds Ty (Aj Dh)):Option (YT Ty HJ):=GG n y.1 y.2.1 y.2.2.1 y.2.2.2.1 y.2.2.2.2.1 y.2.2.2.2.2.1
noncomputable def froster_rises_l1_cut (n:Nat):St Ty→Tr (Lf Ty):=CK Dh 0 HJ (Fe n)
def F9 (n:Nat) (l:List Int) (low:Int) (high:Int):Option ((Bool×Unit)) :=
    (GG n l low high l (↑l.length:Int) 0).bind fun v0 =>
    Sum.elim (fun v1=>some (true,())) (fun v1=>some (v1.fst,())) (v0)
def P2 (n:Nat) (y:C.Ds Ty (Aj Hz)):Option (YT Ty JY):=F9 n y.1 y.2.1 y.2.2.1
noncomputable def froster_rises_law (n:Nat):AE Ty:=IZ (AF Hz 0 JY (P2 n))
noncomputable def froster_rises_T (n:Nat):List (Nat×AE Ty):=[]
theorem M6 (n:Nat):Aq Tryz.prog (froster_rises_T n):=trivial
noncomputable def froster_rises_l1_C (n:Nat):A3 Ty:=[]
theorem RL (n:Nat) (x:C.Ds Ty (Aj Dh)):(Az Tryz.prog 35 (Am Tryz.prog (froster_rises_T n) []) (Ai (froster_rises_l1_C n)) (Ap 2 Tryz.f172) (Aw Dh x)).runK (AI 0 Dh HJ (Fe n))=Fe (n+1) x:=by kernel_rfl
theorem RM (n:Nat):A9 true Tryz.prog 35 (froster_rises_l1_cut n) (.loop (Ap 2 Tryz.f172)):=AM fun x y hy=>A2 (Fn:=Fe) Aa Ab (fun n=>Ad Aa Ab (M6 n) Al) (fun h=>by cases h) (fun h=>by cases h) (fun n=>(Af (fn:=Tryz.f172) (L:=froster_rises_l1_C n) (ks:=[]) trivial (by kernel_rfl) (by kernel_rfl))) (by decide) (fun _=>rfl) RL hy
noncomputable def froster_rises_C (n:Nat):A3 Ty:=[(.loop 2,froster_rises_l1_cut n)]
theorem VC (n:Nat) (x:C.Ds Ty (Aj Hz)):(Az Tryz.prog 35 (Am Tryz.prog (froster_rises_T n) []) (Ai (froster_rises_C n)) (An Tryz.f172) (Aw Hz x)).runK (As Tryz.prog Tryz.f172.results.toList 0 JY)=P2 n x:=by kernel_rfl
theorem RN (n:Nat):Ar Tryz.prog 172 (froster_rises_law n):=C6 (Au Tryz.func172 rfl rfl (by decide) rfl Aa Ab (Ad Aa Ab (M6 n) Al) (Af (fn:=Tryz.f172) (L:=froster_rises_C n) (ks:=[.loop 2]) ⟨RM n,trivial⟩ (by kernel_rfl) (by kernel_rfl)) (VC n))
def Du:List (Nat×C):=[(0,.g 32),(1,.g 186)]
def FI:List Wo:=[⟨.ret,[],[],[.s 4]⟩]
def CC (n:Nat) (w:AD) (d:AR):Option ((Bool×Unit)) :=
    (F9 n d.knows 0 15).bind fun v0 =>
    bif v0.fst then((F9 n d.leave 0 (IntKind.i64.wrap (w.days-1))).bind fun v1 =>
    bif v1.fst then((F9 n d.wish 0 (IntKind.i64.wrap (w.days-1))).bind fun v2 =>
    bif v2.fst then(bif decide (-10080≤d.off) then(bif decide (d.off≤1440) then(bif decide (0≤d.row) then(bif decide (d.row≤14) then(bif decide (0≤d.used) then(some (decide (d.used≤w.hours),())) else
    some (false,())) else
    some (false,())) else
    some (false,())) else
    some (false,())) else
    some (false,())) else
    some (false,())) else
    some (false,())) else
    some (false,())
def Je (n:Nat) (y:C.Ds Ty (Aj Du)):Option (YT Ty FI):=CC n y.1 y.2.1
noncomputable def froster_Week_driver_law (n:Nat):AE Ty:=AF Du 0 FI (Je n)
noncomputable def froster_Week_driver_T (n:Nat):List (Nat×AE Ty):=[(172,froster_rises_law n)]
theorem ND (n:Nat):Aq Tryz.prog (froster_Week_driver_T n):=⟨RN n,trivial⟩
noncomputable def froster_Week_driver_C (n:Nat):A3 Ty:=[]
theorem OM (n:Nat) (x:C.Ds Ty (Aj Du)):(Az Tryz.prog 41 (Am Tryz.prog (froster_Week_driver_T n) []) (Ai (froster_Week_driver_C n)) (An Tryz.f118) (Aw Du x)).runK (As Tryz.prog Tryz.f118.results.toList 0 FI)=Je n x:=by kernel_rfl
theorem LL (n:Nat):Ar Tryz.prog 118 (froster_Week_driver_law n):=Au Tryz.func118 rfl rfl (by decide) rfl Aa Ab (Ad Aa Ab (ND n) Al) (Af (fn:=Tryz.f118) (L:=froster_Week_driver_C n) (ks:=[]) trivial (by kernel_rfl) (by kernel_rfl)) (OM n)
def BH:List (Nat×C):=[(0,.l 184),(1,.f 169 [] [.p [.f 116 [.g 32] []]]),(7,.s 3),(8,.s 3)]
def Ff:List Wo:=[⟨.exit 0,[.p [.f 116 [.g 32] []]],[],[]⟩,⟨.ret,[.p [.f 116 [.g 32] []]],[(4,.s 3)],[]⟩]
def BI:List (Nat×C):=[(0,.l 186),(1,.f 171 [] [.p [.f 118 [.g 32] []]]),(7,.s 3),(8,.s 3)]
def Fg:List Wo:=[⟨.exit 0,[.p [.f 118 [.g 32] []]],[],[]⟩,⟨.ret,[.p [.f 118 [.g 32] []]],[(4,.s 3)],[]⟩]
def Ew:List (Nat×C):=[(0,.g 32)]
def Hc:List Wo:=[⟨.ret,[],[],[.s 3]⟩]
def AU:Nat→(List Bu)→AD→Int→Int→Option (((((AD×Unit)×Unit)×Unit)×Unit) ⊕ (((((AD×Unit)×Unit)×Unit)×Int×Unit)))
  | 0,_,_,_,_=>none
  | n+1,s,f,x7,x8 =>
    bif decide (x8<x7) then((AO s x8).bind fun v0 =>
    (DK n f v0).bind fun v1 =>
    bif !v1.fst then(some (.inr ((((f,()),()),()),(x8,())))) else
    AU n s f x7 (IntKind.i64.wrap (x8+1))) else
    some (.inl ((((f,()),()),()),()))
def CT (n:Nat) (y:C.Ds Ty (Aj BH)):Option (YT Ty Ff):=AU n y.1 y.2.1.2.1.1.1.1 y.2.2.1 y.2.2.2.1
noncomputable def froster_CheckWeek_i1_cut (n:Nat):St Ty→Tr (Lf Ty):=CK BH 1 Ff (CT n)
def AV:Nat→(List AR)→AD→Int→Int→Option (((((AD×Unit)×Unit)×Unit)×Unit) ⊕ (((((AD×Unit)×Unit)×Unit)×Int×Unit)))
  | 0,_,_,_,_=>none
  | n+1,s,f,x7,x8 =>
    bif decide (x8<x7) then((AO s x8).bind fun v0 =>
    (CC n f v0).bind fun v1 =>
    bif !v1.fst then(some (.inr ((((f,()),()),()),(x8,())))) else
    AV n s f x7 (IntKind.i64.wrap (x8+1))) else
    some (.inl ((((f,()),()),()),()))
def CU (n:Nat) (y:C.Ds Ty (Aj BI)):Option (YT Ty Fg):=AV n y.1 y.2.1.2.1.1.1.1 y.2.2.1 y.2.2.2.1
noncomputable def froster_CheckWeek_i2_cut (n:Nat):St Ty→Tr (Lf Ty):=CK BI 1 Fg (CU n)
def Cw (n:Nat) (w:AD):Option ((Int×Unit)) :=
    bif !decide ((↑w.duties.length:Int)>12) then(bif decide ((↑w.drivers.length:Int)>6) then(some (3,())) else
    bif decide (1≤w.days) then(bif !!decide (w.days≤7) then(bif decide (0≤w.rest) then(bif !!decide (w.rest≤3000) then(bif decide (1≤w.run) then(bif !!decide (w.run≤14) then(bif decide (0≤w.hours) then(bif !decide (w.hours≤20000) then(some (1,())) else
    (AU n w.duties w (↑w.duties.length:Int) 0).bind fun v0 =>
    Sum.elim (fun v1=>(AV n w.drivers w (↑w.drivers.length:Int) 0).bind fun v2 =>
    Sum.elim (fun v3=>some (0,())) (fun v3=>bif !!decide (v3.snd.fst≥0) then(some (1,())) else
    some (0,())) (v2)) (fun v1=>bif !!!decide (v1.snd.fst≥0) then((AV n w.drivers w (↑w.drivers.length:Int) 0).bind fun v2 =>
    Sum.elim (fun v3=>some (0,())) (fun v3=>bif !!decide (v3.snd.fst≥0) then(some (1,())) else
    some (0,())) (v2)) else
    some (1,())) (v0)) else
    some (1,())) else
    some (1,())) else
    some (1,())) else
    some (1,())) else
    some (1,())) else
    some (1,())) else
    some (1,())) else
    some (3,())
def Ko (n:Nat) (y:C.Ds Ty (Aj Ew)):Option (YT Ty Hc):=Cw n y.1
noncomputable def froster_CheckWeek_law (n:Nat):AE Ty:=AF Ew 0 Hc (Ko n)
noncomputable def froster_CheckWeek_T (n:Nat):List (Nat×AE Ty):=[(116,froster_Week_duty_law n),(118,froster_Week_driver_law n)]
theorem FJ (n:Nat):Aq Tryz.prog (froster_CheckWeek_T n):=⟨NC n,⟨LL n,trivial⟩⟩
noncomputable def froster_CheckWeek_i1_C (n:Nat):A3 Ty:=[]
theorem NE (n:Nat) (x:C.Ds Ty (Aj BH)):(Az Tryz.prog 19 (Am Tryz.prog (froster_CheckWeek_T n) []) (Ai (froster_CheckWeek_i1_C n)) (Ap 2 Tryz.f234) (Aw BH x)).runK (AI 1 BH Ff (CT n))=CT (n+1) x:=by kernel_rfl
theorem HW (n:Nat):A9 true Tryz.prog 19 (froster_CheckWeek_i1_cut n) (.loop (Ap 2 Tryz.f234)):=AM fun x y hy=>A2 (Fn:=CT) Aa Ab (fun n=>Ad Aa Ab (FJ n) Al) (fun h=>by cases h) (fun h=>by cases h) (fun n=>(Af (fn:=Tryz.f234) (L:=froster_CheckWeek_i1_C n) (ks:=[]) trivial (by kernel_rfl) (by kernel_rfl))) (by decide) (fun _=>rfl) NE hy
noncomputable def froster_CheckWeek_J1 (n:Nat):Qw Ty:=[(234,[(.loop 2,froster_CheckWeek_i1_cut n)])]
theorem ON (n:Nat):La Tryz.prog (froster_CheckWeek_J1 n):=⟨G9 (f:=234) Tryz.func234 rfl (Af (fn:=Tryz.f234) (L:=[(.loop 2,froster_CheckWeek_i1_cut n)]) (ks:=[.loop 2]) ⟨HW n,trivial⟩ (by kernel_rfl) (by kernel_rfl)),trivial⟩
noncomputable def froster_CheckWeek_i2_C (n:Nat):A3 Ty:=[]
theorem NF (n:Nat) (x:C.Ds Ty (Aj BI)):(Az Tryz.prog 19 (Am Tryz.prog (froster_CheckWeek_T n) (froster_CheckWeek_J1 n)) (Ai (froster_CheckWeek_i2_C n)) (Ap 2 Tryz.f235) (Aw BI x)).runK (AI 1 BI Fg (CU n))=CU (n+1) x:=by kernel_rfl
theorem NG (n:Nat):A9 true Tryz.prog 19 (froster_CheckWeek_i2_cut n) (.loop (Ap 2 Tryz.f235)):=AM fun x y hy=>A2 (Fn:=CU) Aa Ab (fun n=>Ad Aa Ab (FJ n) (ON n)) (fun h=>by cases h) (fun h=>by cases h) (fun n=>(Af (fn:=Tryz.f235) (L:=froster_CheckWeek_i2_C n) (ks:=[]) trivial (by kernel_rfl) (by kernel_rfl))) (by decide) (fun _=>rfl) NF hy
noncomputable def froster_CheckWeek_J2 (n:Nat):Qw Ty:=[(234,[(.loop 2,froster_CheckWeek_i1_cut n)]),(235,[(.loop 2,froster_CheckWeek_i2_cut n)])]
theorem OO (n:Nat):La Tryz.prog (froster_CheckWeek_J2 n):=⟨G9 (f:=234) Tryz.func234 rfl (Af (fn:=Tryz.f234) (L:=[(.loop 2,froster_CheckWeek_i1_cut n)]) (ks:=[.loop 2]) ⟨HW n,trivial⟩ (by kernel_rfl) (by kernel_rfl)),⟨G9 (f:=235) Tryz.func235 rfl (Af (fn:=Tryz.f235) (L:=[(.loop 2,froster_CheckWeek_i2_cut n)]) (ks:=[.loop 2]) ⟨NG n,trivial⟩ (by kernel_rfl) (by kernel_rfl)),trivial⟩⟩
noncomputable def froster_CheckWeek_C (n:Nat):A3 Ty:=[]
theorem QI (n:Nat) (x:C.Ds Ty (Aj Ew)):(Az Tryz.prog 52 (Am Tryz.prog (froster_CheckWeek_T n) (froster_CheckWeek_J2 n)) (Ai (froster_CheckWeek_C n)) (An Tryz.f71) (Aw Ew x)).runK (As Tryz.prog Tryz.f71.results.toList 0 Hc)=Ko n x:=by kernel_rfl
theorem EE (n:Nat):Ar Tryz.prog 71 (froster_CheckWeek_law n):=Au Tryz.func71 rfl rfl (by decide) rfl Aa Ab (Ad Aa Ab (FJ n) (OO n)) (Af (fn:=Tryz.f71) (L:=froster_CheckWeek_C n) (ks:=[]) trivial (by kernel_rfl) (by kernel_rfl)) (QI n)
def Ce:List (Nat×C):=[(0,.u 114),(1,.v 3)]
def Eb:List Wo:=[⟨.ret,[.u 114],[],[]⟩,⟨.pan,[.u 114],[],[.i 234 (.g 234)]⟩]
def BJ (n:Nat) (g:Ah) (n_:List Int):Option ((Ah×Unit) ⊕ ((Ah×A8×Unit))) :=
    bif n_.length.beq 5 then((AO n_ 0).bind fun v0 =>
    (n_.get?Internal (Int.toNat 0)).bind fun v1 =>
    bif n_.length.beq 5 then((AO n_ 1).bind fun v2 =>
    (n_.get?Internal (Int.toNat 1)).bind fun v3 =>
    (Eu n g.state.week.drivers (AR.mk [v1] [] [] v3 0 0)).bind fun v4 =>
    (Cw n (AD.mk g.state.week.days g.state.week.duties v4.fst g.state.week.rest g.state.week.run g.state.week.hours)).bind fun v5 =>
    (CL n v5.fst).bind fun v6 =>
    Sum.elim (fun v7=>some (.inl (Ah.mk (A0.mk g.state.cards g.state.outs g.state.runs g.state.records (AD.mk g.state.week.days g.state.week.duties v4.fst g.state.week.rest g.state.week.run g.state.week.hours) g.state.roster),()))) (fun v7=>some (.inr (g,(v7.fst,())))) (v6)) else
    none) else
    none
def Hr (n:Nat) (y:C.Ds Ty (Aj Ce)):Option (YT Ty Eb):=BJ n y.1 y.2.1
noncomputable def fgarage_session_driver_law (n:Nat):AE Ty:=AF Ce 1 Eb (Hr n)
noncomputable def fgarage_session_driver_T (n:Nat):List (Nat×AE Ty):=[(265,fgarage_with_Driver_law n),(71,froster_CheckWeek_law n),(259,fgarage_must_law n)]
theorem Lv (n:Nat):Aq Tryz.prog (fgarage_session_driver_T n):=⟨LK n,⟨EE n,⟨Dd n,trivial⟩⟩⟩
noncomputable def fgarage_session_driver_C (n:Nat):A3 Ty:=[]
theorem LM (n:Nat) (x:C.Ds Ty (Aj Ce)):(Az Tryz.prog 28 (Am Tryz.prog (fgarage_session_driver_T n) []) (Ai (fgarage_session_driver_C n)) (An Tryz.f198) (Aw Ce x)).runK (As Tryz.prog Tryz.f198.results.toList 1 Eb)=Hr n x:=by kernel_rfl
theorem Fx (n:Nat):Ar Tryz.prog 198 (fgarage_session_driver_law n):=Au Tryz.func198 rfl rfl (by decide) rfl Aa Ab (Ad Aa Ab (Lv n) Al) (Af (fn:=Tryz.f198) (L:=fgarage_session_driver_C n) (ks:=[]) trivial (by kernel_rfl) (by kernel_rfl)) (LM n)
def Ey:List (Nat×C):=[(0,.l 184),(1,.g 184)]
def Hd:List Wo:=[⟨.ret,[],[],[.l 184]⟩]
def Gc (n:Nat) (l:List Bu) (x:Bu):Option ((List Bu×Unit)) :=
    (Z2 n l).bind fun v0 =>
    (app v0.fst [x]).bind fun v1 =>
    some (v1,())
def Kp (n:Nat) (y:C.Ds Ty (Aj Ey)):Option (YT Ty Hd):=Gc n y.1 y.2.1
noncomputable def fgarage_with_Duty_law (n:Nat):AE Ty:=AF Ey 0 Hd (Kp n)
noncomputable def fgarage_with_Duty_T (n:Nat):List (Nat×AE Ty):=[(315,clone184_law n)]
theorem PH (n:Nat):Aq Tryz.prog (fgarage_with_Duty_T n):=⟨Z3 n,trivial⟩
noncomputable def fgarage_with_Duty_C (n:Nat):A3 Ty:=[]
theorem QJ (n:Nat) (x:C.Ds Ty (Aj Ey)):(Az Tryz.prog 10 (Am Tryz.prog (fgarage_with_Duty_T n) []) (Ai (fgarage_with_Duty_C n)) (An Tryz.f266) (Aw Ey x)).runK (As Tryz.prog Tryz.f266.results.toList 0 Hd)=Kp n x:=by kernel_rfl
theorem NH (n:Nat):Ar Tryz.prog 266 (fgarage_with_Duty_law n):=Au Tryz.func266 rfl rfl (by decide) rfl Aa Ab (Ad Aa Ab (PH n) Al) (Af (fn:=Tryz.f266) (L:=fgarage_with_Duty_C n) (ks:=[]) trivial (by kernel_rfl) (by kernel_rfl)) (QJ n)
def Fh:List (Nat×C):=[(0,.l 3),(1,.s 3)]
def HK:List Wo:=[⟨.ret,[],[],[.l 3]⟩]
def GH (n:Nat) (l:List Int) (x:Int):Option ((List Int×Unit)) :=
    (SH n l).bind fun v0 =>
    (app v0.fst [x]).bind fun v1 =>
    some (v1,())
def Lw (n:Nat) (y:C.Ds Ty (Aj Fh)):Option (YT Ty HK):=GH n y.1 y.2.1
noncomputable def fgarage_with_int_law (n:Nat):AE Ty:=AF Fh 0 HK (Lw n)
noncomputable def fgarage_with_int_T (n:Nat):List (Nat×AE Ty):=[(268,clone3_law n)]
theorem QK (n:Nat):Aq Tryz.prog (fgarage_with_int_T n):=⟨Uj n,trivial⟩
noncomputable def fgarage_with_int_C (n:Nat):A3 Ty:=[]
theorem RO (n:Nat) (x:C.Ds Ty (Aj Fh)):(Az Tryz.prog 10 (Am Tryz.prog (fgarage_with_int_T n) []) (Ai (fgarage_with_int_C n)) (An Tryz.f267) (Aw Fh x)).runK (As Tryz.prog Tryz.f267.results.toList 0 HK)=Lw n x:=by kernel_rfl
theorem OP (n:Nat):Ar Tryz.prog 267 (fgarage_with_int_law n):=Au Tryz.func267 rfl rfl (by decide) rfl Aa Ab (Ad Aa Ab (QK n) Al) (Af (fn:=Tryz.f267) (L:=fgarage_with_int_C n) (ks:=[]) trivial (by kernel_rfl) (by kernel_rfl)) (RO n)
def CV:List (Nat×C):=[(0,.u 114),(1,.v 3)]
def Fi:List Wo:=[⟨.ret,[.u 114],[],[]⟩,⟨.pan,[.u 114],[],[.i 234 (.g 234)]⟩]
def Co (n:Nat) (g:Ah) (n_:List Int):Option ((Ah×Unit) ⊕ ((Ah×A8×Unit))) :=
    bif n_.length.beq 5 then((AO n_ 0).bind fun v0 =>
    (n_.get?Internal (Int.toNat 0)).bind fun v1 =>
    bif n_.length.beq 5 then((AO n_ 1).bind fun v2 =>
    (n_.get?Internal (Int.toNat 1)).bind fun v3 =>
    bif n_.length.beq 5 then((AO n_ 2).bind fun v4 =>
    (n_.get?Internal (Int.toNat 2)).bind fun v5 =>
    bif n_.length.beq 5 then((AO n_ 3).bind fun v6 =>
    (n_.get?Internal (Int.toNat 3)).bind fun v7 =>
    bif n_.length.beq 5 then((AO n_ 4).bind fun v8 =>
    (n_.get?Internal (Int.toNat 4)).bind fun v9 =>
    (Gc n g.state.week.duties (Bu.mk v1 v3 (Rg.mk v5 v7) v9)).bind fun v10 =>
    (Cw n (AD.mk g.state.week.days v10.fst g.state.week.drivers g.state.week.rest g.state.week.run g.state.week.hours)).bind fun v11 =>
    (CL n v11.fst).bind fun v12 =>
    Sum.elim (fun v13=>(GH n g.state.roster (-1)).bind fun v14 =>
    some (.inl (Ah.mk (A0.mk g.state.cards g.state.outs g.state.runs g.state.records (AD.mk g.state.week.days v10.fst g.state.week.drivers g.state.week.rest g.state.week.run g.state.week.hours) v14.fst),()))) (fun v13=>some (.inr (g,(v13.fst,())))) (v12)) else
    none) else
    none) else
    none) else
    none) else
    none
def IB (n:Nat) (y:C.Ds Ty (Aj CV)):Option (YT Ty Fi):=Co n y.1 y.2.1
noncomputable def fgarage_session_duty_law (n:Nat):AE Ty:=AF CV 1 Fi (IB n)
noncomputable def fgarage_session_duty_T (n:Nat):List (Nat×AE Ty):=[(266,fgarage_with_Duty_law n),(71,froster_CheckWeek_law n),(259,fgarage_must_law n),(267,fgarage_with_int_law n)]
theorem MR (n:Nat):Aq Tryz.prog (fgarage_session_duty_T n):=⟨NH n,⟨EE n,⟨Dd n,⟨OP n,trivial⟩⟩⟩⟩
noncomputable def fgarage_session_duty_C (n:Nat):A3 Ty:=[]
theorem NI (n:Nat) (x:C.Ds Ty (Aj CV)):(Az Tryz.prog 44 (Am Tryz.prog (fgarage_session_duty_T n) []) (Ai (fgarage_session_duty_C n)) (An Tryz.f199) (Aw CV x)).runK (As Tryz.prog Tryz.f199.results.toList 1 Fi)=IB n x:=by kernel_rfl
theorem Gw (n:Nat):Ar Tryz.prog 199 (fgarage_session_duty_law n):=Au Tryz.func199 rfl rfl (by decide) rfl Aa Ab (Ad Aa Ab (MR n) Al) (Af (fn:=Tryz.f199) (L:=fgarage_session_duty_C n) (ks:=[]) trivial (by kernel_rfl) (by kernel_rfl)) (NI n)
def By:List (Nat×C):=[(0,.l 3),(1,.f 174 [] [.p [.f 120 [] [.u 32]]]),(7,.s 3),(8,.s 3)]
def Ec:List Wo:=[⟨.exit 0,[.p [.f 120 [] [.u 32]],.q 1],[],[]⟩,⟨.ret,[.p [.f 120 [] [.u 32]],.q 1],[(4,.s 3)],[]⟩]
def Dv:List (Nat×C):=[(0,.g 32),(1,.l 3)]
def FK:List Wo:=[⟨.ret,[],[],[.s 4]⟩]
def AW:Nat→(List Int)→AD→Int→Int→Option ((((Unit×(AD×Unit))×Unit)×Unit×Unit) ⊕ ((((Unit×(AD×Unit))×Unit)×Unit×Int×Unit)))
  | 0,_,_,_,_=>none
  | n+1,s,f,x7,x8 =>
    bif decide (x8<x7) then((AO s x8).bind fun v0 =>
    bif decide (-1≤v0) then(bif !decide (v0≤IntKind.i64.wrap ((↑f.drivers.length:Int)-1)) then(some (.inr ((((),(f,())),()),((),(x8,()))))) else
    AW n s f x7 (IntKind.i64.wrap (x8+1))) else
    some (.inr ((((),(f,())),()),((),(x8,()))))) else
    some (.inl ((((),(f,())),()),((),())))
def Cf (n:Nat) (y:C.Ds Ty (Aj By)):Option (YT Ty Ec):=AW n y.1 y.2.1.2.1.1.2.1 y.2.2.1 y.2.2.2.1
noncomputable def froster_Week_roster_i1_cut (n:Nat):St Ty→Tr (Lf Ty):=CK By 2 Ec (Cf n)
def Ez (n:Nat) (w:AD) (l:List Int):Option ((Bool×Unit)) :=
    bif decide ((↑l.length:Int)=(↑w.duties.length:Int)) then((AW n l w (↑l.length:Int) 0).bind fun v0 =>
    Sum.elim (fun v1=>some (!decide (-1≥0),())) (fun v1=>some (!decide (v1.snd.snd.fst≥0),())) (v0)) else
    some (false,())
def Jf (n:Nat) (y:C.Ds Ty (Aj Dv)):Option (YT Ty FK):=Ez n y.1 y.2.1
noncomputable def froster_Week_roster_law (n:Nat):AE Ty:=IZ (AF Dv 0 FK (Jf n))
noncomputable def froster_Week_roster_T (n:Nat):List (Nat×AE Ty):=[]
theorem HX (n:Nat):Aq Tryz.prog (froster_Week_roster_T n):=trivial
noncomputable def froster_Week_roster_i1_C (n:Nat):A3 Ty:=[]
theorem LN (n:Nat) (x:C.Ds Ty (Aj By)):(Az Tryz.prog 19 (Am Tryz.prog (froster_Week_roster_T n) []) (Ai (froster_Week_roster_i1_C n)) (Ap 2 Tryz.f236) (Aw By x)).runK (AI 2 By Ec (Cf n))=Cf (n+1) x:=by kernel_rfl
theorem LO (n:Nat):A9 true Tryz.prog 19 (froster_Week_roster_i1_cut n) (.loop (Ap 2 Tryz.f236)):=AM fun x y hy=>A2 (Fn:=Cf) Aa Ab (fun n=>Ad Aa Ab (HX n) Al) (fun h=>by cases h) (fun h=>by cases h) (fun n=>(Af (fn:=Tryz.f236) (L:=froster_Week_roster_i1_C n) (ks:=[]) trivial (by kernel_rfl) (by kernel_rfl))) (by decide) (fun _=>rfl) LN hy
noncomputable def froster_Week_roster_J1 (n:Nat):Qw Ty:=[(236,[(.loop 2,froster_Week_roster_i1_cut n)])]
theorem MS (n:Nat):La Tryz.prog (froster_Week_roster_J1 n):=⟨G9 (f:=236) Tryz.func236 rfl (Af (fn:=Tryz.f236) (L:=[(.loop 2,froster_Week_roster_i1_cut n)]) (ks:=[.loop 2]) ⟨LO n,trivial⟩ (by kernel_rfl) (by kernel_rfl)),trivial⟩
noncomputable def froster_Week_roster_C (n:Nat):A3 Ty:=[]
theorem OQ (n:Nat) (x:C.Ds Ty (Aj Dv)):(Az Tryz.prog 16 (Am Tryz.prog (froster_Week_roster_T n) (froster_Week_roster_J1 n)) (Ai (froster_Week_roster_C n)) (An Tryz.f72) (Aw Dv x)).runK (As Tryz.prog Tryz.f72.results.toList 0 FK)=Jf n x:=by kernel_rfl
theorem LP (n:Nat):Ar Tryz.prog 72 (froster_Week_roster_law n):=C6 (Au Tryz.func72 rfl rfl (by decide) rfl Aa Ab (Ad Aa Ab (HX n) (MS n)) (Af (fn:=Tryz.f72) (L:=froster_Week_roster_C n) (ks:=[]) trivial (by kernel_rfl) (by kernel_rfl)) (OQ n))
def BK:List (Nat×C):=[(2,.o 3),(6,.l 184),(7,.s 3),(8,.s 3)]
def Fj:List Wo:=[⟨.exit 0,[],[(2,.o 3)],[]⟩]
def E0:List (Nat×C):=[(0,.g 32)]
def He:List Wo:=[⟨.ret,[],[],[.l 3]⟩]
def Cp:Nat→(List Int)→(List Bu)→Int→Int→Option ((List Int×Unit))
  | 0,_,_,_,_=>none
  | n+1,out,x6,x7,x8 =>
    bif decide (x8<x7) then((AO x6 x8).bind fun v0 =>
    (app out [v0.off.hi]).bind fun v1 =>
    Cp n v1 x6 x7 (IntKind.i64.wrap (x8+1))) else
    some (out,())
def CW (n:Nat) (y:C.Ds Ty (Aj BK)):Option (YT Ty Fj):=Cp n y.1 y.2.1 y.2.2.1 y.2.2.2.1
noncomputable def froster_Week_ends_l1_cut (n:Nat):St Ty→Tr (Lf Ty):=CK BK 0 Fj (CW n)
def Gd (n:Nat) (w:AD):Option ((List Int×Unit)) :=
    (Cp n [] w.duties (↑w.duties.length:Int) 0).bind fun v0 =>
    some (v0.fst,())
def Kq (n:Nat) (y:C.Ds Ty (Aj E0)):Option (YT Ty He):=Gd n y.1
noncomputable def froster_Week_ends_law (n:Nat):AE Ty:=AF E0 0 He (Kq n)
noncomputable def froster_Week_ends_T (n:Nat):List (Nat×AE Ty):=[]
theorem Jg (n:Nat):Aq Tryz.prog (froster_Week_ends_T n):=trivial
noncomputable def froster_Week_ends_l1_C (n:Nat):A3 Ty:=[]
theorem NJ (n:Nat) (x:C.Ds Ty (Aj BK)):(Az Tryz.prog 20 (Am Tryz.prog (froster_Week_ends_T n) []) (Ai (froster_Week_ends_l1_C n)) (Ap 2 Tryz.f122) (Aw BK x)).runK (AI 0 BK Fj (CW n))=CW (n+1) x:=by kernel_rfl
theorem NK (n:Nat):A9 true Tryz.prog 20 (froster_Week_ends_l1_cut n) (.loop (Ap 2 Tryz.f122)):=AM fun x y hy=>A2 (Fn:=CW) Aa Ab (fun n=>Ad Aa Ab (Jg n) Al) (fun h=>by cases h) (fun h=>by cases h) (fun n=>(Af (fn:=Tryz.f122) (L:=froster_Week_ends_l1_C n) (ks:=[]) trivial (by kernel_rfl) (by kernel_rfl))) (by decide) (fun _=>rfl) NJ hy
noncomputable def froster_Week_ends_C (n:Nat):A3 Ty:=[(.loop 2,froster_Week_ends_l1_cut n)]
theorem QL (n:Nat) (x:C.Ds Ty (Aj E0)):(Az Tryz.prog 20 (Am Tryz.prog (froster_Week_ends_T n) []) (Ai (froster_Week_ends_C n)) (An Tryz.f122) (Aw E0 x)).runK (As Tryz.prog Tryz.f122.results.toList 0 He)=Kq n x:=by kernel_rfl
theorem NL (n:Nat):Ar Tryz.prog 122 (froster_Week_ends_law n):=Au Tryz.func122 rfl rfl (by decide) rfl Aa Ab (Ad Aa Ab (Jg n) Al) (Af (fn:=Tryz.f122) (L:=froster_Week_ends_C n) (ks:=[.loop 2]) ⟨NK n,trivial⟩ (by kernel_rfl) (by kernel_rfl)) (QL n)
def Bz:List (Nat×C):=[(2,.a 267),(6,.l 186),(7,.s 3),(8,.s 3)]
def Ed:List Wo:=[⟨.exit 0,[.a 267],[(2,.q 0)],[]⟩]
def Dw:List (Nat×C):=[(0,.g 32)]
def FL:List Wo:=[⟨.ret,[],[],[.v 267]⟩]
def BL:Nat→(List At)→(List AR)→Int→Int→Option ((List At×Unit×Unit))
  | 0,_,_,_,_=>none
  | n+1,out,x6,x7,x8 =>
    bif decide (x8<x7) then((AO x6 x8).bind fun v0 =>
    bif out.length.beq 6 then((AO out x8).bind fun v1 =>
    (out.get?Internal x8.toNat).bind fun v2 =>
    BL n (out.set x8.toNat (At.mk v0.off v0.row v0.used (-1))) x6 x7 (IntKind.i64.wrap (x8+1))) else
    none) else
    some (out,((),()))
def Cg (n:Nat) (y:C.Ds Ty (Aj Bz)):Option (YT Ty Ed):=BL n y.1 y.2.1 y.2.2.1 y.2.2.2.1
noncomputable def froster_Week_before_l1_cut (n:Nat):St Ty→Tr (Lf Ty):=CK Bz 1 Ed (Cg n)
def E1 (n:Nat) (w:AD):Option ((List At×Unit)) :=
    (BL n [At.mk 0 0 0 0,At.mk 0 0 0 0,At.mk 0 0 0 0,At.mk 0 0 0 0,At.mk 0 0 0 0,At.mk 0 0 0 0] w.drivers (↑w.drivers.length:Int) 0).bind fun v0 =>
    bif v0.fst.length.beq 6 then(bif v0.fst.length.beq 6 && v0.fst.length.beq 6 then(bif v0.fst.length.beq 6 then(some (v0.fst,())) else
    none) else
    none) else
    none
def Jh (n:Nat) (y:C.Ds Ty (Aj Dw)):Option (YT Ty FL):=E1 n y.1
noncomputable def froster_Week_before_law (n:Nat):AE Ty:=AF Dw 0 FL (Jh n)
noncomputable def froster_Week_before_T (n:Nat):List (Nat×AE Ty):=[]
theorem HY (n:Nat):Aq Tryz.prog (froster_Week_before_T n):=trivial
noncomputable def froster_Week_before_l1_C (n:Nat):A3 Ty:=[]
theorem LQ (n:Nat) (x:C.Ds Ty (Aj Bz)):(Az Tryz.prog 24 (Am Tryz.prog (froster_Week_before_T n) []) (Ai (froster_Week_before_l1_C n)) (Ap 2 Tryz.f175) (Aw Bz x)).runK (AI 1 Bz Ed (Cg n))=Cg (n+1) x:=by kernel_rfl
theorem LR (n:Nat):A9 true Tryz.prog 24 (froster_Week_before_l1_cut n) (.loop (Ap 2 Tryz.f175)):=AM fun x y hy=>A2 (Fn:=Cg) Aa Ab (fun n=>Ad Aa Ab (HY n) Al) (fun h=>by cases h) (fun h=>by cases h) (fun n=>(Af (fn:=Tryz.f175) (L:=froster_Week_before_l1_C n) (ks:=[]) trivial (by kernel_rfl) (by kernel_rfl))) (by decide) (fun _=>rfl) LQ hy
noncomputable def froster_Week_before_C (n:Nat):A3 Ty:=[(.loop 2,froster_Week_before_l1_cut n)]
theorem OR (n:Nat) (x:C.Ds Ty (Aj Dw)):(Az Tryz.prog 24 (Am Tryz.prog (froster_Week_before_T n) []) (Ai (froster_Week_before_C n)) (An Tryz.f175) (Aw Dw x)).runK (As Tryz.prog Tryz.f175.results.toList 0 FL)=Jh n x:=by kernel_rfl
theorem LS (n:Nat):Ar Tryz.prog 175 (froster_Week_before_law n):=Au Tryz.func175 rfl rfl (by decide) rfl Aa Ab (Ad Aa Ab (HY n) Al) (Af (fn:=Tryz.f175) (L:=froster_Week_before_C n) (ks:=[.loop 2]) ⟨LR n,trivial⟩ (by kernel_rfl) (by kernel_rfl)) (OR n)
def B9:List (Nat×C):=[(0,.l 3),(1,.s 3),(7,.s 3),(8,.s 3)]
def EF:List Wo:=[⟨.exit 0,[],[],[]⟩,⟨.ret,[],[(4,.s 3)],[]⟩]
def DL:List (Nat×C):=[(0,.g 32),(1,.s 3),(2,.g 184),(3,.g 267)]
def Gx:List Wo:=[⟨.ret,[],[],[.s 4]⟩]
def FM:Nat→(List Int)→Int→Int→Int→Option (Unit ⊕ ((Int×Unit)))
  | 0,_,_,_,_=>none
  | n+1,s,v,x7,x8 =>
    bif decide (x8<x7) then((AO s x8).bind fun v0 =>
    bif decide (v=v0) then(some (.inr (x8,()))) else
    FM n s v x7 (IntKind.i64.wrap (x8+1))) else
    some (.inl ())
def Cx (n:Nat) (y:C.Ds Ty (Aj B9)):Option (YT Ty EF):=FM n y.1 y.2.1 y.2.2.1 y.2.2.2.1
noncomputable def froster_Week_knows_i1_cut (n:Nat):St Ty→Tr (Lf Ty):=CK B9 0 EF (Cx n)
def Di (n:Nat) (w:AD) (driver:Int) (d:Bu) (_:At):Option ((Bool×Unit)) :=
    (AO w.drivers driver).bind fun v0 =>
    (FM n v0.knows d.route (↑v0.knows.length:Int) 0).bind fun v1 =>
    Sum.elim (fun v2=>some (decide (-1≥0),())) (fun v2=>some (decide (v2.fst≥0),())) (v1)
def JJ (n:Nat) (y:C.Ds Ty (Aj DL)):Option (YT Ty Gx):=Di n y.1 y.2.1 y.2.2.1 y.2.2.2.1
noncomputable def froster_Week_knows_law (n:Nat):AE Ty:=AF DL 0 Gx (JJ n)
noncomputable def froster_Week_knows_T (n:Nat):List (Nat×AE Ty):=[]
theorem IC (n:Nat):Aq Tryz.prog (froster_Week_knows_T n):=trivial
noncomputable def froster_Week_knows_i1_C (n:Nat):A3 Ty:=[]
theorem MT (n:Nat) (x:C.Ds Ty (Aj B9)):(Az Tryz.prog 19 (Am Tryz.prog (froster_Week_knows_T n) []) (Ai (froster_Week_knows_i1_C n)) (Ap 2 Tryz.f332) (Aw B9 x)).runK (AI 0 B9 EF (Cx n))=Cx (n+1) x:=by kernel_rfl
theorem MU (n:Nat):A9 true Tryz.prog 19 (froster_Week_knows_i1_cut n) (.loop (Ap 2 Tryz.f332)):=AM fun x y hy=>A2 (Fn:=Cx) Aa Ab (fun n=>Ad Aa Ab (IC n) Al) (fun h=>by cases h) (fun h=>by cases h) (fun n=>(Af (fn:=Tryz.f332) (L:=froster_Week_knows_i1_C n) (ks:=[]) trivial (by kernel_rfl) (by kernel_rfl))) (by decide) (fun _=>rfl) MT hy
noncomputable def froster_Week_knows_J1 (n:Nat):Qw Ty:=[(332,[(.loop 2,froster_Week_knows_i1_cut n)])]
theorem NM (n:Nat):La Tryz.prog (froster_Week_knows_J1 n):=⟨G9 (f:=332) Tryz.func332 rfl (Af (fn:=Tryz.f332) (L:=[(.loop 2,froster_Week_knows_i1_cut n)]) (ks:=[.loop 2]) ⟨MU n,trivial⟩ (by kernel_rfl) (by kernel_rfl)),trivial⟩
noncomputable def froster_Week_knows_C (n:Nat):A3 Ty:=[]
theorem PI (n:Nat) (x:C.Ds Ty (Aj DL)):(Az Tryz.prog 18 (Am Tryz.prog (froster_Week_knows_T n) (froster_Week_knows_J1 n)) (Ai (froster_Week_knows_C n)) (An Tryz.f238) (Aw DL x)).runK (As Tryz.prog Tryz.f238.results.toList 0 Gx)=JJ n x:=by kernel_rfl
theorem MV (n:Nat):Ar Tryz.prog 238 (froster_Week_knows_law n):=Au Tryz.func238 rfl rfl (by decide) rfl Aa Ab (Ad Aa Ab (IC n) (NM n)) (Af (fn:=Tryz.f238) (L:=froster_Week_knows_C n) (ks:=[]) trivial (by kernel_rfl) (by kernel_rfl)) (PI n)
def BM:List (Nat×C):=[(0,.l 3),(1,.s 3),(7,.s 3),(8,.s 3)]
def Fk:List Wo:=[⟨.exit 0,[],[],[]⟩,⟨.ret,[],[(4,.s 3)],[]⟩]
def E2:List (Nat×C):=[(0,.g 32),(1,.s 3),(2,.g 184),(3,.g 267)]
def Hf:List Wo:=[⟨.ret,[],[],[.s 4]⟩]
def Gy:Nat→(List Int)→Int→Int→Int→Option (Unit ⊕ ((Int×Unit)))
  | 0,_,_,_,_=>none
  | n+1,s,v,x7,x8 =>
    bif decide (x8<x7) then((AO s x8).bind fun v0 =>
    bif decide (v=v0) then(some (.inr (x8,()))) else
    Gy n s v x7 (IntKind.i64.wrap (x8+1))) else
    some (.inl ())
def CX (n:Nat) (y:C.Ds Ty (Aj BM)):Option (YT Ty Fk):=Gy n y.1 y.2.1 y.2.2.1 y.2.2.2.1
noncomputable def froster_Week_here_i1_cut (n:Nat):St Ty→Tr (Lf Ty):=CK BM 0 Fk (CX n)
def DM (n:Nat) (w:AD) (driver:Int) (d:Bu) (_:At):Option ((Bool×Unit)) :=
    (AO w.drivers driver).bind fun v0 =>
    (Gy n v0.leave d.day (↑v0.leave.length:Int) 0).bind fun v1 =>
    Sum.elim (fun v2=>some (!decide (-1≥0),())) (fun v2=>some (!decide (v2.fst≥0),())) (v1)
def Kr (n:Nat) (y:C.Ds Ty (Aj E2)):Option (YT Ty Hf):=DM n y.1 y.2.1 y.2.2.1 y.2.2.2.1
noncomputable def froster_Week_here_law (n:Nat):AE Ty:=AF E2 0 Hf (Kr n)
noncomputable def froster_Week_here_T (n:Nat):List (Nat×AE Ty):=[]
theorem Ji (n:Nat):Aq Tryz.prog (froster_Week_here_T n):=trivial
noncomputable def froster_Week_here_i1_C (n:Nat):A3 Ty:=[]
theorem NN (n:Nat) (x:C.Ds Ty (Aj BM)):(Az Tryz.prog 19 (Am Tryz.prog (froster_Week_here_T n) []) (Ai (froster_Week_here_i1_C n)) (Ap 2 Tryz.f332) (Aw BM x)).runK (AI 0 BM Fk (CX n))=CX (n+1) x:=by kernel_rfl
theorem NO (n:Nat):A9 true Tryz.prog 19 (froster_Week_here_i1_cut n) (.loop (Ap 2 Tryz.f332)):=AM fun x y hy=>A2 (Fn:=CX) Aa Ab (fun n=>Ad Aa Ab (Ji n) Al) (fun h=>by cases h) (fun h=>by cases h) (fun n=>(Af (fn:=Tryz.f332) (L:=froster_Week_here_i1_C n) (ks:=[]) trivial (by kernel_rfl) (by kernel_rfl))) (by decide) (fun _=>rfl) NN hy
noncomputable def froster_Week_here_J1 (n:Nat):Qw Ty:=[(332,[(.loop 2,froster_Week_here_i1_cut n)])]
theorem OS (n:Nat):La Tryz.prog (froster_Week_here_J1 n):=⟨G9 (f:=332) Tryz.func332 rfl (Af (fn:=Tryz.f332) (L:=[(.loop 2,froster_Week_here_i1_cut n)]) (ks:=[.loop 2]) ⟨NO n,trivial⟩ (by kernel_rfl) (by kernel_rfl)),trivial⟩
noncomputable def froster_Week_here_C (n:Nat):A3 Ty:=[]
theorem QM (n:Nat) (x:C.Ds Ty (Aj E2)):(Az Tryz.prog 19 (Am Tryz.prog (froster_Week_here_T n) (froster_Week_here_J1 n)) (Ai (froster_Week_here_C n)) (An Tryz.f239) (Aw E2 x)).runK (As Tryz.prog Tryz.f239.results.toList 0 Hf)=Kr n x:=by kernel_rfl
theorem NP (n:Nat):Ar Tryz.prog 239 (froster_Week_here_law n):=Au Tryz.func239 rfl rfl (by decide) rfl Aa Ab (Ad Aa Ab (Ji n) (OS n)) (Af (fn:=Tryz.f239) (L:=froster_Week_here_C n) (ks:=[]) trivial (by kernel_rfl) (by kernel_rfl)) (QM n)
def Dx:List (Nat×C):=[(0,.g 32),(1,.s 3),(2,.g 184),(3,.g 267)]
def FN:List Wo:=[⟨.ret,[],[],[.s 4]⟩]
def E3 (n:Nat) (w:AD) (_:Int) (d:Bu) (s:At):Option ((Bool×Unit)) :=
    some (s.day != d.day,())
def Jj (n:Nat) (y:C.Ds Ty (Aj Dx)):Option (YT Ty FN):=E3 n y.1 y.2.1 y.2.2.1 y.2.2.2.1
noncomputable def froster_Week_single_law (n:Nat):AE Ty:=AF Dx 0 FN (Jj n)
noncomputable def froster_Week_single_T (n:Nat):List (Nat×AE Ty):=[]
theorem NQ (n:Nat):Aq Tryz.prog (froster_Week_single_T n):=trivial
noncomputable def froster_Week_single_C (n:Nat):A3 Ty:=[]
theorem OT (n:Nat) (x:C.Ds Ty (Aj Dx)):(Az Tryz.prog 14 (Am Tryz.prog (froster_Week_single_T n) []) (Ai (froster_Week_single_C n)) (An Tryz.f240) (Aw Dx x)).runK (As Tryz.prog Tryz.f240.results.toList 0 FN)=Jj n x:=by kernel_rfl
theorem LU (n:Nat):Ar Tryz.prog 240 (froster_Week_single_law n):=Au Tryz.func240 rfl rfl (by decide) rfl Aa Ab (Ad Aa Ab (NQ n) Al) (Af (fn:=Tryz.f240) (L:=froster_Week_single_C n) (ks:=[]) trivial (by kernel_rfl) (by kernel_rfl)) (OT n)
def Dy:List (Nat×C):=[(0,.g 32),(1,.s 3),(2,.g 184),(3,.g 267)]
def FO:List Wo:=[⟨.ret,[],[],[.s 4]⟩]
def CD (n:Nat) (w:AD) (_:Int) (d:Bu) (s:At):Option ((Bool×Unit)) :=
    bif !decide (s.day=d.day) then(some (decide (IntKind.i64.wrap (IntKind.i64.wrap (IntKind.i64.wrap (d.day*1440)+d.on)-s.free)≥w.rest),())) else
    some (true,())
def Jk (n:Nat) (y:C.Ds Ty (Aj Dy)):Option (YT Ty FO):=CD n y.1 y.2.1 y.2.2.1 y.2.2.2.1
noncomputable def froster_Week_rested_law (n:Nat):AE Ty:=AF Dy 0 FO (Jk n)
noncomputable def froster_Week_rested_T (n:Nat):List (Nat×AE Ty):=[]
theorem NR (n:Nat):Aq Tryz.prog (froster_Week_rested_T n):=trivial
noncomputable def froster_Week_rested_C (n:Nat):A3 Ty:=[]
theorem OU (n:Nat) (x:C.Ds Ty (Aj Dy)):(Az Tryz.prog 28 (Am Tryz.prog (froster_Week_rested_T n) []) (Ai (froster_Week_rested_C n)) (An Tryz.f241) (Aw Dy x)).runK (As Tryz.prog Tryz.f241.results.toList 0 FO)=Jk n x:=by kernel_rfl
theorem LV (n:Nat):Ar Tryz.prog 241 (froster_Week_rested_law n):=Au Tryz.func241 rfl rfl (by decide) rfl Aa Ab (Ad Aa Ab (NR n) Al) (Af (fn:=Tryz.f241) (L:=froster_Week_rested_C n) (ks:=[]) trivial (by kernel_rfl) (by kernel_rfl)) (OU n)
def DN:List (Nat×C):=[(0,.g 267),(1,.g 184),(2,.s 3)]
def Gz:List Wo:=[⟨.ret,[],[],[.g 267]⟩]
def Dj (n:Nat) (s:At) (d:Bu) (end_:Int):Option ((At×Unit)) :=
    bif decide (s.day=d.day) then(some (At.mk s.free s.row (IntKind.i64.wrap (s.used+IntKind.i64.wrap (end_-d.on))) s.day,())) else
    bif s.day != IntKind.i64.wrap (d.day-1) then(some (At.mk (IntKind.i64.wrap (IntKind.i64.wrap (d.day*1440)+end_)) (IntKind.i64.wrap (0+1)) (IntKind.i64.wrap (s.used+IntKind.i64.wrap (end_-d.on))) d.day,())) else
    some (At.mk (IntKind.i64.wrap (IntKind.i64.wrap (d.day*1440)+end_)) (IntKind.i64.wrap (s.row+1)) (IntKind.i64.wrap (s.used+IntKind.i64.wrap (end_-d.on))) d.day,())
def JK (n:Nat) (y:C.Ds Ty (Aj DN)):Option (YT Ty Gz):=Dj n y.1 y.2.1 y.2.2.1
noncomputable def froster_stand_take_law (n:Nat):AE Ty:=AF DN 0 Gz (JK n)
noncomputable def froster_stand_take_T (n:Nat):List (Nat×AE Ty):=[]
theorem OV (n:Nat):Aq Tryz.prog (froster_stand_take_T n):=trivial
noncomputable def froster_stand_take_C (n:Nat):A3 Ty:=[]
theorem PJ (n:Nat) (x:C.Ds Ty (Aj DN)):(Az Tryz.prog 42 (Am Tryz.prog (froster_stand_take_T n) []) (Ai (froster_stand_take_C n)) (An Tryz.f178) (Aw DN x)).runK (As Tryz.prog Tryz.f178.results.toList 0 Gz)=JK n x:=by kernel_rfl
theorem Hs (n:Nat):Ar Tryz.prog 178 (froster_stand_take_law n):=Au Tryz.func178 rfl rfl (by decide) rfl Aa Ab (Ad Aa Ab (OV n) Al) (Af (fn:=Tryz.f178) (L:=froster_stand_take_C n) (ks:=[]) trivial (by kernel_rfl) (by kernel_rfl)) (PJ n)
def DO:List (Nat×C):=[(0,.g 32),(1,.s 3),(2,.g 184),(3,.g 267)]
def G0:List Wo:=[⟨.ret,[],[],[.s 4]⟩]
def Dk (n:Nat) (w:AD) (_:Int) (d:Bu) (s:At):Option ((Bool×Unit)) :=
    bif !decide (s.day=d.day) then((Dj n s d d.on).bind fun v0 =>
    some (decide (v0.fst.row≤w.run),())) else
    some (true,())
def JL (n:Nat) (y:C.Ds Ty (Aj DO)):Option (YT Ty G0):=Dk n y.1 y.2.1 y.2.2.1 y.2.2.2.1
noncomputable def froster_Week_fresh_law (n:Nat):AE Ty:=AF DO 0 G0 (JL n)
noncomputable def froster_Week_fresh_T (n:Nat):List (Nat×AE Ty):=[(178,froster_stand_take_law n)]
theorem OW (n:Nat):Aq Tryz.prog (froster_Week_fresh_T n):=⟨Hs n,trivial⟩
noncomputable def froster_Week_fresh_C (n:Nat):A3 Ty:=[]
theorem PK (n:Nat) (x:C.Ds Ty (Aj DO)):(Az Tryz.prog 25 (Am Tryz.prog (froster_Week_fresh_T n) []) (Ai (froster_Week_fresh_C n)) (An Tryz.f242) (Aw DO x)).runK (As Tryz.prog Tryz.f242.results.toList 0 G0)=JL n x:=by kernel_rfl
theorem MW (n:Nat):Ar Tryz.prog 242 (froster_Week_fresh_law n):=Au Tryz.func242 rfl rfl (by decide) rfl Aa Ab (Ad Aa Ab (OW n) Al) (Af (fn:=Tryz.f242) (L:=froster_Week_fresh_C n) (ks:=[]) trivial (by kernel_rfl) (by kernel_rfl)) (PK n)
def B0:List (Nat×C):=[(3,.u 32),(5,.p [.l 3]),(6,.p [.o 280]),(7,.a 267),(9,.s 3),(10,.u 184),(11,.s 3),(33,.o 278),(34,.s 3),(35,.s 3)]
def Ee:List Wo:=[⟨.exit 4,[.u 32,.p [.l 3],.p [.o 280],.a 267,.u 184],[(5,.q 1),(7,.q 3),(9,.s 3),(10,.q 4),(11,.s 3)],[]⟩]
def B1:List (Nat×C):=[(0,.y 0 121 [3,4,5,6,7] [.u 32,.p [.l 3],.p [.l 3],.p [.o 280],.a 267]),(2,.p [.s 3]),(7,.l 184),(8,.s 3),(9,.s 3)]
def Ef:List Wo:=[⟨.exit 0,[.y 0 121 [3,4,5,6,7] [.u 32,.p [.l 3],.p [.l 3],.p [.o 280],.a 267],.q 1,.q 2,.q 3,.q 4,.q 5,.p [.s 3]],[],[]⟩,⟨.ret,[.y 0 121 [3,4,5,6,7] [.u 32,.p [.l 3],.p [.l 3],.p [.o 280],.a 267],.q 1,.q 2,.q 3,.q 4,.q 5,.p [.s 3]],[],[]⟩]
def B2:List (Nat×C):=[(3,.u 32),(4,.p [.l 3]),(5,.p [.l 3]),(6,.p [.o 280]),(7,.a 267),(18,.s 3),(19,.s 3)]
def Eg:List Wo:=[⟨.exit 0,[.u 32,.p [.l 3],.p [.l 3],.p [.o 280],.a 267],[(3,.q 0),(6,.q 3),(7,.q 4)],[]⟩]
def B3:List (Nat×C):=[(3,.u 32),(6,.p [.o 280]),(7,.a 267),(72,.s 3),(73,.s 3)]
def Eh:List Wo:=[⟨.exit 6,[.u 32,.p [.o 280],.a 267],[(6,.q 1)],[]⟩]
def Dz:List (Nat×C):=[(0,.g 32),(1,.l 3),(2,.l 3)]
def FP:List Wo:=[⟨.ret,[],[],[.o 280]⟩]
def Ae:Nat→AD→(List Int)→(List Av)→(List At)→Int→Bu→Int→(List AQ)→Int→Int→Option ((AD×(List Int×Unit)×(List Av×Unit)×List At×Bu×Unit×Unit×Int×Unit×Int×Unit))
  | 0,_,_,_,_,_,_,_,_,_,_=>none
  | n+1,w,truth,out,now,i,d,k,x33,x34,x35 =>
    bif decide (x35<x34) then((AO x33 x35).bind fun v0 =>
    (x33.get?Internal x35.toNat).bind fun v1 =>
    bif now.length.beq 6 then((AO now k).bind fun v2 =>
    (now.get?Internal k.toNat).bind fun v3 =>
    bif decide (v1.holds.f=(↑238:Int)) then((Di n w k d v3).bind fun v4 =>
    bif !v4.fst then((app out [Av.mk v1.kind k i]).bind fun v5 =>
    Ae n w truth v5 now i d k x33 x34 (IntKind.i64.wrap (x35+1))) else
    Ae n w truth out now i d k x33 x34 (IntKind.i64.wrap (x35+1))) else
    bif decide (v1.holds.f=(↑239:Int)) then((DM n w k d v3).bind fun v4 =>
    bif !v4.fst then((app out [Av.mk v1.kind k i]).bind fun v5 =>
    Ae n w truth v5 now i d k x33 x34 (IntKind.i64.wrap (x35+1))) else
    Ae n w truth out now i d k x33 x34 (IntKind.i64.wrap (x35+1))) else
    bif decide (v1.holds.f=(↑240:Int)) then((E3 n w k d v3).bind fun v4 =>
    bif !v4.fst then((app out [Av.mk v1.kind k i]).bind fun v5 =>
    Ae n w truth v5 now i d k x33 x34 (IntKind.i64.wrap (x35+1))) else
    Ae n w truth out now i d k x33 x34 (IntKind.i64.wrap (x35+1))) else
    bif decide (v1.holds.f=(↑241:Int)) then((CD n w k d v3).bind fun v4 =>
    bif !v4.fst then((app out [Av.mk v1.kind k i]).bind fun v5 =>
    Ae n w truth v5 now i d k x33 x34 (IntKind.i64.wrap (x35+1))) else
    Ae n w truth out now i d k x33 x34 (IntKind.i64.wrap (x35+1))) else
    bif decide (v1.holds.f=(↑242:Int)) then((Dk n w k d v3).bind fun v4 =>
    bif !v4.fst then((app out [Av.mk v1.kind k i]).bind fun v5 =>
    Ae n w truth v5 now i d k x33 x34 (IntKind.i64.wrap (x35+1))) else
    Ae n w truth out now i d k x33 x34 (IntKind.i64.wrap (x35+1))) else
    none) else
    none) else
    some (w,((truth,()),((out,()),(now,(d,((),((),(i,((),(k,()))))))))))
def Ch (n:Nat) (y:C.Ds Ty (Aj B0)):Option (YT Ty Ee):=Ae n y.1 y.2.1.1 y.2.2.1.1 y.2.2.2.1 y.2.2.2.2.1 y.2.2.2.2.2.1 y.2.2.2.2.2.2.1 y.2.2.2.2.2.2.2.1 y.2.2.2.2.2.2.2.2.1 y.2.2.2.2.2.2.2.2.2.1
noncomputable def froster_Week_broken_l2_cut (n:Nat):St Ty→Tr (Lf Ty):=CK B0 5 Ee (Ch n)
def AX:Nat→AD→(List Int)→(List Int)→(List Av)→(List At)→Int→(List Bu)→Int→Int→Option (((AD×(List Int×Unit)×(List Int×Unit)×(List Av×Unit)×List At×Unit)×Unit×Unit×Unit×Unit×Unit×(Int×Unit)×Unit) ⊕ (((AD×(List Int×Unit)×(List Int×Unit)×(List Av×Unit)×List At×Unit)×Unit×Unit×Unit×Unit×Unit×(Int×Unit)×Unit)))
  | 0,_,_,_,_,_,_,_,_,_=>none
  | n+1,yield1,yield2,yield3,yield4,yield5,x2,x7,x8,x9 =>
    bif decide (x9<x8) then((AO x7 x9).bind fun v0 =>
    bif decide (v0.day=x2) then((AO yield2 x9).bind fun v1 =>
    bif decide (v1=-1) then(AX n yield1 yield2 yield3 yield4 yield5 x2 x7 x8 (IntKind.i64.wrap (x9+1))) else
    (Ae n yield1 yield3 yield4 yield5 x9 v0 v1 [AQ.mk (IK.mk 0) (Fp.mk (↑238:Int)),AQ.mk (IK.mk 1) (Fp.mk (↑239:Int)),AQ.mk (IK.mk 2) (Fp.mk (↑240:Int)),AQ.mk (IK.mk 3) (Fp.mk (↑241:Int)),AQ.mk (IK.mk 4) (Fp.mk (↑242:Int))] (↑[AQ.mk (IK.mk 0) (Fp.mk (↑238:Int)),AQ.mk (IK.mk 1) (Fp.mk (↑239:Int)),AQ.mk (IK.mk 2) (Fp.mk (↑240:Int)),AQ.mk (IK.mk 3) (Fp.mk (↑241:Int)),AQ.mk (IK.mk 4) (Fp.mk (↑242:Int))].length:Int) 0).bind fun v2 =>
    bif v2.snd.snd.snd.fst.length.beq 6 then((AO v2.snd.snd.snd.fst v2.snd.snd.snd.snd.snd.snd.snd.snd.snd.fst).bind fun v3 =>
    (v2.snd.snd.snd.fst.get?Internal v2.snd.snd.snd.snd.snd.snd.snd.snd.snd.fst.toNat).bind fun v4 =>
    (AO v2.snd.fst.fst v2.snd.snd.snd.snd.snd.snd.snd.fst).bind fun v5 =>
    (Dj n v4 v2.snd.snd.snd.snd.fst v5).bind fun v6 =>
    bif v2.snd.snd.snd.fst.length.beq 6 then((AO v2.snd.snd.snd.fst v2.snd.snd.snd.snd.snd.snd.snd.snd.snd.fst).bind fun v7 =>
    (v2.snd.snd.snd.fst.get?Internal v2.snd.snd.snd.snd.snd.snd.snd.snd.snd.fst.toNat).bind fun v8 =>
    AX n v2.fst yield2 v2.snd.fst.fst v2.snd.snd.fst.fst (v2.snd.snd.snd.fst.set v2.snd.snd.snd.snd.snd.snd.snd.snd.snd.fst.toNat v6.fst) x2 x7 x8 (IntKind.i64.wrap (x9+1))) else
    none) else
    none) else
    AX n yield1 yield2 yield3 yield4 yield5 x2 x7 x8 (IntKind.i64.wrap (x9+1))) else
    some (.inl ((yield1,((yield2,()),((yield3,()),((yield4,()),(yield5,()))))),((),((),((),((),((),((x2,()),()))))))))
def Ci (n:Nat) (y:C.Ds Ty (Aj B1)):Option (YT Ty Ef):=AX n y.1.1 y.1.2.1.1 y.1.2.2.1.1 y.1.2.2.2.1.1 y.1.2.2.2.2.1 y.2.1.1 y.2.2.1 y.2.2.2.1 y.2.2.2.2.1
noncomputable def froster_Week_broken_i4_cut (n:Nat):St Ty→Tr (Lf Ty):=CK B1 7 Ef (Ci n)
def AY:Nat→AD→(List Int)→(List Int)→(List Av)→(List At)→Int→Int→Option ((AD×(List Int×Unit)×(List Int×Unit)×(List Av×Unit)×List At×Unit×Unit×Unit×Unit))
  | 0,_,_,_,_,_,_,_=>none
  | n+1,w,roster,truth,out,now,x18,x19 =>
    bif decide (x19<x18) then((AX n w roster truth out now x19 w.duties (↑w.duties.length:Int) 0).bind fun v0 =>
    Sum.elim (fun v1=>AY n v1.fst.fst v1.fst.snd.fst.fst v1.fst.snd.snd.fst.fst v1.fst.snd.snd.snd.fst.fst v1.fst.snd.snd.snd.snd.fst x18 (IntKind.i64.wrap (x19+1))) (fun v1=>AY n v1.fst.fst v1.fst.snd.fst.fst v1.fst.snd.snd.fst.fst v1.fst.snd.snd.snd.fst.fst v1.fst.snd.snd.snd.snd.fst x18 (IntKind.i64.wrap (x19+1))) (v0)) else
    some (w,((roster,()),((truth,()),((out,()),(now,((),((),((),()))))))))
def Cj (n:Nat) (y:C.Ds Ty (Aj B2)):Option (YT Ty Eg):=AY n y.1 y.2.1.1 y.2.2.1.1 y.2.2.2.1.1 y.2.2.2.2.1 y.2.2.2.2.2.1 y.2.2.2.2.2.2.1
noncomputable def froster_Week_broken_l1_cut (n:Nat):St Ty→Tr (Lf Ty):=CK B2 5 Eg (Cj n)
def AZ:Nat→AD→(List Av)→(List At)→Int→Int→Option ((AD×(List Av×Unit)×List At×Unit×Unit))
  | 0,_,_,_,_,_=>none
  | n+1,w,out,now,x72,x73 =>
    bif decide (x73<x72) then(bif now.length.beq 6 then((AO now x73).bind fun v0 =>
    (now.get?Internal x73.toNat).bind fun v1 =>
    bif decide (v1.used>w.hours) then((app out [Av.mk (IK.mk 5) x73 0]).bind fun v2 =>
    AZ n w v2 now x72 (IntKind.i64.wrap (x73+1))) else
    AZ n w out now x72 (IntKind.i64.wrap (x73+1))) else
    none) else
    some (w,((out,()),(now,((),()))))
def Ck (n:Nat) (y:C.Ds Ty (Aj B3)):Option (YT Ty Eh):=AZ n y.1 y.2.1.1 y.2.2.1 y.2.2.2.1 y.2.2.2.2.1
noncomputable def froster_Week_broken_l3_cut (n:Nat):St Ty→Tr (Lf Ty):=CK B3 3 Eh (Ck n)
def E4 (n:Nat) (w:AD) (roster:List Int) (truth:List Int):Option ((List Av×Unit)) :=
    (E1 n w).bind fun v0 =>
    bif [At.mk 0 0 0 0,At.mk 0 0 0 0,At.mk 0 0 0 0,At.mk 0 0 0 0,At.mk 0 0 0 0,At.mk 0 0 0 0].length.beq 6 && v0.fst.length.beq 6 then((AY n w roster truth [] v0.fst w.days 0).bind fun v1 =>
    (AZ n v1.fst v1.snd.snd.snd.fst.fst v1.snd.snd.snd.snd.fst (↑v1.fst.drivers.length:Int) 0).bind fun v2 =>
    (Abx v2.snd.fst.fst).bind fun v3 =>
    some (v3,())) else
    none
def Jl (n:Nat) (y:C.Ds Ty (Aj Dz)):Option (YT Ty FP):=E4 n y.1 y.2.1 y.2.2.1
noncomputable def froster_Week_broken_law (n:Nat):AE Ty:=AF Dz 0 FP (Jl n)
noncomputable def froster_Week_broken_T (n:Nat):List (Nat×AE Ty):=[(175,froster_Week_before_law n),(238,froster_Week_knows_law n),(239,froster_Week_here_law n),(240,froster_Week_single_law n),(241,froster_Week_rested_law n),(242,froster_Week_fresh_law n),(178,froster_stand_take_law n),(179,sortB_law n)]
theorem Bi (n:Nat):Aq Tryz.prog (froster_Week_broken_T n):=⟨LS n,⟨MV n,⟨NP n,⟨LU n,⟨LV n,⟨MW n,⟨Hs n,⟨Aev n,trivial⟩⟩⟩⟩⟩⟩⟩⟩
noncomputable def froster_Week_broken_l2_C (n:Nat):A3 Ty:=[]
theorem LW (n:Nat) (x:C.Ds Ty (Aj B0)):(Az Tryz.prog 92 (AlW (Am Tryz.prog (froster_Week_broken_T n) [])) (Ai (froster_Week_broken_l2_C n)) (Ap 11 Tryz.f121) (Aw B0 x)).runK (AI 5 B0 Ee (Ch n))=Ch (n+1) x:=by kernel_rfl
theorem LX (n:Nat):A9 false Tryz.prog 92 (froster_Week_broken_l2_cut n) (.loop (Ap 11 Tryz.f121)):=AM fun x y hy=>A2 (Fn:=Ch) Aa Ab (fun n=>Afn (Ad Aa Ab (Bi n) Al)) (fun _ _=>YC) (fun _=>by kernel_rfl) (fun n=>(Af (fn:=Tryz.f121) (L:=froster_Week_broken_l2_C n) (ks:=[]) trivial (by kernel_rfl) (by kernel_rfl))) (by decide) (fun _=>rfl) LW hy
noncomputable def froster_Week_broken_B (n:Nat):A3 Ty:=[(.loop 11,froster_Week_broken_l2_cut n)]
noncomputable def froster_Week_broken_Y (n:Nat):List (Nat×AE Ty):=(Ay,AmE Tryz.prog (Am Tryz.prog (froster_Week_broken_T n) []) (Ai []) (Ai (froster_Week_broken_B n)) 121)::froster_Week_broken_T n
theorem HZ (n:Nat):Aq Tryz.prog (froster_Week_broken_Y n):=⟨Afw Aa Ab (Ad Aa Ab (Bi n) Al) (fun _ _ _ h=>by cases h) (Af (fn:=Tryz.f121) (c:=(RFs.rf 121).body) (N:=(RFs.rf 121).n) (L:=froster_Week_broken_B n) (ks:=[.loop 11]) ⟨LX n,trivial⟩ (by kernel_rfl) (by kernel_rfl)),Bi n⟩
noncomputable def froster_Week_broken_i4_C (n:Nat):A3 Ty:=[]
theorem LY (n:Nat) (x:C.Ds Ty (Aj B1)):(Az Tryz.prog 26 (Am Tryz.prog (froster_Week_broken_Y n) []) (Ai (froster_Week_broken_i4_C n)) (Ap 1 Tryz.f237) (Aw B1 x)).runK (AI 7 B1 Ef (Ci n))=Ci (n+1) x:=by kernel_rfl
theorem LZ (n:Nat):A9 true Tryz.prog 26 (froster_Week_broken_i4_cut n) (.loop (Ap 1 Tryz.f237)):=AM fun x y hy=>A2 (Fn:=Ci) Aa Ab (fun n=>Ad Aa Ab (HZ n) Al) (fun h=>by cases h) (fun h=>by cases h) (fun n=>(Af (fn:=Tryz.f237) (L:=froster_Week_broken_i4_C n) (ks:=[]) trivial (by kernel_rfl) (by kernel_rfl))) (by decide) (fun _=>rfl) LY hy
noncomputable def froster_Week_broken_K (n:Nat):Qw Ty:=[(237,[(.loop 1,froster_Week_broken_i4_cut n)])]
theorem NS (n:Nat):La Tryz.prog (froster_Week_broken_K n):=⟨G9 (f:=237) Tryz.func237 rfl (Af (fn:=Tryz.f237) (L:=[(.loop 1,froster_Week_broken_i4_cut n)]) (ks:=[.loop 1]) ⟨LZ n,trivial⟩ (by kernel_rfl) (by kernel_rfl)),trivial⟩
noncomputable def froster_Week_broken_rf (n:Nat):St Ty→Tr (Lf Ty):=Amq Tryz.prog (Am Tryz.prog (froster_Week_broken_Y n) (froster_Week_broken_K n)) (.tmp 24) 121 [3,4,5,6,7]
theorem MX (n:Nat):A9 true Tryz.prog 92 (froster_Week_broken_rf n) (JW (.rf 8) Tryz.f121):=Afz (Ad Aa Ab (HZ n) (NS n)) (by kernel_rfl) (by kernel_rfl)
noncomputable def froster_Week_broken_l1_C (n:Nat):A3 Ty:=[(.rf 8,froster_Week_broken_rf n)]
theorem Ma (n:Nat) (x:C.Ds Ty (Aj B2)):(Az Tryz.prog 92 (Am Tryz.prog (froster_Week_broken_T n) []) (Ai (froster_Week_broken_l1_C n)) (Ap 3 Tryz.f121) (Aw B2 x)).runK (AI 5 B2 Eg (Cj n))=Cj (n+1) x:=by kernel_rfl
theorem Mb (n:Nat):A9 true Tryz.prog 92 (froster_Week_broken_l1_cut n) (.loop (Ap 3 Tryz.f121)):=AM fun x y hy=>A2 (Fn:=Cj) Aa Ab (fun n=>Ad Aa Ab (Bi n) Al) (fun h=>by cases h) (fun h=>by cases h) (fun n=>(Af (fn:=Tryz.f121) (L:=froster_Week_broken_l1_C n) (ks:=[.rf 8]) ⟨MX n,trivial⟩ (by kernel_rfl) (by kernel_rfl))) (by decide) (fun _=>rfl) Ma hy
noncomputable def froster_Week_broken_l3_C (n:Nat):A3 Ty:=[]
theorem Mc (n:Nat) (x:C.Ds Ty (Aj B3)):(Az Tryz.prog 92 (Am Tryz.prog (froster_Week_broken_T n) []) (Ai (froster_Week_broken_l3_C n)) (Ap 19 Tryz.f121) (Aw B3 x)).runK (AI 3 B3 Eh (Ck n))=Ck (n+1) x:=by kernel_rfl
theorem Md (n:Nat):A9 true Tryz.prog 92 (froster_Week_broken_l3_cut n) (.loop (Ap 19 Tryz.f121)):=AM fun x y hy=>A2 (Fn:=Ck) Aa Ab (fun n=>Ad Aa Ab (Bi n) Al) (fun h=>by cases h) (fun h=>by cases h) (fun n=>(Af (fn:=Tryz.f121) (L:=froster_Week_broken_l3_C n) (ks:=[]) trivial (by kernel_rfl) (by kernel_rfl))) (by decide) (fun _=>rfl) Mc hy
noncomputable def froster_Week_broken_C (n:Nat):A3 Ty:=[(.loop 3,froster_Week_broken_l1_cut n),(.loop 19,froster_Week_broken_l3_cut n)]
theorem OX (n:Nat) (x:C.Ds Ty (Aj Dz)):(Az Tryz.prog 92 (Am Tryz.prog (froster_Week_broken_T n) []) (Ai (froster_Week_broken_C n)) (An Tryz.f121) (Aw Dz x)).runK (As Tryz.prog Tryz.f121.results.toList 0 FP)=Jl n x:=by kernel_rfl
theorem Me (n:Nat):Ar Tryz.prog 121 (froster_Week_broken_law n):=Au Tryz.func121 rfl rfl (by decide) rfl Aa Ab (Ad Aa Ab (Bi n) Al) (Af (fn:=Tryz.f121) (L:=froster_Week_broken_C n) (ks:=[.loop 3,.loop 19]) ⟨Mb n,⟨Md n,trivial⟩⟩ (by kernel_rfl) (by kernel_rfl)) (OX n)
def DP:List (Nat×C):=[(0,.g 32),(1,.l 3)]
def G1:List Wo:=[⟨.ret,[],[],[.s 4]⟩]
def Fl (n:Nat) (w:AD) (roster:List Int):Option ((Bool×Unit)) :=
    (Gd n w).bind fun v0 =>
    (E4 n w roster v0.fst).bind fun v1 =>
    some (decide ((↑v1.fst.length:Int)=0),())
def JM (n:Nat) (y:C.Ds Ty (Aj DP)):Option (YT Ty G1):=Fl n y.1 y.2.1
noncomputable def froster_Week_legal_law (n:Nat):AE Ty:=IZ (AF DP 0 G1 (JM n))
noncomputable def froster_Week_legal_T (n:Nat):List (Nat×AE Ty):=[(122,froster_Week_ends_law n),(121,froster_Week_broken_law n)]
theorem OY (n:Nat):Aq Tryz.prog (froster_Week_legal_T n):=⟨NL n,⟨Me n,trivial⟩⟩
noncomputable def froster_Week_legal_C (n:Nat):A3 Ty:=[]
theorem PL (n:Nat) (x:C.Ds Ty (Aj DP)):(Az Tryz.prog 12 (Am Tryz.prog (froster_Week_legal_T n) []) (Ai (froster_Week_legal_C n)) (An Tryz.f73) (Aw DP x)).runK (As Tryz.prog Tryz.f73.results.toList 0 G1)=JM n x:=by kernel_rfl
theorem MY (n:Nat):Ar Tryz.prog 73 (froster_Week_legal_law n):=C6 (Au Tryz.func73 rfl rfl (by decide) rfl Aa Ab (Ad Aa Ab (OY n) Al) (Af (fn:=Tryz.f73) (L:=froster_Week_legal_C n) (ks:=[]) trivial (by kernel_rfl) (by kernel_rfl)) (PL n))
def CE:List (Nat×C):=[(2,.s 3),(5,.l 3),(6,.s 3),(7,.s 3)]
def Hg:List Wo:=[⟨.exit 0,[],[(2,.s 3)],[]⟩]
def GI:List (Nat×C):=[(0,.l 3)]
def Jz:List Wo:=[⟨.ret,[],[],[.s 3]⟩]
def Cy:Nat→Int→(List Int)→Int→Int→Option ((Int×Unit))
  | 0,_,_,_,_=>none
  | n+1,n_,x5,x6,x7 =>
    bif decide (x7<x6) then((AO x5 x7).bind fun v0 =>
    bif v0 != -1 then(Cy n (IntKind.i64.wrap (n_+1)) x5 x6 (IntKind.i64.wrap (x7+1))) else
    Cy n n_ x5 x6 (IntKind.i64.wrap (x7+1))) else
    some (n_,())
def E5 (n:Nat) (y:C.Ds Ty (Aj CE)):Option (YT Ty Hg):=Cy n y.1 y.2.1 y.2.2.1 y.2.2.2.1
noncomputable def froster_covers_l1_cut (n:Nat):St Ty→Tr (Lf Ty):=CK CE 0 Hg (E5 n)
def ID (n:Nat) (roster:List Int):Option ((Int×Unit)) :=
    (Cy n 0 roster (↑roster.length:Int) 0).bind fun v0 =>
    some (v0.fst,())
def NT (n:Nat) (y:C.Ds Ty (Aj GI)):Option (YT Ty Jz):=ID n y.1
noncomputable def froster_covers_law (n:Nat):AE Ty:=IZ (AF GI 0 Jz (NT n))
noncomputable def froster_covers_T (n:Nat):List (Nat×AE Ty):=[]
theorem Lx (n:Nat):Aq Tryz.prog (froster_covers_T n):=trivial
noncomputable def froster_covers_l1_C (n:Nat):A3 Ty:=[]
theorem QN (n:Nat) (x:C.Ds Ty (Aj CE)):(Az Tryz.prog 17 (Am Tryz.prog (froster_covers_T n) []) (Ai (froster_covers_l1_C n)) (Ap 2 Tryz.f74) (Aw CE x)).runK (AI 0 CE Hg (E5 n))=E5 (n+1) x:=by kernel_rfl
theorem QO (n:Nat):A9 true Tryz.prog 17 (froster_covers_l1_cut n) (.loop (Ap 2 Tryz.f74)):=AM fun x y hy=>A2 (Fn:=E5) Aa Ab (fun n=>Ad Aa Ab (Lx n) Al) (fun h=>by cases h) (fun h=>by cases h) (fun n=>(Af (fn:=Tryz.f74) (L:=froster_covers_l1_C n) (ks:=[]) trivial (by kernel_rfl) (by kernel_rfl))) (by decide) (fun _=>rfl) QN hy
noncomputable def froster_covers_C (n:Nat):A3 Ty:=[(.loop 2,froster_covers_l1_cut n)]
theorem Us (n:Nat) (x:C.Ds Ty (Aj GI)):(Az Tryz.prog 17 (Am Tryz.prog (froster_covers_T n) []) (Ai (froster_covers_C n)) (An Tryz.f74) (Aw GI x)).runK (As Tryz.prog Tryz.f74.results.toList 0 Jz)=NT n x:=by kernel_rfl
theorem QP (n:Nat):Ar Tryz.prog 74 (froster_covers_law n):=C6 (Au Tryz.func74 rfl rfl (by decide) rfl Aa Ab (Ad Aa Ab (Lx n) Al) (Af (fn:=Tryz.f74) (L:=froster_covers_C n) (ks:=[.loop 2]) ⟨QO n,trivial⟩ (by kernel_rfl) (by kernel_rfl)) (Us n))
def D0:List (Nat×C):=[(0,.g 32),(1,.l 3),(2,.s 3)]
def FQ:List Wo:=[⟨.ret,[],[],[.s 4]⟩]
def CF (n:Nat) (w:AD) (roster:List Int) (least:Int):Option ((Bool×Unit)) :=
    (Cw n w).bind fun v0 =>
    bif decide (v0.fst=0) then((Ez n w roster).bind fun v1 =>
    bif v1.fst then((Fl n w roster).bind fun v2 =>
    bif v2.fst then((ID n roster).bind fun v3 =>
    some (decide (v3.fst≥least),())) else
    some (false,())) else
    some (false,())) else
    some (false,())
def Jm (n:Nat) (y:C.Ds Ty (Aj D0)):Option (YT Ty FQ):=CF n y.1 y.2.1 y.2.2.1
noncomputable def froster_ProveRoster_law (n:Nat):AE Ty:=IZ (AF D0 0 FQ (Jm n))
noncomputable def froster_ProveRoster_T (n:Nat):List (Nat×AE Ty):=[(71,froster_CheckWeek_law n),(72,froster_Week_roster_law n),(73,froster_Week_legal_law n),(74,froster_covers_law n)]
theorem NU (n:Nat):Aq Tryz.prog (froster_ProveRoster_T n):=⟨EE n,⟨LP n,⟨MY n,⟨QP n,trivial⟩⟩⟩⟩
noncomputable def froster_ProveRoster_C (n:Nat):A3 Ty:=[]
theorem OZ (n:Nat) (x:C.Ds Ty (Aj D0)):(Az Tryz.prog 26 (Am Tryz.prog (froster_ProveRoster_T n) []) (Ai (froster_ProveRoster_C n)) (An Tryz.f33) (Aw D0 x)).runK (As Tryz.prog Tryz.f33.results.toList 0 FQ)=Jm n x:=by kernel_rfl
theorem Mf (n:Nat):Ar Tryz.prog 33 (froster_ProveRoster_law n):=C6 (Au Tryz.func33 rfl rfl (by decide) rfl Aa Ab (Ad Aa Ab (NU n) Al) (Af (fn:=Tryz.f33) (L:=froster_ProveRoster_C n) (ks:=[]) trivial (by kernel_rfl) (by kernel_rfl)) (OZ n))
def CY:List (Nat×C):=[(0,.u 114),(1,.v 3)]
def Fm:List Wo:=[⟨.ret,[.u 114],[],[]⟩,⟨.pan,[.u 114],[],[.i 234 (.g 234)]⟩]
def Cq (n:Nat) (g:Ah) (n_:List Int):Option ((Ah×Unit) ⊕ ((Ah×A8×Unit))) :=
    bif n_.length.beq 5 then((AO n_ 0).bind fun v0 =>
    (n_.get?Internal (Int.toNat 0)).bind fun v1 =>
    (Bw n v1 0 (IntKind.i64.wrap ((↑g.state.roster.length:Int)-1))).bind fun v2 =>
    bif v2.fst then(bif n_.length.beq 5 then((AO n_ 1).bind fun v3 =>
    (n_.get?Internal (Int.toNat 1)).bind fun v4 =>
    (Bw n v4 (-1) (IntKind.i64.wrap ((↑g.state.week.drivers.length:Int)-1))).bind fun v5 =>
    (A5 n v5.fst 2).bind fun v6 =>
    Sum.elim (fun v7=>(SH n g.state.roster).bind fun v8 =>
    bif n_.length.beq 5 then((AO n_ 0).bind fun v9 =>
    (n_.get?Internal (Int.toNat 0)).bind fun v10 =>
    bif n_.length.beq 5 then((AO n_ 1).bind fun v11 =>
    (n_.get?Internal (Int.toNat 1)).bind fun v12 =>
    (AO v8.fst v10).bind fun v13 =>
    (v8.fst.get?Internal v10.toNat).bind fun v14 =>
    (CF n g.state.week (v8.fst.set v10.toNat v12) 0).bind fun v15 =>
    (A5 n v15.fst 10).bind fun v16 =>
    Sum.elim (fun v17=>some (.inl (Ah.mk (A0.mk g.state.cards g.state.outs g.state.runs g.state.records g.state.week (v8.fst.set v10.toNat v12)),()))) (fun v17=>some (.inr (g,(v17.fst,())))) (v16)) else
    none) else
    none) (fun v7=>some (.inr (g,(v7.fst,())))) (v6)) else
    none) else
    (A5 n false 2).bind fun v3 =>
    Sum.elim (fun v4=>(SH n g.state.roster).bind fun v5 =>
    bif n_.length.beq 5 then((AO n_ 0).bind fun v6 =>
    (n_.get?Internal (Int.toNat 0)).bind fun v7 =>
    bif n_.length.beq 5 then((AO n_ 1).bind fun v8 =>
    (n_.get?Internal (Int.toNat 1)).bind fun v9 =>
    (AO v5.fst v7).bind fun v10 =>
    (v5.fst.get?Internal v7.toNat).bind fun v11 =>
    (CF n g.state.week (v5.fst.set v7.toNat v9) 0).bind fun v12 =>
    (A5 n v12.fst 10).bind fun v13 =>
    Sum.elim (fun v14=>some (.inl (Ah.mk (A0.mk g.state.cards g.state.outs g.state.runs g.state.records g.state.week (v5.fst.set v7.toNat v9)),()))) (fun v14=>some (.inr (g,(v14.fst,())))) (v13)) else
    none) else
    none) (fun v4=>some (.inr (g,(v4.fst,())))) (v3)) else
    none
def IE (n:Nat) (y:C.Ds Ty (Aj CY)):Option (YT Ty Fm):=Cq n y.1 y.2.1
noncomputable def fgarage_session_give_law (n:Nat):AE Ty:=AF CY 1 Fm (IE n)
noncomputable def fgarage_session_give_T (n:Nat):List (Nat×AE Ty):=[(75,fgarage_within_law n),(139,fgarage_ask_law n),(268,clone3_law n),(33,froster_ProveRoster_law n)]
theorem MZ (n:Nat):Aq Tryz.prog (fgarage_session_give_T n):=⟨DF n,⟨Bs n,⟨Uj n,⟨Mf n,trivial⟩⟩⟩⟩
noncomputable def fgarage_session_give_C (n:Nat):A3 Ty:=[]
theorem NV (n:Nat) (x:C.Ds Ty (Aj CY)):(Az Tryz.prog 54 (Am Tryz.prog (fgarage_session_give_T n) []) (Ai (fgarage_session_give_C n)) (An Tryz.f200) (Aw CY x)).runK (As Tryz.prog Tryz.f200.results.toList 1 Fm)=IE n x:=by kernel_rfl
theorem G2 (n:Nat):Ar Tryz.prog 200 (fgarage_session_give_law n):=Au Tryz.func200 rfl rfl (by decide) rfl Aa Ab (Ad Aa Ab (MZ n) Al) (Af (fn:=Tryz.f200) (L:=fgarage_session_give_C n) (ks:=[]) trivial (by kernel_rfl) (by kernel_rfl)) (NV n)
def X3:List (Nat×C):=[]
def AcC:List Wo:=[⟨.ret,[],[],[.m 9 237]⟩]
def Akc (n:Nat):Option (((List (ByteArray×EN))×Unit)) :=
    some (Ip FC (Ip FC (Ip FC (Ip FC (Ip FC (Ip FC (Ip FC (Ip FC (Ip FC (Ip FC (Ip FC (Ip FC [] (B [102,111,117,110,100]) (EN.mk 4 (Fp.mk (↑189:Int)))) (B [104,101,108,100]) (EN.mk 4 (Fp.mk (↑190:Int)))) (B [115,105,103,110,101,100]) (EN.mk 4 (Fp.mk (↑191:Int)))) (B [99,104,101,99,107,101,100]) (EN.mk 3 (Fp.mk (↑192:Int)))) (B [111,117,116]) (EN.mk 2 (Fp.mk (↑193:Int)))) (B [105,110]) (EN.mk 3 (Fp.mk (↑194:Int)))) (B [115,97,108,101]) (EN.mk 5 (Fp.mk (↑195:Int)))) (B [115,121,110,99]) (EN.mk 4 (Fp.mk (↑196:Int)))) (B [99,108,111,115,101]) (EN.mk 5 (Fp.mk (↑197:Int)))) (B [100,114,105,118,101,114]) (EN.mk 2 (Fp.mk (↑198:Int)))) (B [100,117,116,121]) (EN.mk 5 (Fp.mk (↑199:Int)))) (B [103,105,118,101]) (EN.mk 2 (Fp.mk (↑200:Int))),())
def Ag5 (n:Nat) (y:C.Ds Ty (Aj X3)):Option (YT Ty AcC):=Akc n
noncomputable def words_law (n:Nat):AE Ty:=AF X3 0 AcC (Ag5 n)
noncomputable def words_T (n:Nat):List (Nat×AE Ty):=[(189,fgarage_session_found_law n),(190,fgarage_session_held_law n),(191,fgarage_session_signed_law n),(192,fgarage_session_checked_law n),(193,fgarage_session_out_law n),(194,fgarage_session_in_law n),(195,fgarage_session_sale_law n),(196,fgarage_session_sync_law n),(197,fgarage_session_close_law n),(198,fgarage_session_driver_law n),(199,fgarage_session_duty_law n),(200,fgarage_session_give_law n)]
theorem AhN (n:Nat):Aq Tryz.prog (words_T n):=⟨FZ n,⟨Gq n,⟨Fw n,⟨EO n,⟨GQ n,⟨Ho n,⟨Gu n,⟨Gv n,⟨Gb n,⟨Fx n,⟨Gw n,⟨G2 n,trivial⟩⟩⟩⟩⟩⟩⟩⟩⟩⟩⟩⟩
noncomputable def words_C (n:Nat):A3 Ty:=[]
theorem Akd (n:Nat) (x:C.Ds Ty (Aj X3)):(Az Tryz.prog 15 (Am Tryz.prog (words_T n) []) (Ai (words_C n)) (An Tryz.f138) (Aw X3 x)).runK (As Tryz.prog Tryz.f138.results.toList 0 AcC)=Ag5 n x:=by kernel_rfl
theorem Aez (n:Nat):Ar Tryz.prog 138 (words_law n):=Au Tryz.func138 rfl rfl (by decide) rfl Aa Ab (Ad Aa Ab (AhN n) Al) (Af (fn:=Tryz.f138) (L:=words_C n) (ks:=[]) trivial (by kernel_rfl) (by kernel_rfl)) (Akd n)
def GJ:List (Nat×C):=[(0,.s 9)]
def J0:List Wo:=[⟨.ret,[],[],[.s 3]⟩,⟨.pan,[],[],[.i 234 (.g 234)]⟩]
def IF (n:Nat) (s:ByteArray):Option ((Int×Unit) ⊕ ((A8×Unit))) :=
    (WG s).bind fun v0 =>
    Sum.elim (fun v1=>(WH n v1).bind fun v2 =>
    bif v2.fst.beq s then((Bw n v1 (-999999999) 999999999).bind fun v3 =>
    (A5 n v3.fst 4).bind fun v4 =>
    Sum.elim (fun v5=>some (.inl (v1,()))) (fun v5=>some (.inr (v5.fst,()))) (v4)) else
    (A5 n false 4).bind fun v3 =>
    Sum.elim (fun v4=>some (.inl (v1,()))) (fun v4=>some (.inr (v4.fst,()))) (v3)) (fun v1=>(A5 n false 4).bind fun v2 =>
    Sum.elim (fun v3=>some (.inl (v1,()))) (fun v3=>some (.inr (v3.fst,()))) (v2)) (v0)
def NW (n:Nat) (y:C.Ds Ty (Aj GJ)):Option (YT Ty J0):=IF n y.1
noncomputable def fgarage_number_law (n:Nat):AE Ty:=AF GJ 0 J0 (NW n)
noncomputable def fgarage_number_T (n:Nat):List (Nat×AE Ty):=[(113,atoiS_law n),(89,itoaS_law n),(75,fgarage_within_law n),(139,fgarage_ask_law n)]
theorem SO (n:Nat):Aq Tryz.prog (fgarage_number_T n):=⟨WJ n,⟨WI n,⟨DF n,⟨Bs n,trivial⟩⟩⟩⟩
noncomputable def fgarage_number_C (n:Nat):A3 Ty:=[]
theorem Ut (n:Nat) (x:C.Ds Ty (Aj GJ)):(Az Tryz.prog 24 (Am Tryz.prog (fgarage_number_T n) []) (Ai (fgarage_number_C n)) (An Tryz.f140) (Aw GJ x)).runK (As Tryz.prog Tryz.f140.results.toList 0 J0)=NW n x:=by kernel_rfl
theorem QQ (n:Nat):Ar Tryz.prog 140 (fgarage_number_law n):=Au Tryz.func140 rfl rfl (by decide) rfl Aa Ab (Ad Aa Ab (SO n) Al) (Af (fn:=Tryz.f140) (L:=fgarage_number_C n) (ks:=[]) trivial (by kernel_rfl) (by kernel_rfl)) (Ut n)
end Go.Proofs.YtkpgggfibljflaaGreatDoor
namespace Go.Proofs.YtkpgggfibljflaaGreatDoor
open Go Go.RowKit Go.Proofs
open Rep (rep)
def Sl:Nat→Code→Code
  | n+1,.seq _ b=>Sl n b
  | _,c=>c
def Ly:List (Nat×C):=[(0,.u 114),(4,.p [.s 3]),(6,.u 237),(8,.a 3),(33,.l 9),(34,.s 3),(35,.s 3)]
def SP:List Wo:=[⟨.exit 0,[.u 114,.p [.s 3],.u 237,.a 3],[(0,.q 0),(4,.q 1),(6,.q 2),(8,.q 3)],[]⟩,⟨.pan,[.u 114,.p [.s 3],.u 237,.a 3],[(4,.q 1)],[.i 234 (.g 234)]⟩]
def M7:List (Nat×C):=[(0,.u 114),(1,.s 9),(4,.p [.s 37])]
def Pa:List Wo:=[⟨.ret,[.u 114,.p [.s 37]],[(4,.q 1)],[]⟩,⟨.pan,[.u 114,.p [.s 37]],[(4,.q 1)],[.i 234 (.g 234)]⟩]
def Lz:Nat→Ah→Int→EN→(List Int)→(List ByteArray)→Int→Int→Option ((Ah×(Int×Unit)×EN×List Int×Unit×Unit×Unit×Unit×Unit) ⊕ ((Ah×(Int×Unit)×EN×List Int×Unit×A8×Unit)))
  | 0,_,_,_,_,_,_,_=>none
  | n+1,g,e,x,n_,x33,x34,x35 =>
    bif decide (x35<x34) then((AO x33 x35).bind fun v0 =>
    (IF n v0).bind fun v1 =>
    Sum.elim (fun v2=>bif n_.length.beq 5 then((AO n_ x35).bind fun v3 =>
    (n_.get?Internal x35.toNat).bind fun v4 =>
    Lz n g e x (n_.set x35.toNat v2.fst) x33 x34 (IntKind.i64.wrap (x35+1))) else
    none) (fun v2=>some (.inr (g,((e,()),(x,(n_,((),(v2.fst,())))))))) (v1)) else
    some (.inl (g,((e,()),(x,(n_,((),((),((),((),())))))))))
def Pb (n:Nat) (y:C.Ds Ty (Aj Ly)):Option (YT Ty SP):=Lz n y.1 y.2.1.1 y.2.2.1 y.2.2.2.1 y.2.2.2.2.1 y.2.2.2.2.2.1 y.2.2.2.2.2.2.1
noncomputable def nextB_l1_cut (n:Nat):St Ty→Tr (Lf Ty):=CK Ly 4 SP (Pb n)
def Ae0 (n:Nat) (g:Ah) (text:ByteArray) (e:Int):Option ((Ah×(Int×Unit)×Unit×Unit) ⊕ ((Ah×(Int×Unit)×Unit×A8×Unit))) :=
    (Z6 n text (B [32])).bind fun v0 =>
    (Akc n).bind fun v1 =>
    (AO v0.fst 0).bind fun v2 =>
    bif EM FC v1.fst v2 then((A5 n (decide ((↑v0.fst.length:Int)=IntKind.i64.wrap ((Ba FC v1.fst v2 (EN.mk 0 (Fp.mk (-1)))).many+1))) 4).bind fun v3 =>
    Sum.elim (fun v4=>(HB v0.fst 1 (↑v0.fst.length:Int)).bind fun v5 =>
    (Lz n g e (Ba FC v1.fst v2 (EN.mk 0 (Fp.mk (-1)))) [0,0,0,0,0] v5 (↑v5.length:Int) 0).bind fun v6 =>
    Sum.elim (fun v7=>bif v7.snd.snd.snd.fst.length.beq 5 then(bif decide (v7.snd.snd.fst.do_.f=(↑189:Int)) then((Dm n v7.fst v7.snd.snd.snd.fst).bind fun v8 =>
    Sum.elim (fun v9=>some (.inl (v9.fst,((0,()),((),()))))) (fun v9=>some (.inr (v9.fst,((v7.snd.fst.fst,()),((),(v9.snd.fst,())))))) (v8)) else
    bif decide (v7.snd.snd.fst.do_.f=(↑190:Int)) then((DE n v7.fst v7.snd.snd.snd.fst).bind fun v8 =>
    Sum.elim (fun v9=>some (.inl (v9.fst,((0,()),((),()))))) (fun v9=>some (.inr (v9.fst,((v7.snd.fst.fst,()),((),(v9.snd.fst,())))))) (v8)) else
    bif decide (v7.snd.snd.fst.do_.f=(↑191:Int)) then((CO n v7.fst v7.snd.snd.snd.fst).bind fun v8 =>
    Sum.elim (fun v9=>some (.inl (v9.fst,((0,()),((),()))))) (fun v9=>some (.inr (v9.fst,((v7.snd.fst.fst,()),((),(v9.snd.fst,())))))) (v8)) else
    bif decide (v7.snd.snd.fst.do_.f=(↑192:Int)) then((Ct n v7.fst v7.snd.snd.snd.fst).bind fun v8 =>
    Sum.elim (fun v9=>some (.inl (v9.fst,((0,()),((),()))))) (fun v9=>some (.inr (v9.fst,((v7.snd.fst.fst,()),((),(v9.snd.fst,())))))) (v8)) else
    bif decide (v7.snd.snd.fst.do_.f=(↑193:Int)) then((C7 n v7.fst v7.snd.snd.snd.fst).bind fun v8 =>
    Sum.elim (fun v9=>some (.inl (v9.fst,((0,()),((),()))))) (fun v9=>some (.inr (v9.fst,((v7.snd.fst.fst,()),((),(v9.snd.fst,())))))) (v8)) else
    bif decide (v7.snd.snd.fst.do_.f=(↑194:Int)) then((De n v7.fst v7.snd.snd.snd.fst).bind fun v8 =>
    Sum.elim (fun v9=>some (.inl (v9.fst,((0,()),((),()))))) (fun v9=>some (.inr (v9.fst,((v7.snd.fst.fst,()),((),(v9.snd.fst,())))))) (v8)) else
    bif decide (v7.snd.snd.fst.do_.f=(↑195:Int)) then((DI n v7.fst v7.snd.snd.snd.fst).bind fun v8 =>
    Sum.elim (fun v9=>some (.inl (v9.fst,((0,()),((),()))))) (fun v9=>some (.inr (v9.fst,((v7.snd.fst.fst,()),((),(v9.snd.fst,())))))) (v8)) else
    bif decide (v7.snd.snd.fst.do_.f=(↑196:Int)) then((DJ n v7.fst v7.snd.snd.snd.fst).bind fun v8 =>
    Sum.elim (fun v9=>some (.inl (v9.fst,((0,()),((),()))))) (fun v9=>some (.inr (v9.fst,((v7.snd.fst.fst,()),((),(v9.snd.fst,())))))) (v8)) else
    bif decide (v7.snd.snd.fst.do_.f=(↑197:Int)) then((Dr n v7.fst v7.snd.snd.snd.fst).bind fun v8 =>
    Sum.elim (fun v9=>some (.inl (v9.fst,((0,()),((),()))))) (fun v9=>some (.inr (v9.fst,((v7.snd.fst.fst,()),((),(v9.snd.fst,())))))) (v8)) else
    bif decide (v7.snd.snd.fst.do_.f=(↑198:Int)) then((BJ n v7.fst v7.snd.snd.snd.fst).bind fun v8 =>
    Sum.elim (fun v9=>some (.inl (v9.fst,((0,()),((),()))))) (fun v9=>some (.inr (v9.fst,((v7.snd.fst.fst,()),((),(v9.snd.fst,())))))) (v8)) else
    bif decide (v7.snd.snd.fst.do_.f=(↑199:Int)) then((Co n v7.fst v7.snd.snd.snd.fst).bind fun v8 =>
    Sum.elim (fun v9=>some (.inl (v9.fst,((0,()),((),()))))) (fun v9=>some (.inr (v9.fst,((v7.snd.fst.fst,()),((),(v9.snd.fst,())))))) (v8)) else
    bif decide (v7.snd.snd.fst.do_.f=(↑200:Int)) then((Cq n v7.fst v7.snd.snd.snd.fst).bind fun v8 =>
    Sum.elim (fun v9=>some (.inl (v9.fst,((0,()),((),()))))) (fun v9=>some (.inr (v9.fst,((v7.snd.fst.fst,()),((),(v9.snd.fst,())))))) (v8)) else
    none) else
    none) (fun v7=>some (.inr (v7.fst,((v7.snd.fst.fst,()),((),(v7.snd.snd.snd.snd.snd.fst,())))))) (v6)) (fun v4=>some (.inr (g,((e,()),((),(v4.fst,())))))) (v3)) else
    (A5 n false 4).bind fun v3 =>
    Sum.elim (fun v4=>(HB v0.fst 1 (↑v0.fst.length:Int)).bind fun v5 =>
    (Lz n g e (Ba FC v1.fst v2 (EN.mk 0 (Fp.mk (-1)))) [0,0,0,0,0] v5 (↑v5.length:Int) 0).bind fun v6 =>
    Sum.elim (fun v7=>bif v7.snd.snd.snd.fst.length.beq 5 then(bif decide (v7.snd.snd.fst.do_.f=(↑189:Int)) then((Dm n v7.fst v7.snd.snd.snd.fst).bind fun v8 =>
    Sum.elim (fun v9=>some (.inl (v9.fst,((0,()),((),()))))) (fun v9=>some (.inr (v9.fst,((v7.snd.fst.fst,()),((),(v9.snd.fst,())))))) (v8)) else
    bif decide (v7.snd.snd.fst.do_.f=(↑190:Int)) then((DE n v7.fst v7.snd.snd.snd.fst).bind fun v8 =>
    Sum.elim (fun v9=>some (.inl (v9.fst,((0,()),((),()))))) (fun v9=>some (.inr (v9.fst,((v7.snd.fst.fst,()),((),(v9.snd.fst,())))))) (v8)) else
    bif decide (v7.snd.snd.fst.do_.f=(↑191:Int)) then((CO n v7.fst v7.snd.snd.snd.fst).bind fun v8 =>
    Sum.elim (fun v9=>some (.inl (v9.fst,((0,()),((),()))))) (fun v9=>some (.inr (v9.fst,((v7.snd.fst.fst,()),((),(v9.snd.fst,())))))) (v8)) else
    bif decide (v7.snd.snd.fst.do_.f=(↑192:Int)) then((Ct n v7.fst v7.snd.snd.snd.fst).bind fun v8 =>
    Sum.elim (fun v9=>some (.inl (v9.fst,((0,()),((),()))))) (fun v9=>some (.inr (v9.fst,((v7.snd.fst.fst,()),((),(v9.snd.fst,())))))) (v8)) else
    bif decide (v7.snd.snd.fst.do_.f=(↑193:Int)) then((C7 n v7.fst v7.snd.snd.snd.fst).bind fun v8 =>
    Sum.elim (fun v9=>some (.inl (v9.fst,((0,()),((),()))))) (fun v9=>some (.inr (v9.fst,((v7.snd.fst.fst,()),((),(v9.snd.fst,())))))) (v8)) else
    bif decide (v7.snd.snd.fst.do_.f=(↑194:Int)) then((De n v7.fst v7.snd.snd.snd.fst).bind fun v8 =>
    Sum.elim (fun v9=>some (.inl (v9.fst,((0,()),((),()))))) (fun v9=>some (.inr (v9.fst,((v7.snd.fst.fst,()),((),(v9.snd.fst,())))))) (v8)) else
    bif decide (v7.snd.snd.fst.do_.f=(↑195:Int)) then((DI n v7.fst v7.snd.snd.snd.fst).bind fun v8 =>
    Sum.elim (fun v9=>some (.inl (v9.fst,((0,()),((),()))))) (fun v9=>some (.inr (v9.fst,((v7.snd.fst.fst,()),((),(v9.snd.fst,())))))) (v8)) else
    bif decide (v7.snd.snd.fst.do_.f=(↑196:Int)) then((DJ n v7.fst v7.snd.snd.snd.fst).bind fun v8 =>
    Sum.elim (fun v9=>some (.inl (v9.fst,((0,()),((),()))))) (fun v9=>some (.inr (v9.fst,((v7.snd.fst.fst,()),((),(v9.snd.fst,())))))) (v8)) else
    bif decide (v7.snd.snd.fst.do_.f=(↑197:Int)) then((Dr n v7.fst v7.snd.snd.snd.fst).bind fun v8 =>
    Sum.elim (fun v9=>some (.inl (v9.fst,((0,()),((),()))))) (fun v9=>some (.inr (v9.fst,((v7.snd.fst.fst,()),((),(v9.snd.fst,())))))) (v8)) else
    bif decide (v7.snd.snd.fst.do_.f=(↑198:Int)) then((BJ n v7.fst v7.snd.snd.snd.fst).bind fun v8 =>
    Sum.elim (fun v9=>some (.inl (v9.fst,((0,()),((),()))))) (fun v9=>some (.inr (v9.fst,((v7.snd.fst.fst,()),((),(v9.snd.fst,())))))) (v8)) else
    bif decide (v7.snd.snd.fst.do_.f=(↑199:Int)) then((Co n v7.fst v7.snd.snd.snd.fst).bind fun v8 =>
    Sum.elim (fun v9=>some (.inl (v9.fst,((0,()),((),()))))) (fun v9=>some (.inr (v9.fst,((v7.snd.fst.fst,()),((),(v9.snd.fst,())))))) (v8)) else
    bif decide (v7.snd.snd.fst.do_.f=(↑200:Int)) then((Cq n v7.fst v7.snd.snd.snd.fst).bind fun v8 =>
    Sum.elim (fun v9=>some (.inl (v9.fst,((0,()),((),()))))) (fun v9=>some (.inr (v9.fst,((v7.snd.fst.fst,()),((),(v9.snd.fst,())))))) (v8)) else
    none) else
    none) (fun v7=>some (.inr (v7.fst,((v7.snd.fst.fst,()),((),(v7.snd.snd.snd.snd.snd.fst,())))))) (v6)) (fun v4=>some (.inr (g,((e,()),((),(v4.fst,())))))) (v3)
def Uu (n:Nat) (y:C.Ds Ty (Aj M7)):Option (YT Ty Pa):=Ae0 n y.1 y.2.1 y.2.2.1.1
noncomputable def nextB_T (n:Nat):List (Nat×AE Ty):=[(112,splitS_law n),(138,words_law n),(139,fgarage_ask_law n),(140,fgarage_number_law n),(189,fgarage_session_found_law n),(190,fgarage_session_held_law n),(191,fgarage_session_signed_law n),(192,fgarage_session_checked_law n),(193,fgarage_session_out_law n),(194,fgarage_session_in_law n),(195,fgarage_session_sale_law n),(196,fgarage_session_sync_law n),(197,fgarage_session_close_law n),(198,fgarage_session_driver_law n),(199,fgarage_session_duty_law n),(200,fgarage_session_give_law n)]
theorem Ab3 (n:Nat):Aq Tryz.prog (nextB_T n):=⟨Ul n,⟨Aez n,⟨Bs n,⟨QQ n,⟨FZ n,⟨Gq n,⟨Fw n,⟨EO n,⟨GQ n,⟨Ho n,⟨Gu n,⟨Gv n,⟨Gb n,⟨Fx n,⟨Gw n,⟨G2 n,trivial⟩⟩⟩⟩⟩⟩⟩⟩⟩⟩⟩⟩⟩⟩⟩⟩
noncomputable def nextB_l1_C (n:Nat):A3 Ty:=[]
theorem Ae1 (n:Nat) (x:C.Ds Ty (Aj Ly)):(Az Tryz.prog 50 (Am Tryz.prog (nextB_T n) []) (Ai (nextB_l1_C n)) (Ap 7 Tryz.f84) (Aw Ly x)).runK (AI 4 Ly SP (Pb n))=Pb (n+1) x:=by kernel_rfl
theorem Ae2 (n:Nat):A9 true Tryz.prog 50 (nextB_l1_cut n) (.loop (Ap 7 Tryz.f84)):=AM fun x y hy=>A2 (Fn:=Pb) Aa Ab (fun n=>Ad Aa Ab (Ab3 n) Al) (fun h=>by cases h) (fun h=>by cases h) (fun n=>(Af (fn:=Tryz.f84) (L:=nextB_l1_C n) (ks:=[]) trivial (by kernel_rfl) (by kernel_rfl))) (by decide) (fun _=>rfl) Ae1 hy
noncomputable def nextB_C (n:Nat):A3 Ty:=[(.loop 7,nextB_l1_cut n)]
theorem Ake (n:Nat) (x:C.Ds Ty (Aj M7)):(Az Tryz.prog 50 (Am Tryz.prog (nextB_T n) []) (Ai (nextB_C n)) (Sl 2 (An Tryz.f84)) (Aw M7 x)).runK (KX 2 Pa)=Uu n x:=by kernel_rfl
theorem AhO (n:Nat) {x:C.Ds Ty (Aj M7)} {y:YT Ty Pa} (hy:Uu n x=some y):Agr true Tryz.prog 50 (Sl 2 (An Tryz.f84)) M7 2 Pa x y:=Amf Aa Ab (Ad Aa Ab (Ab3 n) Al) (fun h=>by cases h) (fun h=>by cases h) (Af (c:=Sl 2 (An Tryz.f84)) (fn:=Tryz.f84) (L:=nextB_C n) (ks:=[.loop 7]) ⟨Ae2 n,trivial⟩ (by kernel_rfl) (by kernel_rfl)) ((Ake n x).trans hy)
end Go.Proofs.YtkpgggfibljflaaGreatDoor
