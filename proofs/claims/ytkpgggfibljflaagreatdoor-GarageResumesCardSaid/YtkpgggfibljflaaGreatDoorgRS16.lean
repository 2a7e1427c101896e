/- What a proof leans on: a machine that steps through code, and what functions compute. -/
import Derived.Test.YtkpgggfibljflaaGreatDoorgRS15
import Derived.Shelf.Strings.OnBuilder
set_option linter.all false
set_option maxRecDepth 100000
namespace Go.Proofs.YtkpgggfibljflaaGreatDoor
noncomputable section
open Go Go.RowKit Go.Proofs
open Rep (rep)
def Lb:List (Nat×C):=[(0,.l 28),(3,.s 3),(9,.l 28),(10,.s 3),(11,.s 3)]
def T4:List Wo:=[⟨.exit 0,[],[(0,.l 28),(3,.s 3)],[]⟩]
def Lc:List (Nat×C):=[(6,.o 93),(25,.l 28),(26,.s 3),(27,.s 3)]
def T5:List Wo:=[⟨.exit 2,[],[(6,.o 93)],[]⟩]
def Xk:List (Nat×C):=[(0,.l 28)]
def AcX:List Wo:=[⟨.ret,[],[],[.o 93]⟩]
def Pm:Nat→(List (List Ag))→Int→(List (List Ag))→Int→Int→Option ((List (List Ag)×Int×Unit))
 | 0,_,_,_,_,_=>none
 | n+1,slices,size,x9,x10,x11 =>
  bif decide (x11<x10) then((A3 x9 x11).bind fun v0 =>
  bif decide (IntKind.i64.wrap (size+(↑v0.length:Int))<0) then(none) else
  Pm n slices (IntKind.i64.wrap (size+(↑v0.length:Int))) x9 x10 (IntKind.i64.wrap (x11+1))) else
  some (slices,(size,()))
def Ox (n:Nat) (y:C.Ds Ty (Af Lb)):Option (YT Ty T4):=Pm n y.1 y.2.1 y.2.2.1 y.2.2.2.1 y.2.2.2.2.1
def Ziv (n:Nat):St Ty→Tr (Lf Ty):=Bc Lb 0 T4 (Ox n)
def Pn:Nat→(List Ag)→(List (List Ag))→Int→Int→Option ((List Ag×Unit))
 | 0,_,_,_,_=>none
 | n+1,newslice,x25,x26,x27 =>
  bif decide (x27<x26) then((A3 x25 x27).bind fun v0 =>
  (app newslice v0).bind fun v1 =>
  Pn n v1 x25 x26 (IntKind.i64.wrap (x27+1))) else
  some (newslice,())
def Oy (n:Nat) (y:C.Ds Ty (Af Lc)):Option (YT Ty T5):=Pn n y.1 y.2.1 y.2.2.1 y.2.2.2.1
def Ziw (n:Nat):St Ty→Tr (Lf Ty):=Bc Lc 0 T5 (Oy n)
def AfH (n:Nat) (slices:List (List Ag)):Option ((List Ag×Unit)) :=
 (Pm n slices 0 slices (↑slices.length:Int) 0).bind fun v0 =>
 (bif decide (0≤v0.snd.fst) && decide (v0.snd.fst≤1000000000) then some () else none).bind fun v1 =>
 (Pn n [] v0.fst (↑v0.fst.length:Int) 0).bind fun v2 =>
 some (v2.fst,())
def Akq (n:Nat) (y:C.Ds Ty (Af Xk)):Option (YT Ty AcX):=AfH n y.1
def ZjW (n:Nat):AA Ty:=AB Xk 0 AcX (Akq n)
def ZhM (n:Nat):List (Nat×AA Ty):=[(187,Zj2 n)]
theorem VG (n:Nat):Ap Tryz.prog (ZhM n):=⟨AnE n,trivial⟩
def Zj7 (n:Nat):A0 Ty:=[]
theorem AiQ (n:Nat) (x:C.Ds Ty (Af Lb)):(Ay Tryz.prog 36 (Al Tryz.prog (ZhM n) []) (Ae (Zj7 n)) (Am 3 Tryz.f131) (Av Lb x)).runK (A4 0 Lb T4 (Ox n))=Ox (n+1) x:=by kernel_rfl
theorem AiR (n:Nat):A5 true Tryz.prog 36 (Ziv n) (.loop (Am 3 Tryz.f131)):=A6 fun x y hy=>At (Fn:=Ox) Aa Ab (fun n=>Ac Aa Ab (VG n) Ai) (fun h=>by cases h) (fun h=>by cases h) (fun n=>(Ad (fn:=Tryz.f131) (L:=Zj7 n) (ks:=[]) trivial (by kernel_rfl) (by kernel_rfl))) (by decide) (fun _=>rfl) AiQ hy
def Zj8 (n:Nat):A0 Ty:=[]
theorem AiS (n:Nat) (x:C.Ds Ty (Af Lc)):(Ay Tryz.prog 36 (Al Tryz.prog (ZhM n) []) (Ae (Zj8 n)) (Am 11 Tryz.f131) (Av Lc x)).runK (A4 0 Lc T5 (Oy n))=Oy (n+1) x:=by kernel_rfl
theorem AiT (n:Nat):A5 true Tryz.prog 36 (Ziw n) (.loop (Am 11 Tryz.f131)):=A6 fun x y hy=>At (Fn:=Oy) Aa Ab (fun n=>Ac Aa Ab (VG n) Ai) (fun h=>by cases h) (fun h=>by cases h) (fun n=>(Ad (fn:=Tryz.f131) (L:=Zj8 n) (ks:=[]) trivial (by kernel_rfl) (by kernel_rfl))) (by decide) (fun _=>rfl) AiS hy
def Zk1 (n:Nat):A0 Ty:=[(.loop 3,Ziv n),(.loop 11,Ziw n)]
theorem Apr (n:Nat) (x:C.Ds Ty (Af Xk)):(Ay Tryz.prog 36 (Al Tryz.prog (ZhM n) []) (Ae (Zk1 n)) (Ao Tryz.f131) (Av Xk x)).runK (Ar Tryz.prog Tryz.f131.results.toList 0 AcX)=Akq n x:=by kernel_rfl
theorem AiU (n:Nat):Au Tryz.prog 131 (ZjW n):=As Tryz.func131 rfl rfl (by decide) rfl Aa Ab (Ac Aa Ab (VG n) Ai) (Ad (fn:=Tryz.f131) (L:=Zk1 n) (ks:=[.loop 3,.loop 11]) ⟨AiR n,⟨AiT n,trivial⟩⟩ (by kernel_rfl) (by kernel_rfl)) (Apr n)
def Nh:List (Nat×C):=[(0,.s 4),(1,.s 3)]
def Rr:List Wo:=[⟨.ret,[],[],[]⟩,⟨.pan,[],[],[.i 234 (.g 234)]⟩]
def AD (n:Nat) (is:Bool) (e:Int):Option (Unit ⊕ ((AG×Unit))) :=
 bif !is then(some (.inr (AG.mk e,()))) else
 some (.inl ())
def Yo (n:Nat) (y:C.Ds Ty (Af Nh)):Option (YT Ty Rr):=AD n y.1 y.2.1
def Zb7 (n:Nat):AA Ty:=AB Nh 0 Rr (Yo n)
def Zjg (n:Nat):List (Nat×AA Ty):=[]
theorem AeQ (n:Nat):Ap Tryz.prog (Zjg n):=trivial
def Zjh (n:Nat):A0 Ty:=[]
theorem Aif (n:Nat) (x:C.Ds Ty (Af Nh)):(Ay Tryz.prog 9 (Al Tryz.prog (Zjg n) []) (Ae (Zjh n)) (Ao Tryz.f139) (Av Nh x)).runK (Ar Tryz.prog Tryz.f139.results.toList 0 Rr)=Yo n x:=by kernel_rfl
theorem B8 (n:Nat):Au Tryz.prog 139 (Zb7 n):=As Tryz.func139 rfl rfl (by decide) rfl Aa Ab (Ac Aa Ab (AeQ n) Ai) (Ad (fn:=Tryz.f139) (L:=Zjh n) (ks:=[]) trivial (by kernel_rfl) (by kernel_rfl)) (Aif n)
def F7:List (Nat×C):=[(0,.l 180),(1,.g 180)]
def Jr:List Wo:=[⟨.ret,[],[],[.l 180]⟩]
def HD (n:Nat) (l:List A1) (x:A1):Option ((List A1×Unit)) :=
 (AhW n l).bind fun v0 =>
 (app v0.fst [x]).bind fun v1 =>
 some (v1,())
def NZ (n:Nat) (y:C.Ds Ty (Af F7)):Option (YT Ty Jr):=HD n y.1 y.2.1
def ZdY (n:Nat):AA Ty:=AB F7 0 Jr (NZ n)
def Zfb (n:Nat):List (Nat×AA Ty):=[(340,Zj5 n)]
theorem UG (n:Nat):Ap Tryz.prog (Zfb n):=⟨AhX n,trivial⟩
def Zfc (n:Nat):A0 Ty:=[]
theorem VH (n:Nat) (x:C.Ds Ty (Af F7)):(Ay Tryz.prog 10 (Al Tryz.prog (Zfb n) []) (Ae (Zfc n)) (Ao Tryz.f308) (Av F7 x)).runK (Ar Tryz.prog Tryz.f308.results.toList 0 Jr)=NZ n x:=by kernel_rfl
theorem Sc (n:Nat):Au Tryz.prog 308 (ZdY n):=As Tryz.func308 rfl rfl (by decide) rfl Aa Ab (Ac Aa Ab (UG n) Ai) (Ad (fn:=Tryz.f308) (L:=Zfc n) (ks:=[]) trivial (by kernel_rfl) (by kernel_rfl)) (VH n)
def HE:List (Nat×C):=[(0,.g 180)]
def Ld:List Wo:=[⟨.ret,[],[],[.s 4]⟩]
def GW (n:Nat) (c:A1):Option ((Bool×Unit)) :=
 bif decide (0≤c.bus) then(bif decide (c.bus≤99) then(bif decide (1≤c.number) then(bif decide (c.number≤999) then(bif decide (0≤c.minute) then(bif decide (c.minute≤1000000) then(bif decide (IntKind.i64.wrap c.kind.n<(↑[KF.mk (Fp.mk (↑212:Int)),KF.mk (Fp.mk (↑212:Int)),KF.mk (Fp.mk (↑213:Int)),KF.mk (Fp.mk (↑214:Int))].length:Int)) then((A3 [KF.mk (Fp.mk (↑212:Int)),KF.mk (Fp.mk (↑212:Int)),KF.mk (Fp.mk (↑213:Int)),KF.mk (Fp.mk (↑214:Int))] c.kind.n).bind fun v0 =>
 ([KF.mk (Fp.mk (↑212:Int)),KF.mk (Fp.mk (↑212:Int)),KF.mk (Fp.mk (↑213:Int)),KF.mk (Fp.mk (↑214:Int))].get?Internal c.kind.n.toNat).bind fun v1 =>
 bif decide (v1.right.f=(↑212:Int)) then(bif decide (0≤c.part) then(bif decide (c.part≤15) then(some (decide (c.sg=0),())) else
 some (false,())) else
 some (false,())) else
 bif decide (v1.right.f=(↑213:Int)) then(bif decide (c.part=0) then(bif decide (1≤c.sg) then(some (decide (c.sg≤999),())) else
 some (false,())) else
 some (false,())) else
 bif decide (v1.right.f=(↑214:Int)) then(bif decide (c.part=0) then(some (decide (c.sg=0),())) else
 some (false,())) else
 none) else
 some (false,())) else
 some (false,())) else
 some (false,())) else
 some (false,())) else
 some (false,())) else
 some (false,())) else
 some (false,())
def QK (n:Nat) (y:C.Ds Ty (Af HE)):Option (YT Ty Ld):=GW n y.1
def Zfd (n:Nat):AA Ty:=AB HE 0 Ld (QK n)
def Zgu (n:Nat):List (Nat×AA Ty):=[]
theorem Xz (n:Nat):Ap Tryz.prog (Zgu n):=trivial
def Zgv (n:Nat):A0 Ty:=[]
theorem Ze (n:Nat) (x:C.Ds Ty (Af HE)):(Ay Tryz.prog 34 (Al Tryz.prog (Zgu n) []) (Ae (Zgv n)) (Ao Tryz.f106) (Av HE x)).runK (Ar Tryz.prog Tryz.f106.results.toList 0 Ld)=QK n x:=by kernel_rfl
theorem UH (n:Nat):Au Tryz.prog 106 (Zfd n):=As Tryz.func106 rfl rfl (by decide) rfl Aa Ab (Ac Aa Ab (Xz n) Ai) (Ad (fn:=Tryz.f106) (L:=Zgv n) (ks:=[]) trivial (by kernel_rfl) (by kernel_rfl)) (Ze n)
def Ip:List (Nat×C):=[(0,.l 180),(1,.f 158 [] [.p [.f 106 [] []]]),(7,.s 3),(8,.s 3)]
def Po:List Wo:=[⟨.exit 0,[.p [.f 106 [] []]],[],[]⟩,⟨.ret,[.p [.f 106 [] []]],[(4,.s 3)],[]⟩]
def Iq:List (Nat×C):=[(4,.p [.m 3 180,.o 3]),(20,.l 180),(21,.s 3),(22,.s 3)]
def Pp:List Wo:=[⟨.exit 1,[.p [.m 3 180,.o 3],.q 1],[(4,.q 0)],[]⟩,⟨.ret,[.p [.m 3 180,.o 3],.q 1],[(2,.z),(3,.s 3)],[]⟩]
def QL:List (Nat×C):=[(0,.l 180)]
def VI:List Wo:=[⟨.ret,[],[],[.z,.s 3]⟩,⟨.ret,[],[],[.p [.m 3 180,.l 3],.s 3]⟩]
def Gy:Nat→(List A1)→Int→Int→Option ((((Unit×Unit)×Unit)×Unit) ⊕ ((((Unit×Unit)×Unit)×Int×Unit)))
 | 0,_,_,_=>none
 | n+1,s,x7,x8 =>
  bif decide (x8<x7) then((A3 s x8).bind fun v0 =>
  (GW n v0).bind fun v1 =>
  bif !v1.fst then(some (.inr ((((),()),()),(x8,())))) else
  Gy n s x7 (IntKind.i64.wrap (x8+1))) else
  some (.inl ((((),()),()),()))
def Le (n:Nat) (y:C.Ds Ty (Af Ip)):Option (YT Ty Po):=Gy n y.1 y.2.2.1 y.2.2.2.1
def ZdT (n:Nat):St Ty→Tr (Lf Ty):=Bc Ip 1 Po (Le n)
def Ct:Nat→(List (Int×A1))→(List Int)→(List A1)→Int→Int→Option ((((List (Int×A1))×List Int×Unit)×Unit×Unit×Unit) ⊕ ((((List (Int×A1))×List Int×Unit)×Unit×Unit×Int×Unit)))
 | 0,_,_,_,_,_=>none
 | n+1,b1,b2,x20,x21,x22 =>
  bif decide (x22<x21) then((A3 x20 x22).bind fun v0 =>
  bif Dl Ce b1 v0.number then(bif !(decide ((AV Ce b1 v0.number (A1.mk 0 0 0 (IK.mk 0) 0 0)).bus=v0.bus) && (decide ((AV Ce b1 v0.number (A1.mk 0 0 0 (IK.mk 0) 0 0)).number=v0.number) && (decide ((AV Ce b1 v0.number (A1.mk 0 0 0 (IK.mk 0) 0 0)).minute=v0.minute) && (decide ((AV Ce b1 v0.number (A1.mk 0 0 0 (IK.mk 0) 0 0)).kind.n=v0.kind.n) && (decide ((AV Ce b1 v0.number (A1.mk 0 0 0 (IK.mk 0) 0 0)).part=v0.part) && (decide ((AV Ce b1 v0.number (A1.mk 0 0 0 (IK.mk 0) 0 0)).sg=v0.sg) && true)))))) then(some (.inr ((b1,(b2,())),((),((),(6,())))))) else
  bif !Dl Ce b1 v0.number then((app b2 [v0.number]).bind fun v1 =>
  Ct n (JA Ce b1 v0.number v0) v1 x20 x21 (IntKind.i64.wrap (x22+1))) else
  Ct n b1 b2 x20 x21 (IntKind.i64.wrap (x22+1))) else
  bif !Dl Ce b1 v0.number then((app b2 [v0.number]).bind fun v1 =>
  Ct n (JA Ce b1 v0.number v0) v1 x20 x21 (IntKind.i64.wrap (x22+1))) else
  Ct n b1 b2 x20 x21 (IntKind.i64.wrap (x22+1))) else
  some (.inl ((b1,(b2,())),((),((),()))))
def Lg (n:Nat) (y:C.Ds Ty (Af Iq)):Option (YT Ty Pp):=Ct n y.1.1 y.1.2.1 y.2.1 y.2.2.1 y.2.2.2.1
def Zhc (n:Nat):St Ty→Tr (Lf Ty):=Bc Iq 2 Pp (Lg n)
def Sd (n:Nat) (l:List A1):Option ((Unit×Int×Unit) ⊕ ((((List (Int×A1))×List Int×Unit)×Int×Unit))) :=
 bif decide ((↑l.length:Int)>40) then(some (.inl ((),(3,())))) else
 (Gy n l (↑l.length:Int) 0).bind fun v0 =>
 Sum.elim (fun v1=>(Ct n [] [] l (↑l.length:Int) 0).bind fun v2 =>
 Sum.elim (fun v3=>(Apc v3.fst.snd.fst).bind fun v4 =>
 some (.inr ((v3.fst.fst,(v4,())),(0,())))) (fun v3=>some (.inl ((),(v3.snd.snd.snd.fst,())))) (v2)) (fun v1=>bif !!decide (v1.snd.fst≥0) then(some (.inl ((),(1,())))) else
 (Ct n [] [] l (↑l.length:Int) 0).bind fun v2 =>
 Sum.elim (fun v3=>(Apc v3.fst.snd.fst).bind fun v4 =>
 some (.inr ((v3.fst.fst,(v4,())),(0,())))) (fun v3=>some (.inl ((),(v3.snd.snd.snd.fst,())))) (v2)) (v0)
def Aey (n:Nat) (y:C.Ds Ty (Af QL)):Option (YT Ty VI):=Sd n y.1
def Zgn (n:Nat):AA Ty:=AB QL 0 VI (Aey n)
def ZfJ (n:Nat):List (Nat×AA Ty):=[(106,Zfd n),(108,Zkx n)]
theorem Rs (n:Nat):Ap Tryz.prog (ZfJ n):=⟨UH n,⟨AnA n,trivial⟩⟩
def Zix (n:Nat):A0 Ty:=[]
theorem AeR (n:Nat) (x:C.Ds Ty (Af Ip)):(Ay Tryz.prog 19 (Al Tryz.prog (ZfJ n) []) (Ae (Zix n)) (Am 2 Tryz.f210) (Av Ip x)).runK (A4 1 Ip Po (Le n))=Le (n+1) x:=by kernel_rfl
theorem AeS (n:Nat):A5 true Tryz.prog 19 (ZdT n) (.loop (Am 2 Tryz.f210)):=A6 fun x y hy=>At (Fn:=Le) Aa Ab (fun n=>Ac Aa Ab (Rs n) Ai) (fun h=>by cases h) (fun h=>by cases h) (fun n=>(Ad (fn:=Tryz.f210) (L:=Zix n) (ks:=[]) trivial (by kernel_rfl) (by kernel_rfl))) (by decide) (fun _=>rfl) AeR hy
def Zhd (n:Nat):UF Ty:=[(210,[(.loop 2,ZdT n)])]
theorem VJ (n:Nat):NY Tryz.prog (Zhd n):=⟨HA (f:=210) Tryz.func210 rfl (Ad (fn:=Tryz.f210) (L:=[(.loop 2,ZdT n)]) (ks:=[.loop 2]) ⟨AeS n,trivial⟩ (by kernel_rfl) (by kernel_rfl)),trivial⟩
def Ziy (n:Nat):A0 Ty:=[]
theorem AeT (n:Nat) (x:C.Ds Ty (Af Iq)):(Ay Tryz.prog 69 (Al Tryz.prog (ZfJ n) (Zhd n)) (Ae (Ziy n)) (Am 7 Tryz.f66) (Av Iq x)).runK (A4 2 Iq Pp (Lg n))=Lg (n+1) x:=by kernel_rfl
theorem AeU (n:Nat):A5 true Tryz.prog 69 (Zhc n) (.loop (Am 7 Tryz.f66)):=A6 fun x y hy=>At (Fn:=Lg) Aa Ab (fun n=>Ac Aa Ab (Rs n) (VJ n)) (fun h=>by cases h) (fun h=>by cases h) (fun n=>(Ad (fn:=Tryz.f66) (L:=Ziy n) (ks:=[]) trivial (by kernel_rfl) (by kernel_rfl))) (by decide) (fun _=>rfl) AeT hy
def ZjX (n:Nat):A0 Ty:=[(.loop 7,Zhc n)]
theorem Al2 (n:Nat) (x:C.Ds Ty (Af QL)):(Ay Tryz.prog 69 (Al Tryz.prog (ZfJ n) (Zhd n)) (Ae (ZjX n)) (Ao Tryz.f66) (Av QL x)).runK (Ar Tryz.prog Tryz.f66.results.toList 0 VI)=Aey n x:=by kernel_rfl
theorem Uv (n:Nat):Au Tryz.prog 66 (Zgn n):=As Tryz.func66 rfl rfl (by decide) rfl Aa Ab (Ac Aa Ab (Rs n) (VJ n)) (Ad (fn:=Tryz.f66) (L:=ZjX n) (ks:=[.loop 7]) ⟨AeU n,trivial⟩ (by kernel_rfl) (by kernel_rfl)) (Al2 n)
def HF:List (Nat×C):=[(0,.l 180)]
def Lh:List Wo:=[⟨.ret,[],[],[.s 3]⟩]
def JQ (n:Nat) (l:List A1):Option ((Int×Unit)) :=
 (Sd n l).bind fun v0 =>
 Sum.elim (fun v1=>some (v1.snd.fst,())) (fun v1=>some (v1.snd.fst,())) (v0)
def QM (n:Nat) (y:C.Ds Ty (Af HF)):Option (YT Ty Lh):=JQ n y.1
def Zfe (n:Nat):AA Ty:=El (AB HF 0 Lh (QM n))
def Zgw (n:Nat):List (Nat×AA Ty):=[(66,Zgn n)]
theorem X1 (n:Nat):Ap Tryz.prog (Zgw n):=⟨Uv n,trivial⟩
def Zgx (n:Nat):A0 Ty:=[]
theorem Zf (n:Nat) (x:C.Ds Ty (Af HF)):(Ay Tryz.prog 11 (Al Tryz.prog (Zgw n) []) (Ae (Zgx n)) (Ao Tryz.f309) (Av HF x)).runK (Ar Tryz.prog Tryz.f309.results.toList 0 Lh)=QM n x:=by kernel_rfl
theorem UJ (n:Nat):Au Tryz.prog 309 (Zfe n):=AX (As Tryz.func309 rfl rfl (by decide) rfl Aa Ab (Ac Aa Ab (X1 n) Ai) (Ad (fn:=Tryz.f309) (L:=Zgx n) (ks:=[]) trivial (by kernel_rfl) (by kernel_rfl)) (Zf n))
def Li:List (Nat×C):=[(0,.s 3)]
def Pq:List Wo:=[⟨.ret,[],[],[]⟩,⟨.pan,[],[],[.i 234 (.g 234)]⟩]
def Dm (n:Nat) (e:Int):Option (Unit ⊕ ((AG×Unit))) :=
 (AD n (decide (e=0)) e).bind fun v0 =>
 Sum.elim (fun v1=>some (.inl ())) (fun v1=>some (.inr (v1.fst,()))) (v0)
def VK (n:Nat) (y:C.Ds Ty (Af Li)):Option (YT Ty Pq):=Dm n y.1
def ZbE (n:Nat):AA Ty:=AB Li 0 Pq (VK n)
def Ziz (n:Nat):List (Nat×AA Ty):=[(139,Zb7 n)]
theorem AcY (n:Nat):Ap Tryz.prog (Ziz n):=⟨B8 n,trivial⟩
def Zi0 (n:Nat):A0 Ty:=[]
theorem AeV (n:Nat) (x:C.Ds Ty (Af Li)):(Ay Tryz.prog 6 (Al Tryz.prog (Ziz n) []) (Ae (Zi0 n)) (Ao Tryz.f259) (Av Li x)).runK (Ar Tryz.prog Tryz.f259.results.toList 0 Pq)=VK n x:=by kernel_rfl
theorem DE (n:Nat):Au Tryz.prog 259 (ZbE n):=As Tryz.func259 rfl rfl (by decide) rfl Aa Ab (Ac Aa Ab (AcY n) Ai) (Ad (fn:=Tryz.f259) (L:=Zi0 n) (ks:=[]) trivial (by kernel_rfl) (by kernel_rfl)) (AeV n)
def B1:List (Nat×C):=[(0,.u 114),(3,.u 180),(11,.l 180),(12,.s 3),(13,.s 3)]
def Eo:List Wo:=[⟨.exit 0,[.u 114,.u 180],[(0,.q 0),(3,.q 1)],[]⟩,⟨.pan,[.u 114,.u 180],[],[.i 234 (.g 234)]⟩]
def Dn:List (Nat×C):=[(0,.u 114),(1,.g 180)]
def Gz:List Wo:=[⟨.ret,[.u 114],[],[]⟩,⟨.pan,[.u 114],[],[.i 234 (.g 234)]⟩]
def Bo:Nat→Aj→A1→(List A1)→Int→Int→Option ((Aj×A1×Unit×Unit×Unit) ⊕ ((Aj×A1×AG×Unit)))
 | 0,_,_,_,_,_=>none
 | n+1,g,c,x11,x12,x13 =>
  bif decide (x13<x12) then((A3 x11 x13).bind fun v0 =>
  (AD n (!(decide (v0.bus=c.bus) && (decide (v0.number=c.number) && (decide (v0.minute=c.minute) && (decide (v0.kind.n=c.kind.n) && (decide (v0.part=c.part) && (decide (v0.sg=c.sg) && true))))))) 6).bind fun v1 =>
  Sum.elim (fun v2=>Bo n g c x11 x12 (IntKind.i64.wrap (x13+1))) (fun v2=>some (.inr (g,(c,(v2.fst,()))))) (v1)) else
  some (.inl (g,(c,((),((),())))))
def Cj (n:Nat) (y:C.Ds Ty (Af B1)):Option (YT Ty Eo):=Bo n y.1 y.2.1 y.2.2.1 y.2.2.2.1 y.2.2.2.2.1
def Zcv (n:Nat):St Ty→Tr (Lf Ty):=Bc B1 2 Eo (Cj n)
def Bt (n:Nat) (g:Aj) (c:A1):Option ((Aj×Unit) ⊕ ((Aj×AG×Unit))) :=
 (Bo n g c g.state.cards (↑g.state.cards.length:Int) 0).bind fun v0 =>
 Sum.elim (fun v1=>(HD n v1.fst.state.cards v1.snd.fst).bind fun v2 =>
 (JQ n v2.fst).bind fun v3 =>
 (Dm n v3.fst).bind fun v4 =>
 Sum.elim (fun v5=>some (.inl (Aj.mk (An.mk v2.fst v1.fst.state.outs v1.fst.state.runs v1.fst.state.records v1.fst.state.week v1.fst.state.roster),()))) (fun v5=>some (.inr (v1.fst,(v5.fst,())))) (v4)) (fun v1=>some (.inr (v1.fst,(v1.snd.snd.fst,())))) (v0)
def Lj (n:Nat) (y:C.Ds Ty (Af Dn)):Option (YT Ty Gz):=Bt n y.1 y.2.1
def Zb8 (n:Nat):AA Ty:=AB Dn 1 Gz (Lj n)
def Zce (n:Nat):List (Nat×AA Ty):=[(139,Zb7 n),(308,ZdY n),(309,Zfe n),(259,ZbE n)]
theorem JE (n:Nat):Ap Tryz.prog (Zce n):=⟨B8 n,⟨Sc n,⟨UJ n,⟨DE n,trivial⟩⟩⟩⟩
def ZcE (n:Nat):A0 Ty:=[]
theorem Pr (n:Nat) (x:C.Ds Ty (Af B1)):(Ay Tryz.prog 37 (Al Tryz.prog (Zce n) []) (Ae (ZcE n)) (Am 2 Tryz.f258) (Av B1 x)).runK (A4 2 B1 Eo (Cj n))=Cj (n+1) x:=by kernel_rfl
theorem Ps (n:Nat):A5 true Tryz.prog 37 (Zcv n) (.loop (Am 2 Tryz.f258)):=A6 fun x y hy=>At (Fn:=Cj) Aa Ab (fun n=>Ac Aa Ab (JE n) Ai) (fun h=>by cases h) (fun h=>by cases h) (fun n=>(Ad (fn:=Tryz.f258) (L:=ZcE n) (ks:=[]) trivial (by kernel_rfl) (by kernel_rfl))) (by decide) (fun _=>rfl) Pr hy
def Zd4 (n:Nat):A0 Ty:=[(.loop 2,Zcv n)]
theorem Se (n:Nat) (x:C.Ds Ty (Af Dn)):(Ay Tryz.prog 37 (Al Tryz.prog (Zce n) []) (Ae (Zd4 n)) (Ao Tryz.f258) (Av Dn x)).runK (Ar Tryz.prog Tryz.f258.results.toList 1 Gz)=Lj n x:=by kernel_rfl
theorem BV (n:Nat):Au Tryz.prog 258 (Zb8 n):=As Tryz.func258 rfl rfl (by decide) rfl Aa Ab (Ac Aa Ab (JE n) Ai) (Ad (fn:=Tryz.f258) (L:=Zd4 n) (ks:=[.loop 2]) ⟨Ps n,trivial⟩ (by kernel_rfl) (by kernel_rfl)) (Se n)
def CH:List (Nat×C):=[(0,.u 114),(1,.v 3)]
def FY:List Wo:=[⟨.ret,[.u 114],[],[]⟩,⟨.pan,[.u 114],[],[.i 234 (.g 234)]⟩]
def DU (n:Nat) (g:Aj) (n_:List Int):Option ((Aj×Unit) ⊕ ((Aj×AG×Unit))) :=
 bif n_.length.beq 5 then((A3 n_ 0).bind fun v0 =>
 (n_.get?Internal (Int.toNat 0)).bind fun v1 =>
 bif n_.length.beq 5 then((A3 n_ 1).bind fun v2 =>
 (n_.get?Internal (Int.toNat 1)).bind fun v3 =>
 bif n_.length.beq 5 then((A3 n_ 2).bind fun v4 =>
 (n_.get?Internal (Int.toNat 2)).bind fun v5 =>
 bif n_.length.beq 5 then((A3 n_ 3).bind fun v6 =>
 (n_.get?Internal (Int.toNat 3)).bind fun v7 =>
 (Bt n g (A1.mk v1 v3 v5 (IK.mk 0) v7 0)).bind fun v8 =>
 Sum.elim (fun v9=>some (.inl (v9.fst,()))) (fun v9=>some (.inr (v9.fst,(v9.snd.fst,())))) (v8)) else
 none) else
 none) else
 none) else
 none
def K6 (n:Nat) (y:C.Ds Ty (Af CH)):Option (YT Ty FY):=DU n y.1 y.2.1
def ZbO (n:Nat):AA Ty:=AB CH 1 FY (K6 n)
def Zdk (n:Nat):List (Nat×AA Ty):=[(258,Zb8 n)]
theorem Qd (n:Nat):Ap Tryz.prog (Zdk n):=⟨BV n,trivial⟩
def Zdl (n:Nat):A0 Ty:=[]
theorem Rt (n:Nat) (x:C.Ds Ty (Af CH)):(Ay Tryz.prog 15 (Al Tryz.prog (Zdk n) []) (Ae (Zdl n)) (Ao Tryz.f189) (Av CH x)).runK (Ar Tryz.prog Tryz.f189.results.toList 1 FY)=K6 n x:=by kernel_rfl
theorem HG (n:Nat):Au Tryz.prog 189 (ZbO n):=As Tryz.func189 rfl rfl (by decide) rfl Aa Ab (Ac Aa Ab (Qd n) Ai) (Ad (fn:=Tryz.f189) (L:=Zdl n) (ks:=[]) trivial (by kernel_rfl) (by kernel_rfl)) (Rt n)
def Dp:List (Nat×C):=[(0,.u 114),(1,.v 3)]
def G0:List Wo:=[⟨.ret,[.u 114],[],[]⟩,⟨.pan,[.u 114],[],[.i 234 (.g 234)]⟩]
def E6 (n:Nat) (g:Aj) (n_:List Int):Option ((Aj×Unit) ⊕ ((Aj×AG×Unit))) :=
 bif n_.length.beq 5 then((A3 n_ 0).bind fun v0 =>
 (n_.get?Internal (Int.toNat 0)).bind fun v1 =>
 bif n_.length.beq 5 then((A3 n_ 1).bind fun v2 =>
 (n_.get?Internal (Int.toNat 1)).bind fun v3 =>
 bif n_.length.beq 5 then((A3 n_ 2).bind fun v4 =>
 (n_.get?Internal (Int.toNat 2)).bind fun v5 =>
 bif n_.length.beq 5 then((A3 n_ 3).bind fun v6 =>
 (n_.get?Internal (Int.toNat 3)).bind fun v7 =>
 (Bt n g (A1.mk v1 v3 v5 (IK.mk 1) v7 0)).bind fun v8 =>
 Sum.elim (fun v9=>some (.inl (v9.fst,()))) (fun v9=>some (.inr (v9.fst,(v9.snd.fst,())))) (v8)) else
 none) else
 none) else
 none) else
 none
def Lk (n:Nat) (y:C.Ds Ty (Af Dp)):Option (YT Ty G0):=E6 n y.1 y.2.1
def ZbS (n:Nat):AA Ty:=AB Dp 1 G0 (Lk n)
def Zd5 (n:Nat):List (Nat×AA Ty):=[(258,Zb8 n)]
theorem Ru (n:Nat):Ap Tryz.prog (Zd5 n):=⟨BV n,trivial⟩
def Zd6 (n:Nat):A0 Ty:=[]
theorem Sf (n:Nat) (x:C.Ds Ty (Af Dp)):(Ay Tryz.prog 15 (Al Tryz.prog (Zd5 n) []) (Ae (Zd6 n)) (Ao Tryz.f190) (Av Dp x)).runK (Ar Tryz.prog Tryz.f190.results.toList 1 G0)=Lk n x:=by kernel_rfl
theorem Ir (n:Nat):Au Tryz.prog 190 (ZbS n):=As Tryz.func190 rfl rfl (by decide) rfl Aa Ab (Ac Aa Ab (Ru n) Ai) (Ad (fn:=Tryz.f190) (L:=Zd6 n) (ks:=[]) trivial (by kernel_rfl) (by kernel_rfl)) (Sf n)
def Cu:List (Nat×C):=[(0,.u 114),(1,.v 3)]
def Fk:List Wo:=[⟨.ret,[.u 114],[],[]⟩,⟨.pan,[.u 114],[],[.i 234 (.g 234)]⟩]
def Dq (n:Nat) (g:Aj) (n_:List Int):Option ((Aj×Unit) ⊕ ((Aj×AG×Unit))) :=
 bif n_.length.beq 5 then((A3 n_ 0).bind fun v0 =>
 (n_.get?Internal (Int.toNat 0)).bind fun v1 =>
 bif n_.length.beq 5 then((A3 n_ 1).bind fun v2 =>
 (n_.get?Internal (Int.toNat 1)).bind fun v3 =>
 bif n_.length.beq 5 then((A3 n_ 2).bind fun v4 =>
 (n_.get?Internal (Int.toNat 2)).bind fun v5 =>
 bif n_.length.beq 5 then((A3 n_ 3).bind fun v6 =>
 (n_.get?Internal (Int.toNat 3)).bind fun v7 =>
 (Bt n g (A1.mk v1 v3 v5 (IK.mk 2) 0 v7)).bind fun v8 =>
 Sum.elim (fun v9=>some (.inl (v9.fst,()))) (fun v9=>some (.inr (v9.fst,(v9.snd.fst,())))) (v8)) else
 none) else
 none) else
 none) else
 none
def JF (n:Nat) (y:C.Ds Ty (Af Cu)):Option (YT Ty Fk):=Dq n y.1 y.2.1
def ZbJ (n:Nat):AA Ty:=AB Cu 1 Fk (JF n)
def ZcO (n:Nat):List (Nat×AA Ty):=[(258,Zb8 n)]
theorem Pt (n:Nat):Ap Tryz.prog (ZcO n):=⟨BV n,trivial⟩
def ZcP (n:Nat):A0 Ty:=[]
theorem Qe (n:Nat) (x:C.Ds Ty (Af Cu)):(Ay Tryz.prog 15 (Al Tryz.prog (ZcO n) []) (Ae (ZcP n)) (Ao Tryz.f191) (Av Cu x)).runK (Ar Tryz.prog Tryz.f191.results.toList 1 Fk)=JF n x:=by kernel_rfl
theorem GX (n:Nat):Au Tryz.prog 191 (ZbJ n):=As Tryz.func191 rfl rfl (by decide) rfl Aa Ab (Ac Aa Ab (Pt n) Ai) (Ad (fn:=Tryz.f191) (L:=ZcP n) (ks:=[]) trivial (by kernel_rfl) (by kernel_rfl)) (Qe n)
def Ck:List (Nat×C):=[(0,.u 114),(1,.v 3)]
def Ep:List Wo:=[⟨.ret,[.u 114],[],[]⟩,⟨.pan,[.u 114],[],[.i 234 (.g 234)]⟩]
def CI (n:Nat) (g:Aj) (n_:List Int):Option ((Aj×Unit) ⊕ ((Aj×AG×Unit))) :=
 bif n_.length.beq 5 then((A3 n_ 0).bind fun v0 =>
 (n_.get?Internal (Int.toNat 0)).bind fun v1 =>
 bif n_.length.beq 5 then((A3 n_ 1).bind fun v2 =>
 (n_.get?Internal (Int.toNat 1)).bind fun v3 =>
 bif n_.length.beq 5 then((A3 n_ 2).bind fun v4 =>
 (n_.get?Internal (Int.toNat 2)).bind fun v5 =>
 (Bt n g (A1.mk v1 v3 v5 (IK.mk 3) 0 0)).bind fun v6 =>
 Sum.elim (fun v7=>some (.inl (v7.fst,()))) (fun v7=>some (.inr (v7.fst,(v7.snd.fst,())))) (v6)) else
 none) else
 none) else
 none
def Jl (n:Nat) (y:C.Ds Ty (Af Ck)):Option (YT Ty Ep):=CI n y.1 y.2.1
def ZbH (n:Nat):AA Ty:=AB Ck 1 Ep (Jl n)
def ZcF (n:Nat):List (Nat×AA Ty):=[(258,Zb8 n)]
theorem Oz (n:Nat):Ap Tryz.prog (ZcF n):=⟨BV n,trivial⟩
def ZcG (n:Nat):A0 Ty:=[]
theorem Pu (n:Nat) (x:C.Ds Ty (Af Ck)):(Ay Tryz.prog 13 (Al Tryz.prog (ZcF n) []) (Ae (ZcG n)) (Ao Tryz.f192) (Av Ck x)).runK (Ar Tryz.prog Tryz.f192.results.toList 1 Ep)=Jl n x:=by kernel_rfl
theorem Gs (n:Nat):Au Tryz.prog 192 (ZbH n):=As Tryz.func192 rfl rfl (by decide) rfl Aa Ab (Ac Aa Ab (Oz n) Ai) (Ad (fn:=Tryz.f192) (L:=ZcG n) (ks:=[]) trivial (by kernel_rfl) (by kernel_rfl)) (Pu n)
def IP:List (Nat×C):=[(0,.s 3),(1,.s 3),(2,.s 3)]
def MM:List Wo:=[⟨.ret,[],[],[.s 4]⟩]
def AZ (n:Nat) (n_:Int) (low:Int) (high:Int):Option ((Bool×Unit)) :=
 bif decide (low≤n_) then(some (decide (n_≤high),())) else
 some (false,())
def Sg (n:Nat) (y:C.Ds Ty (Af IP)):Option (YT Ty MM):=AZ n y.1 y.2.1 y.2.2.1
def ZbC (n:Nat):AA Ty:=AB IP 0 MM (Sg n)
def Zhe (n:Nat):List (Nat×AA Ty):=[]
theorem Zg (n:Nat):Ap Tryz.prog (Zhe n):=trivial
def Zhf (n:Nat):A0 Ty:=[]
theorem Abq (n:Nat) (x:C.Ds Ty (Af IP)):(Ay Tryz.prog 15 (Al Tryz.prog (Zhe n) []) (Ae (Zhf n)) (Ao Tryz.f75) (Av IP x)).runK (Ar Tryz.prog Tryz.f75.results.toList 0 MM)=Sg n x:=by kernel_rfl
theorem C9 (n:Nat):Au Tryz.prog 75 (ZbC n):=As Tryz.func75 rfl rfl (by decide) rfl Aa Ab (Ac Aa Ab (Zg n) Ai) (Ad (fn:=Tryz.f75) (L:=Zhf n) (ks:=[]) trivial (by kernel_rfl) (by kernel_rfl)) (Abq n)
def Sh:List (Nat×C):=[(1,.s 3),(5,.s 3),(12,.l 60),(13,.s 3),(14,.s 3)]
def AcZ:List Wo:=[⟨.exit 0,[],[(5,.s 3)],[]⟩]
def Al3:List (Nat×C):=[(0,.u 114),(1,.s 3)]
def Aps:List Wo:=[⟨.ret,[.u 114],[],[.s 3]⟩]
def Abr:Nat→Int→Int→(List Xy)→Int→Int→Option ((Int×Unit))
 | 0,_,_,_,_,_=>none
 | n+1,bus,at_,x12,x13,x14 =>
  bif decide (x14<x13) then((A3 x12 x14).bind fun v0 =>
  bif decide (v0.bus=bus) then(some (x14,())) else
  Abr n bus at_ x12 x13 (IntKind.i64.wrap (x14+1))) else
  some (at_,())
def Xl (n:Nat) (y:C.Ds Ty (Af Sh)):Option (YT Ty AcZ):=Abr n y.1 y.2.1 y.2.2.1 y.2.2.2.1 y.2.2.2.2.1
def ZjY (n:Nat):St Ty→Tr (Lf Ty):=Bc Sh 0 AcZ (Xl n)
def ArN (n:Nat) (g:Aj) (bus:Int):Option ((Aj×Int×Unit)) :=
 (Abr n bus (-1) g.state.outs (↑g.state.outs.length:Int) 0).bind fun v0 =>
 some (g,(v0.fst,()))
def Auo (n:Nat) (y:C.Ds Ty (Af Al3)):Option (YT Ty Aps):=ArN n y.1 y.2.1
def Zkq (n:Nat):AA Ty:=AB Al3 1 Aps (Auo n)
def Zk6 (n:Nat):List (Nat×AA Ty):=[]
theorem AnG (n:Nat):Ap Tryz.prog (Zk6 n):=trivial
def Zk2 (n:Nat):A0 Ty:=[]
theorem Apt (n:Nat) (x:C.Ds Ty (Af Sh)):(Ay Tryz.prog 26 (Al Tryz.prog (Zk6 n) []) (Ae (Zk2 n)) (Am 3 Tryz.f94) (Av Sh x)).runK (A4 0 Sh AcZ (Xl n))=Xl (n+1) x:=by kernel_rfl
theorem Apu (n:Nat):A5 true Tryz.prog 26 (ZjY n) (.loop (Am 3 Tryz.f94)):=A6 fun x y hy=>At (Fn:=Xl) Aa Ab (fun n=>Ac Aa Ab (AnG n) Ai) (fun h=>by cases h) (fun h=>by cases h) (fun n=>(Ad (fn:=Tryz.f94) (L:=Zk2 n) (ks:=[]) trivial (by kernel_rfl) (by kernel_rfl))) (by decide) (fun _=>rfl) Apt hy
def ZkC (n:Nat):A0 Ty:=[(.loop 3,ZjY n)]
theorem AvF (n:Nat) (x:C.Ds Ty (Af Al3)):(Ay Tryz.prog 26 (Al Tryz.prog (Zk6 n) []) (Ae (ZkC n)) (Ao Tryz.f94) (Av Al3 x)).runK (Ar Tryz.prog Tryz.f94.results.toList 1 Aps)=Auo n x:=by kernel_rfl
theorem Aig (n:Nat):Au Tryz.prog 94 (Zkq n):=As Tryz.func94 rfl rfl (by decide) rfl Aa Ab (Ac Aa Ab (AnG n) Ai) (Ad (fn:=Tryz.f94) (L:=ZkC n) (ks:=[.loop 3]) ⟨Apu n,trivial⟩ (by kernel_rfl) (by kernel_rfl)) (AvF n)
def CA:List (Nat×C):=[(0,.y 0 69 [5,6,7] [.p [.s 3],.p [.o 3],.p [.f 109 [.p [.m 3 180,.l 3]] []]]),(1,.p [.q 4]),(2,.p [.s 3]),(10,.l 3),(11,.s 3),(12,.s 3)]
def Is:List Wo:=[⟨.exit 0,[.y 0 69 [5,6,7] [.p [.s 3],.p [.o 3],.p [.f 109 [.p [.m 3 180,.l 3]] []]],.q 1,.q 2,.q 3,.q 4,.q 5,.p [.q 4],.p [.s 3]],[],[]⟩,⟨.ret,[.y 0 69 [5,6,7] [.p [.s 3],.p [.o 3],.p [.f 109 [.p [.m 3 180,.l 3]] []]],.q 1,.q 2,.q 3,.q 4,.q 5,.p [.q 4],.p [.s 3]],[],[]⟩]
def HH:List (Nat×C):=[(0,.p [.m 3 180,.l 3]),(1,.s 3),(2,.s 3)]
def Ll:List Wo:=[⟨.ret,[.p [.m 3 180,.l 3],.q 1],[],[.o 3]⟩]
def AW:Nat→Int→(List Int)→(List (Int×A1))→(List Int)→Int→(List Int)→Int→Int→Option ((((Int×Unit)×(List Int×Unit)×(((((List (Int×A1))×List Int×Unit)×Unit)×Unit)×Unit)×Unit)×Unit×Unit×Unit×Unit×Unit×(Unit×Unit)×(Int×Unit)×Unit) ⊕ ((((Int×Unit)×(List Int×Unit)×(((((List (Int×A1))×List Int×Unit)×Unit)×Unit)×Unit)×Unit)×Unit×Unit×Unit×Unit×Unit×(Unit×Unit)×(Int×Unit)×Unit)))
 | 0,_,_,_,_,_,_,_,_=>none
 | n+1,yield1,yield2,yield3,yield4,x2,x10,x11,x12 =>
  bif decide (x12<x11) then((A3 x10 x12).bind fun v0 =>
  bif decide ((AV Ce yield3 v0 (A1.mk 0 0 0 (IK.mk 0) 0 0)).bus=x2) then(bif !decide ((AV Ce yield3 v0 (A1.mk 0 0 0 (IK.mk 0) 0 0)).kind.n=0) then(bif decide ((AV Ce yield3 v0 (A1.mk 0 0 0 (IK.mk 0) 0 0)).kind.n=1) then((Aqr n yield3 yield4 (AV Ce yield3 v0 (A1.mk 0 0 0 (IK.mk 0) 0 0)) yield1).bind fun v1 =>
  bif v1.snd.snd.fst then((app yield2 [(AV Ce yield3 v0 (A1.mk 0 0 0 (IK.mk 0) 0 0)).number]).bind fun v2 =>
  AW n yield1 v2 v1.fst.fst v1.fst.snd.fst x2 x10 x11 (IntKind.i64.wrap (x12+1))) else
  AW n yield1 yield2 v1.fst.fst v1.fst.snd.fst x2 x10 x11 (IntKind.i64.wrap (x12+1))) else
  AW n yield1 yield2 yield3 yield4 x2 x10 x11 (IntKind.i64.wrap (x12+1))) else
  (Aqr n yield3 yield4 (AV Ce yield3 v0 (A1.mk 0 0 0 (IK.mk 0) 0 0)) yield1).bind fun v1 =>
  bif v1.snd.snd.fst then((app yield2 [(AV Ce yield3 v0 (A1.mk 0 0 0 (IK.mk 0) 0 0)).number]).bind fun v2 =>
  AW n yield1 v2 v1.fst.fst v1.fst.snd.fst x2 x10 x11 (IntKind.i64.wrap (x12+1))) else
  AW n yield1 yield2 v1.fst.fst v1.fst.snd.fst x2 x10 x11 (IntKind.i64.wrap (x12+1))) else
  AW n yield1 yield2 yield3 yield4 x2 x10 x11 (IntKind.i64.wrap (x12+1))) else
  some (.inl (((yield1,()),((yield2,()),(((((yield3,(yield4,())),()),()),()),()))),((),((),((),((),((),(((),()),((x2,()),())))))))))
def E7 (n:Nat) (y:C.Ds Ty (Af CA)):Option (YT Ty Is):=AW n y.1.1.1 y.1.2.1.1 y.1.2.2.1.1.1.1.1 y.1.2.2.1.1.1.1.2.1 y.2.2.1.1 y.2.2.2.1 y.2.2.2.2.1 y.2.2.2.2.2.1
def Zcf (n:Nat):St Ty→Tr (Lf Ty):=Bc CA 8 Is (E7 n)
def JR (n:Nat) (b1:List (Int×A1)) (b2:List Int) (bus:Int) (at_:Int):Option ((((List (Int×A1))×List Int×Unit)×Unit×List Int×Unit)) :=
 (AW n at_ [] b1 b2 bus b2 (↑b2.length:Int) 0).bind fun v0 =>
 Sum.elim (fun v1=>some ((v1.fst.snd.snd.fst.fst.fst.fst.fst,(v1.fst.snd.snd.fst.fst.fst.fst.snd.fst,())),((),(v1.fst.snd.fst.fst,())))) (fun v1=>some ((v1.fst.snd.snd.fst.fst.fst.fst.fst,(v1.fst.snd.snd.fst.fst.fst.fst.snd.fst,())),((),(v1.fst.snd.fst.fst,())))) (v0)
def QN (n:Nat) (y:C.Ds Ty (Af HH)):Option (YT Ty Ll):=JR n y.1.1 y.1.2.1 y.2.1 y.2.2.1
def Zff (n:Nat):AA Ty:=AB HH 2 Ll (QN n)
def Zck (n:Nat):List (Nat×AA Ty):=[(109,Zk0 n)]
theorem Js (n:Nat):Ap Tryz.prog (Zck n):=⟨AnF n,trivial⟩
def Zgy (n:Nat):A0 Ty:=[]
def Zd0 (n:Nat):List (Nat×AA Ty):=(A8,Axl Tryz.prog (Al Tryz.prog (Zck n) []) (Ae []) (Ae (Zgy n)) 69)::Zck n
theorem Oa (n:Nat):Ap Tryz.prog (Zd0 n):=⟨AoX Aa Ab (Ac Aa Ab (Js n) Ai) (fun _ _ _ h=>by cases h) (Ad (fn:=Tryz.f69) (c:=(RFs.rf 69).body) (N:=(RFs.rf 69).n) (L:=Zgy n) (ks:=[]) trivial (by kernel_rfl) (by kernel_rfl)),Js n⟩
def Ze4 (n:Nat):A0 Ty:=[]
theorem UK (n:Nat) (x:C.Ds Ty (Af CA)):(Ay Tryz.prog 37 (Al Tryz.prog (Zd0 n) []) (Ae (Ze4 n)) (Am 1 Tryz.f163) (Av CA x)).runK (A4 8 CA Is (E7 n))=E7 (n+1) x:=by kernel_rfl
theorem UN (n:Nat):A5 true Tryz.prog 37 (Zcf n) (.loop (Am 1 Tryz.f163)):=A6 fun x y hy=>At (Fn:=E7) Aa Ab (fun n=>Ac Aa Ab (Oa n) Ai) (fun h=>by cases h) (fun h=>by cases h) (fun n=>(Ad (fn:=Tryz.f163) (L:=Ze4 n) (ks:=[]) trivial (by kernel_rfl) (by kernel_rfl))) (by decide) (fun _=>rfl) UK hy
def Zgz (n:Nat):UF Ty:=[(163,[(.loop 1,Zcf n)])]
theorem X2 (n:Nat):NY Tryz.prog (Zgz n):=⟨HA (f:=163) Tryz.func163 rfl (Ad (fn:=Tryz.f163) (L:=[(.loop 1,Zcf n)]) (ks:=[.loop 1]) ⟨UN n,trivial⟩ (by kernel_rfl) (by kernel_rfl)),trivial⟩
def ZfL (n:Nat):St Ty→Tr (Lf Ty):=AwK Tryz.prog (Al Tryz.prog (Zd0 n) (Zgz n)) (.tmp 13) 69 [5,6,7]
theorem VL (n:Nat):A5 true Tryz.prog 25 (ZfL n) (NE (.rf 4) Tryz.f69):=Apb (Ac Aa Ab (Oa n) (X2 n)) (by kernel_rfl) (by kernel_rfl)
def Zg0 (n:Nat):A0 Ty:=[(.rf 4,ZfL n)]
theorem Zh (n:Nat) (x:C.Ds Ty (Af HH)):(Ay Tryz.prog 25 (Al Tryz.prog (Zck n) []) (Ae (Zg0 n)) (Ao Tryz.f69) (Av HH x)).runK (Ar Tryz.prog Tryz.f69.results.toList 2 Ll)=QN n x:=by kernel_rfl
theorem UO (n:Nat):Au Tryz.prog 69 (Zff n):=As Tryz.func69 rfl rfl (by decide) rfl Aa Ab (Ac Aa Ab (Js n) Ai) (Ad (fn:=Tryz.f69) (L:=Zg0 n) (ks:=[.rf 4]) ⟨VL n,trivial⟩ (by kernel_rfl) (by kernel_rfl)) (Zh n)
def QO:List (Nat×C):=[(0,.l 180),(1,.s 3),(2,.s 3)]
def VM:List Wo:=[⟨.ret,[],[],[.l 3,.s 3]⟩]
def IQ (n:Nat) (l:List A1) (bus:Int) (at_:Int):Option ((List Int×Int×Unit)) :=
 (Sd n l).bind fun v0 =>
 Sum.elim (fun v1=>bif v1.snd.fst != 0 then(some ([],(v1.snd.fst,()))) else
 bif decide (0≤bus) then(bif !!decide (bus≤99) then(bif decide (0≤at_) then(bif !decide (at_≤1000000) then(some ([],(2,()))) else
 none) else
 some ([],(2,()))) else
 some ([],(2,()))) else
 some ([],(2,()))) (fun v1=>bif v1.snd.fst != 0 then(some ([],(v1.snd.fst,()))) else
 bif decide (0≤bus) then(bif !!decide (bus≤99) then(bif decide (0≤at_) then(bif !decide (at_≤1000000) then(some ([],(2,()))) else
 (JR n v1.fst.fst v1.fst.snd.fst bus at_).bind fun v2 =>
 some (v2.snd.snd.fst,(0,()))) else
 some ([],(2,()))) else
 some ([],(2,()))) else
 some ([],(2,()))) (v0)
def Aez (n:Nat) (y:C.Ds Ty (Af QO)):Option (YT Ty VM):=IQ n y.1 y.2.1 y.2.2.1
def Zgo (n:Nat):AA Ty:=AB QO 0 VM (Aez n)
def ZjZ (n:Nat):List (Nat×AA Ty):=[(66,Zgn n),(69,Zff n)]
theorem AiV (n:Nat):Ap Tryz.prog (ZjZ n):=⟨Uv n,⟨UO n,trivial⟩⟩
def Zka (n:Nat):A0 Ty:=[]
theorem Al4 (n:Nat) (x:C.Ds Ty (Af QO)):(Ay Tryz.prog 32 (Al Tryz.prog (ZjZ n) []) (Ae (Zka n)) (Ao Tryz.f29) (Av QO x)).runK (Ar Tryz.prog Tryz.f29.results.toList 0 VM)=Aez n x:=by kernel_rfl
theorem Uw (n:Nat):Au Tryz.prog 29 (Zgo n):=As Tryz.func29 rfl rfl (by decide) rfl Aa Ab (Ac Aa Ab (AiV n) Ai) (Ad (fn:=Tryz.f29) (L:=Zka n) (ks:=[]) trivial (by kernel_rfl) (by kernel_rfl)) (Al4 n)
def G1:List (Nat×C):=[(0,.l 60),(1,.g 60)]
def Km:List Wo:=[⟨.ret,[],[],[.l 60]⟩]
def FZ (n:Nat) (l:List Xy) (x:Xy):Option ((List Xy×Unit)) :=
 (T0 n l).bind fun v0 =>
 (app v0.fst [x]).bind fun v1 =>
 some (v1,())
def Pv (n:Nat) (y:C.Ds Ty (Af G1)):Option (YT Ty Km):=FZ n y.1 y.2.1
def Ze5 (n:Nat):AA Ty:=AB G1 0 Km (Pv n)
def ZfM (n:Nat):List (Nat×AA Ty):=[(262,Zio n)]
theorem VN (n:Nat):Ap Tryz.prog (ZfM n):=⟨Ym n,trivial⟩
def ZfN (n:Nat):A0 Ty:=[]
theorem X3 (n:Nat) (x:C.Ds Ty (Af G1)):(Ay Tryz.prog 10 (Al Tryz.prog (ZfM n) []) (Ae (ZfN n)) (Ao Tryz.f260) (Av G1 x)).runK (Ar Tryz.prog Tryz.f260.results.toList 0 Km)=Pv n x:=by kernel_rfl
theorem T6 (n:Nat):Au Tryz.prog 260 (Ze5 n):=As Tryz.func260 rfl rfl (by decide) rfl Aa Ab (Ac Aa Ab (VN n) Ai) (Ad (fn:=Tryz.f260) (L:=ZfN n) (ks:=[]) trivial (by kernel_rfl) (by kernel_rfl)) (X3 n)
def BB:List (Nat×C):=[(0,.u 114),(4,.s 3),(5,.s 3),(30,.l 62),(31,.s 3),(32,.s 3)]
def Fl:List Wo:=[⟨.exit 0,[.u 114],[(0,.q 0),(4,.s 3),(5,.s 3)],[]⟩,⟨.pan,[.u 114],[],[.i 234 (.g 234)]⟩]
def DV:List (Nat×C):=[(0,.u 114),(1,.v 3)]
def Hu:List Wo:=[⟨.ret,[.u 114],[],[]⟩,⟨.pan,[.u 114],[],[.i 234 (.g 234)]⟩]
def AN:Nat→Aj→Int→Int→(List AcQ)→Int→Int→Option ((Aj×Unit×Int×Int×Unit) ⊕ ((Aj×AG×Unit)))
 | 0,_,_,_,_,_,_=>none
 | n+1,g,bus,at_,x30,x31,x32 =>
  bif decide (x32<x31) then((A3 x30 x32).bind fun v0 =>
  bif !v0.bus != bus then((AD n (decide (v0.to_≤at_)) 8).bind fun v1 =>
  Sum.elim (fun v2=>AN n g bus at_ x30 x31 (IntKind.i64.wrap (x32+1))) (fun v2=>some (.inr (g,(v2.fst,())))) (v1)) else
  (AD n true 8).bind fun v1 =>
  Sum.elim (fun v2=>AN n g bus at_ x30 x31 (IntKind.i64.wrap (x32+1))) (fun v2=>some (.inr (g,(v2.fst,())))) (v1)) else
  some (.inl (g,((),(bus,(at_,())))))
def Cv (n:Nat) (y:C.Ds Ty (Af BB)):Option (YT Ty Fl):=AN n y.1 y.2.1 y.2.2.1 y.2.2.2.1 y.2.2.2.2.1 y.2.2.2.2.2.1
def Zc6 (n:Nat):St Ty→Tr (Lf Ty):=Bc BB 1 Fl (Cv n)
def CW (n:Nat) (g:Aj) (n_:List Int):Option ((Aj×Unit) ⊕ ((Aj×AG×Unit))) :=
 bif n_.length.beq 5 then((A3 n_ 0).bind fun v0 =>
 (n_.get?Internal (Int.toNat 0)).bind fun v1 =>
 bif n_.length.beq 5 then((A3 n_ 1).bind fun v2 =>
 (n_.get?Internal (Int.toNat 1)).bind fun v3 =>
 (AZ n v1 0 99).bind fun v4 =>
 bif v4.fst then((AZ n v3 0 1000000).bind fun v5 =>
 (AD n v5.fst 2).bind fun v6 =>
 Sum.elim (fun v7=>(ArN n g v1).bind fun v8 =>
 (AD n (decide (v8.snd.fst<0)) 8).bind fun v9 =>
 Sum.elim (fun v10=>(AN n v8.fst v1 v3 v8.fst.state.runs (↑v8.fst.state.runs.length:Int) 0).bind fun v11 =>
 Sum.elim (fun v12=>(IQ n v12.fst.state.cards v12.snd.snd.fst v12.snd.snd.snd.fst).bind fun v13 =>
 (Dm n v13.snd.fst).bind fun v14 =>
 Sum.elim (fun v15=>(AD n (decide ((↑v13.fst.length:Int)=0)) 11).bind fun v16 =>
 Sum.elim (fun v17=>(FZ n v12.fst.state.outs (Xy.mk v12.snd.snd.fst v12.snd.snd.snd.fst)).bind fun v18 =>
 some (.inl (Aj.mk (An.mk v12.fst.state.cards v18.fst v12.fst.state.runs v12.fst.state.records v12.fst.state.week v12.fst.state.roster),()))) (fun v17=>some (.inr (v12.fst,(v17.fst,())))) (v16)) (fun v15=>some (.inr (v12.fst,(v15.fst,())))) (v14)) (fun v12=>some (.inr (v12.fst,(v12.snd.fst,())))) (v11)) (fun v10=>some (.inr (v8.fst,(v10.fst,())))) (v9)) (fun v7=>some (.inr (g,(v7.fst,())))) (v6)) else
 (AD n false 2).bind fun v5 =>
 Sum.elim (fun v6=>(ArN n g v1).bind fun v7 =>
 (AD n (decide (v7.snd.fst<0)) 8).bind fun v8 =>
 Sum.elim (fun v9=>(AN n v7.fst v1 v3 v7.fst.state.runs (↑v7.fst.state.runs.length:Int) 0).bind fun v10 =>
 Sum.elim (fun v11=>(IQ n v11.fst.state.cards v11.snd.snd.fst v11.snd.snd.snd.fst).bind fun v12 =>
 (Dm n v12.snd.fst).bind fun v13 =>
 Sum.elim (fun v14=>(AD n (decide ((↑v12.fst.length:Int)=0)) 11).bind fun v15 =>
 Sum.elim (fun v16=>(FZ n v11.fst.state.outs (Xy.mk v11.snd.snd.fst v11.snd.snd.snd.fst)).bind fun v17 =>
 some (.inl (Aj.mk (An.mk v11.fst.state.cards v17.fst v11.fst.state.runs v11.fst.state.records v11.fst.state.week v11.fst.state.roster),()))) (fun v16=>some (.inr (v11.fst,(v16.fst,())))) (v15)) (fun v14=>some (.inr (v11.fst,(v14.fst,())))) (v13)) (fun v11=>some (.inr (v11.fst,(v11.snd.fst,())))) (v10)) (fun v9=>some (.inr (v7.fst,(v9.fst,())))) (v8)) (fun v6=>some (.inr (g,(v6.fst,())))) (v5)) else
 none) else
 none
def Mt (n:Nat) (y:C.Ds Ty (Af DV)):Option (YT Ty Hu):=CW n y.1 y.2.1
def Zcb (n:Nat):AA Ty:=AB DV 1 Hu (Mt n)
def Zcm (n:Nat):List (Nat×AA Ty):=[(75,ZbC n),(139,Zb7 n),(94,Zkq n),(29,Zgo n),(259,ZbE n),(260,Ze5 n)]
theorem K7 (n:Nat):Ap Tryz.prog (Zcm n):=⟨C9 n,⟨B8 n,⟨Aig n,⟨Uw n,⟨DE n,⟨T6 n,trivial⟩⟩⟩⟩⟩⟩
def ZcQ (n:Nat):A0 Ty:=[]
theorem Qf (n:Nat) (x:C.Ds Ty (Af BB)):(Ay Tryz.prog 78 (Al Tryz.prog (Zcm n) []) (Ae (ZcQ n)) (Am 5 Tryz.f193) (Av BB x)).runK (A4 1 BB Fl (Cv n))=Cv (n+1) x:=by kernel_rfl
theorem Qg (n:Nat):A5 true Tryz.prog 78 (Zc6 n) (.loop (Am 5 Tryz.f193)):=A6 fun x y hy=>At (Fn:=Cv) Aa Ab (fun n=>Ac Aa Ab (K7 n) Ai) (fun h=>by cases h) (fun h=>by cases h) (fun n=>(Ad (fn:=Tryz.f193) (L:=ZcQ n) (ks:=[]) trivial (by kernel_rfl) (by kernel_rfl))) (by decide) (fun _=>rfl) Qf hy
def ZdZ (n:Nat):A0 Ty:=[(.loop 5,Zc6 n)]
theorem T7 (n:Nat) (x:C.Ds Ty (Af DV)):(Ay Tryz.prog 78 (Al Tryz.prog (Zcm n) []) (Ae (ZdZ n)) (Ao Tryz.f193) (Av DV x)).runK (Ar Tryz.prog Tryz.f193.results.toList 1 Hu)=Mt n x:=by kernel_rfl
theorem Jm (n:Nat):Au Tryz.prog 193 (Zcb n):=As Tryz.func193 rfl rfl (by decide) rfl Aa Ab (Ac Aa Ab (K7 n) Ai) (Ad (fn:=Tryz.f193) (L:=ZdZ n) (ks:=[.loop 5]) ⟨Qg n,trivial⟩ (by kernel_rfl) (by kernel_rfl)) (T7 n)
def G2:List (Nat×C):=[(0,.l 62),(1,.g 62)]
def Ko:List Wo:=[⟨.ret,[],[],[.l 62]⟩]
def Ga (n:Nat) (l:List AcQ) (x:AcQ):Option ((List AcQ×Unit)) :=
 (Alw n l).bind fun v0 =>
 (app v0.fst [x]).bind fun v1 =>
 some (v1,())
def Pw (n:Nat) (y:C.Ds Ty (Af G2)):Option (YT Ty Ko):=Ga n y.1 y.2.1
def Ze6 (n:Nat):AA Ty:=AB G2 0 Ko (Pw n)
def ZfO (n:Nat):List (Nat×AA Ty):=[(310,ZjT n)]
theorem VO (n:Nat):Ap Tryz.prog (ZfO n):=⟨AiN n,trivial⟩
def ZfP (n:Nat):A0 Ty:=[]
theorem X4 (n:Nat) (x:C.Ds Ty (Af G2)):(Ay Tryz.prog 10 (Al Tryz.prog (ZfO n) []) (Ae (ZfP n)) (Ao Tryz.f263) (Av G2 x)).runK (Ar Tryz.prog Tryz.f263.results.toList 0 Ko)=Pw n x:=by kernel_rfl
theorem T8 (n:Nat):Au Tryz.prog 263 (Ze6 n):=As Tryz.func263 rfl rfl (by decide) rfl Aa Ab (Ac Aa Ab (VO n) Ai) (Ad (fn:=Tryz.f263) (L:=ZfP n) (ks:=[]) trivial (by kernel_rfl) (by kernel_rfl)) (X4 n)
def E8:List (Nat×C):=[(0,.u 114),(1,.v 3)]
def It:List Wo:=[⟨.ret,[.u 114],[],[]⟩,⟨.pan,[.u 114],[],[.i 234 (.g 234)]⟩]
def DF (n:Nat) (g:Aj) (n_:List Int):Option ((Aj×Unit) ⊕ ((Aj×AG×Unit))) :=
 bif n_.length.beq 5 then((A3 n_ 0).bind fun v0 =>
 (n_.get?Internal (Int.toNat 0)).bind fun v1 =>
 (ArN n g v1).bind fun v2 =>
 (AD n (decide (v2.snd.fst≥0)) 8).bind fun v3 =>
 Sum.elim (fun v4=>(A3 v2.fst.state.outs v2.snd.fst).bind fun v5 =>
 bif n_.length.beq 5 then((A3 n_ 1).bind fun v6 =>
 (n_.get?Internal (Int.toNat 1)).bind fun v7 =>
 (AZ n v7 v5.fr 1000000).bind fun v8 =>
 bif v8.fst then(bif n_.length.beq 5 then((A3 n_ 2).bind fun v9 =>
 (n_.get?Internal (Int.toNat 2)).bind fun v10 =>
 (AZ n v10 0 1000).bind fun v11 =>
 (AD n v11.fst 2).bind fun v12 =>
 Sum.elim (fun v13=>(T0 n v2.fst.state.outs).bind fun v14 =>
 (Alz n v14.fst v2.snd.fst (IntKind.i64.wrap (v2.snd.fst+1))).bind fun v15 =>
 bif n_.length.beq 5 then((A3 n_ 1).bind fun v16 =>
 (n_.get?Internal (Int.toNat 1)).bind fun v17 =>
 bif n_.length.beq 5 then((A3 n_ 2).bind fun v18 =>
 (n_.get?Internal (Int.toNat 2)).bind fun v19 =>
 (Ga n v2.fst.state.runs (AcQ.mk v5.bus v5.fr v17 v19)).bind fun v20 =>
 some (.inl (Aj.mk (An.mk v2.fst.state.cards v15.fst v20.fst v2.fst.state.records v2.fst.state.week v2.fst.state.roster),()))) else
 none) else
 none) (fun v13=>some (.inr (v2.fst,(v13.fst,())))) (v12)) else
 none) else
 (AD n false 2).bind fun v9 =>
 Sum.elim (fun v10=>(T0 n v2.fst.state.outs).bind fun v11 =>
 (Alz n v11.fst v2.snd.fst (IntKind.i64.wrap (v2.snd.fst+1))).bind fun v12 =>
 bif n_.length.beq 5 then((A3 n_ 1).bind fun v13 =>
 (n_.get?Internal (Int.toNat 1)).bind fun v14 =>
 bif n_.length.beq 5 then((A3 n_ 2).bind fun v15 =>
 (n_.get?Internal (Int.toNat 2)).bind fun v16 =>
 (Ga n v2.fst.state.runs (AcQ.mk v5.bus v5.fr v14 v16)).bind fun v17 =>
 some (.inl (Aj.mk (An.mk v2.fst.state.cards v12.fst v17.fst v2.fst.state.records v2.fst.state.week v2.fst.state.roster),()))) else
 none) else
 none) (fun v10=>some (.inr (v2.fst,(v10.fst,())))) (v9)) else
 none) (fun v4=>some (.inr (v2.fst,(v4.fst,())))) (v3)) else
 none
def Nz (n:Nat) (y:C.Ds Ty (Af E8)):Option (YT Ty It):=DF n y.1 y.2.1
def Zcg (n:Nat):AA Ty:=AB E8 1 It (Nz n)
def Ze7 (n:Nat):List (Nat×AA Ty):=[(94,Zkq n),(139,Zb7 n),(75,ZbC n),(262,Zio n),(261,Zkr n),(263,Ze6 n)]
theorem T9 (n:Nat):Ap Tryz.prog (Ze7 n):=⟨Aig n,⟨B8 n,⟨C9 n,⟨Ym n,⟨Al0 n,⟨T8 n,trivial⟩⟩⟩⟩⟩⟩
def Ze8 (n:Nat):A0 Ty:=[]
theorem UP (n:Nat) (x:C.Ds Ty (Af E8)):(Ay Tryz.prog 65 (Al Tryz.prog (Ze7 n) []) (Ae (Ze8 n)) (Ao Tryz.f194) (Av E8 x)).runK (Ar Tryz.prog Tryz.f194.results.toList 1 It)=Nz n x:=by kernel_rfl
theorem JG (n:Nat):Au Tryz.prog 194 (Zcg n):=As Tryz.func194 rfl rfl (by decide) rfl Aa Ab (Ac Aa Ab (T9 n) Ai) (Ad (fn:=Tryz.f194) (L:=Ze8 n) (ks:=[]) trivial (by kernel_rfl) (by kernel_rfl)) (UP n)
def B2:List (Nat×C):=[(0,.l 93),(3,.u 93),(7,.s 3),(8,.s 3)]
def Er:List Wo:=[⟨.exit 0,[.u 93],[],[]⟩,⟨.ret,[.u 93],[(4,.s 3)],[]⟩]
def Dr:List (Nat×C):=[(0,.l 93),(1,.g 93)]
def G3:List Wo:=[⟨.ret,[],[],[.s 3]⟩]
def Bp:Nat→(List Ag)→Ag→Int→Int→Option ((Ag×Unit) ⊕ ((Ag×Int×Unit)))
 | 0,_,_,_,_=>none
 | n+1,s,v,x7,x8 =>
  bif decide (x8<x7) then((A3 s x8).bind fun v0 =>
  bif decide (v.machine=v0.machine) && (decide (v.seq=v0.seq) && (decide (v.minute=v0.minute) && (decide (v.kind.n=v0.kind.n) && (decide (v.a=v0.a) && (decide (v.b=v0.b) && true))))) then(some (.inr (v,(x8,())))) else
  Bp n s v x7 (IntKind.i64.wrap (x8+1))) else
  some (.inl (v,()))
def Cl (n:Nat) (y:C.Ds Ty (Af B2)):Option (YT Ty Er):=Bp n y.1 y.2.1 y.2.2.1 y.2.2.2.1
def Zcw (n:Nat):St Ty→Tr (Lf Ty):=Bc B2 1 Er (Cl n)
def Iu (n:Nat) (s:List Ag) (v:Ag):Option ((Int×Unit)) :=
 (Bp n s v (↑s.length:Int) 0).bind fun v0 =>
 Sum.elim (fun v1=>some (-1,())) (fun v1=>some (v1.snd.fst,())) (v0)
def Lm (n:Nat) (y:C.Ds Ty (Af Dr)):Option (YT Ty G3):=Iu n y.1 y.2.1
def ZcR (n:Nat):AA Ty:=El (AB Dr 0 G3 (Lm n))
def Zch (n:Nat):List (Nat×AA Ty):=[]
theorem JH (n:Nat):Ap Tryz.prog (Zch n):=trivial
def ZcH (n:Nat):A0 Ty:=[]
theorem Px (n:Nat) (x:C.Ds Ty (Af B2)):(Ay Tryz.prog 19 (Al Tryz.prog (Zch n) []) (Ae (ZcH n)) (Am 2 Tryz.f341) (Av B2 x)).runK (A4 1 B2 Er (Cl n))=Cl (n+1) x:=by kernel_rfl
theorem Py (n:Nat):A5 true Tryz.prog 19 (Zcw n) (.loop (Am 2 Tryz.f341)):=A6 fun x y hy=>At (Fn:=Cl) Aa Ab (fun n=>Ac Aa Ab (JH n) Ai) (fun h=>by cases h) (fun h=>by cases h) (fun n=>(Ad (fn:=Tryz.f341) (L:=ZcH n) (ks:=[]) trivial (by kernel_rfl) (by kernel_rfl))) (by decide) (fun _=>rfl) Px hy
def Zd7 (n:Nat):A0 Ty:=[(.loop 2,Zcw n)]
theorem Si (n:Nat) (x:C.Ds Ty (Af Dr)):(Ay Tryz.prog 19 (Al Tryz.prog (Zch n) []) (Ae (Zd7 n)) (Ao Tryz.f341) (Av Dr x)).runK (Ar Tryz.prog Tryz.f341.results.toList 0 G3)=Lm n x:=by kernel_rfl
theorem Pz (n:Nat):Au Tryz.prog 341 (ZcR n):=AX (As Tryz.func341 rfl rfl (by decide) rfl Aa Ab (Ac Aa Ab (JH n) Ai) (Ad (fn:=Tryz.f341) (L:=Zd7 n) (ks:=[.loop 2]) ⟨Py n,trivial⟩ (by kernel_rfl) (by kernel_rfl)) (Si n))
def Cm:List (Nat×C):=[(0,.l 93),(1,.g 93)]
def Es:List Wo:=[⟨.ret,[],[],[.s 4]⟩]
def CK (n:Nat) (s:List Ag) (v:Ag):Option ((Bool×Unit)) :=
 (Iu n s v).bind fun v0 =>
 some (decide (v0.fst≥0),())
def Jn (n:Nat) (y:C.Ds Ty (Af Cm)):Option (YT Ty Es):=CK n y.1 y.2.1
def Zcx (n:Nat):AA Ty:=El (AB Cm 0 Es (Jn n))
def ZcI (n:Nat):List (Nat×AA Ty):=[(341,ZcR n)]
theorem O0 (n:Nat):Ap Tryz.prog (ZcI n):=⟨Pz n,trivial⟩
def ZcJ (n:Nat):A0 Ty:=[]
theorem P0 (n:Nat) (x:C.Ds Ty (Af Cm)):(Ay Tryz.prog 9 (Al Tryz.prog (ZcI n) []) (Ae (ZcJ n)) (Ao Tryz.f311) (Av Cm x)).runK (Ar Tryz.prog Tryz.f311.results.toList 0 Es)=Jn n x:=by kernel_rfl
theorem N0 (n:Nat):Au Tryz.prog 311 (Zcx n):=AX (As Tryz.func311 rfl rfl (by decide) rfl Aa Ab (Ac Aa Ab (O0 n) Ai) (Ad (fn:=Tryz.f311) (L:=ZcJ n) (ks:=[]) trivial (by kernel_rfl) (by kernel_rfl)) (P0 n))
def DW:List (Nat×C):=[(0,.g 93)]
def Hv:List Wo:=[⟨.ret,[],[],[.s 4]⟩]
def CX (n:Nat) (r:Ag):Option ((Bool×Unit)) :=
 bif decide (0≤r.machine) then(bif decide (r.machine≤999) then(bif decide (1≤r.seq) then(bif decide (r.seq≤9999) then(bif decide (0≤r.minute) then(bif decide (r.minute≤1000000) then(bif decide (IntKind.i64.wrap r.kind.n<(↑[KF.mk (Fp.mk (↑302:Int)),KF.mk (Fp.mk (↑303:Int)),KF.mk (Fp.mk (↑304:Int))].length:Int)) then((A3 [KF.mk (Fp.mk (↑302:Int)),KF.mk (Fp.mk (↑303:Int)),KF.mk (Fp.mk (↑304:Int))] r.kind.n).bind fun v0 =>
 ([KF.mk (Fp.mk (↑302:Int)),KF.mk (Fp.mk (↑303:Int)),KF.mk (Fp.mk (↑304:Int))].get?Internal r.kind.n.toNat).bind fun v1 =>
 bif decide (v1.right.f=(↑302:Int)) then(bif decide (0≤r.a) then(bif decide (r.a≤99) then(bif decide (0≤r.b) then(some (decide (r.b≤10000),())) else
 some (false,())) else
 some (false,())) else
 some (false,())) else
 bif decide (v1.right.f=(↑303:Int)) then(bif decide (0≤r.a) then(bif decide (r.a≤1000000) then(some (decide (r.b=0),())) else
 some (false,())) else
 some (false,())) else
 bif decide (v1.right.f=(↑304:Int)) then(bif decide (0≤r.a) then(bif decide (r.a≤9999) then(bif decide (0≤r.b) then(some (decide (r.b≤10000000),())) else
 some (false,())) else
 some (false,())) else
 some (false,())) else
 none) else
 some (false,())) else
 some (false,())) else
 some (false,())) else
 some (false,())) else
 some (false,())) else
 some (false,())) else
 some (false,())
def Mu (n:Nat) (y:C.Ds Ty (Af DW)):Option (YT Ty Hv):=CX n y.1
def Zdm (n:Nat):AA Ty:=AB DW 0 Hv (Mu n)
def Zea (n:Nat):List (Nat×AA Ty):=[]
theorem Sj (n:Nat):Ap Tryz.prog (Zea n):=trivial
def Zeb (n:Nat):A0 Ty:=[]
theorem TA (n:Nat) (x:C.Ds Ty (Af DW)):(Ay Tryz.prog 34 (Al Tryz.prog (Zea n) []) (Ae (Zeb n)) (Ao Tryz.f186) (Av DW x)).runK (Ar Tryz.prog Tryz.f186.results.toList 0 Hv)=Mu n x:=by kernel_rfl
theorem Qh (n:Nat):Au Tryz.prog 186 (Zdm n):=As Tryz.func186 rfl rfl (by decide) rfl Aa Ab (Ac Aa Ab (Sj n) Ai) (Ad (fn:=Tryz.f186) (L:=Zeb n) (ks:=[]) trivial (by kernel_rfl) (by kernel_rfl)) (TA n)
def CY:List (Nat×C):=[(0,.l 93),(1,.f 248 [] [.p [.f 186 [] []]]),(7,.s 3),(8,.s 3)]
def Jt:List Wo:=[⟨.exit 0,[.p [.f 186 [] []]],[],[]⟩,⟨.ret,[.p [.f 186 [] []]],[(4,.s 3)],[]⟩]
def CZ:List (Nat×C):=[(0,.l 28),(1,.f 246 [] [.p [.f 183 [] []]]),(7,.s 3),(8,.s 3)]
def Ju:List Wo:=[⟨.exit 0,[.p [.f 183 [] []]],[],[]⟩,⟨.ret,[.p [.f 183 [] []]],[(4,.s 3)],[]⟩]
def Da:List (Nat×C):=[(0,.l 28),(1,.f 246 [] [.p [.f 184 [] []]]),(7,.s 3),(8,.s 3)]
def Jv:List Wo:=[⟨.exit 0,[.p [.f 184 [] []]],[],[]⟩,⟨.ret,[.p [.f 184 [] []]],[(4,.s 3)],[]⟩]
def IS:List (Nat×C):=[(0,.l 28)]
def MN:List Wo:=[⟨.ret,[],[],[.s 3]⟩]
def B9:Nat→(List Ag)→Int→Int→Option ((((Unit×Unit)×Unit)×Unit) ⊕ ((((Unit×Unit)×Unit)×Int×Unit)))
 | 0,_,_,_=>none
 | n+1,s,x7,x8 =>
  bif decide (x8<x7) then((A3 s x8).bind fun v0 =>
  (CX n v0).bind fun v1 =>
  bif !v1.fst then(some (.inr ((((),()),()),(x8,())))) else
  B9 n s x7 (IntKind.i64.wrap (x8+1))) else
  some (.inl ((((),()),()),()))
def F8 (n:Nat) (y:C.Ds Ty (Af CY)):Option (YT Ty Jt):=B9 n y.1 y.2.2.1 y.2.2.2.1
def ZbD (n:Nat):St Ty→Tr (Lf Ty):=Bc CY 1 Jt (F8 n)
def BW:Nat→(List (List Ag))→Int→Int→Option ((((Unit×Unit)×Unit)×Unit) ⊕ ((((Unit×Unit)×Unit)×Int×Unit)))
 | 0,_,_,_=>none
 | n+1,s,x7,x8 =>
  bif decide (x8<x7) then((A3 s x8).bind fun v0 =>
  bif !decide ((↑v0.length:Int)≤60) then(some (.inr ((((),()),()),(x8,())))) else
  BW n s x7 (IntKind.i64.wrap (x8+1))) else
  some (.inl ((((),()),()),()))
def F9 (n:Nat) (y:C.Ds Ty (Af CZ)):Option (YT Ty Ju):=BW n y.1 y.2.2.1 y.2.2.2.1
def Zcn (n:Nat):St Ty→Tr (Lf Ty):=Bc CZ 1 Ju (F9 n)
def Bb:Nat→(List (List Ag))→Int→Int→Option ((((Unit×Unit)×Unit)×Unit) ⊕ ((((Unit×Unit)×Unit)×Int×Unit)))
 | 0,_,_,_=>none
 | n+1,s,x7,x8 =>
  bif decide (x8<x7) then((A3 s x8).bind fun v0 =>
  (B9 n v0 (↑v0.length:Int) 0).bind fun v1 =>
  Sum.elim (fun v2=>Bb n s x7 (IntKind.i64.wrap (x8+1))) (fun v2=>bif !!decide (v2.snd.fst≥0) then(some (.inr ((((),()),()),(x8,())))) else
  Bb n s x7 (IntKind.i64.wrap (x8+1))) (v1)) else
  some (.inl ((((),()),()),()))
def FA (n:Nat) (y:C.Ds Ty (Af Da)):Option (YT Ty Jv):=Bb n y.1 y.2.2.1 y.2.2.2.1
def Zco (n:Nat):St Ty→Tr (Lf Ty):=Bc Da 1 Jv (FA n)
def Ln (n:Nat) (lists:List (List Ag)):Option ((Int×Unit)) :=
 bif !decide ((↑lists.length:Int)>6) then((BW n lists (↑lists.length:Int) 0).bind fun v0 =>
 Sum.elim (fun v1=>(Bb n lists (↑lists.length:Int) 0).bind fun v2 =>
 Sum.elim (fun v3=>some (0,())) (fun v3=>bif !!decide (v3.snd.fst≥0) then(some (1,())) else
 some (0,())) (v2)) (fun v1=>bif !!decide (v1.snd.fst≥0) then(some (3,())) else
 (Bb n lists (↑lists.length:Int) 0).bind fun v2 =>
 Sum.elim (fun v3=>some (0,())) (fun v3=>bif !!decide (v3.snd.fst≥0) then(some (1,())) else
 some (0,())) (v2)) (v0)) else
 some (3,())
def Sk (n:Nat) (y:C.Ds Ty (Af IS)):Option (YT Ty MN):=Ln n y.1
def ZfQ (n:Nat):AA Ty:=El (AB IS 0 MN (Sk n))
def ZbT (n:Nat):List (Nat×AA Ty):=[(186,Zdm n)]
theorem G4 (n:Nat):Ap Tryz.prog (ZbT n):=⟨Qh n,trivial⟩
def Zfg (n:Nat):A0 Ty:=[]
theorem VP (n:Nat) (x:C.Ds Ty (Af CY)):(Ay Tryz.prog 19 (Al Tryz.prog (ZbT n) []) (Ae (Zfg n)) (Am 2 Tryz.f301) (Av CY x)).runK (A4 1 CY Jt (F8 n))=F8 (n+1) x:=by kernel_rfl
theorem N1 (n:Nat):A5 true Tryz.prog 19 (ZbD n) (.loop (Am 2 Tryz.f301)):=A6 fun x y hy=>At (Fn:=F8) Aa Ab (fun n=>Ac Aa Ab (G4 n) Ai) (fun h=>by cases h) (fun h=>by cases h) (fun n=>(Ad (fn:=Tryz.f301) (L:=Zfg n) (ks:=[]) trivial (by kernel_rfl) (by kernel_rfl))) (by decide) (fun _=>rfl) VP hy
def Zd1 (n:Nat):UF Ty:=[(301,[(.loop 2,ZbD n)])]
theorem Ob (n:Nat):NY Tryz.prog (Zd1 n):=⟨HA (f:=301) Tryz.func301 rfl (Ad (fn:=Tryz.f301) (L:=[(.loop 2,ZbD n)]) (ks:=[.loop 2]) ⟨N1 n,trivial⟩ (by kernel_rfl) (by kernel_rfl)),trivial⟩
def Zfh (n:Nat):A0 Ty:=[]
theorem VQ (n:Nat) (x:C.Ds Ty (Af CZ)):(Ay Tryz.prog 19 (Al Tryz.prog (ZbT n) (Zd1 n)) (Ae (Zfh n)) (Am 2 Tryz.f300) (Av CZ x)).runK (A4 1 CZ Ju (F9 n))=F9 (n+1) x:=by kernel_rfl
theorem VR (n:Nat):A5 true Tryz.prog 19 (Zcn n) (.loop (Am 2 Tryz.f300)):=A6 fun x y hy=>At (Fn:=F9) Aa Ab (fun n=>Ac Aa Ab (G4 n) (Ob n)) (fun h=>by cases h) (fun h=>by cases h) (fun n=>(Ad (fn:=Tryz.f300) (L:=Zfh n) (ks:=[]) trivial (by kernel_rfl) (by kernel_rfl))) (by decide) (fun _=>rfl) VQ hy
def Zfi (n:Nat):A0 Ty:=[]
theorem VS (n:Nat) (x:C.Ds Ty (Af Da)):(Ay Tryz.prog 19 (Al Tryz.prog (ZbT n) (Zd1 n)) (Ae (Zfi n)) (Am 2 Tryz.f300) (Av Da x)).runK (A4 1 Da Jv (FA n))=FA (n+1) x:=by kernel_rfl
theorem VT (n:Nat):A5 true Tryz.prog 19 (Zco n) (.loop (Am 2 Tryz.f300)):=A6 fun x y hy=>At (Fn:=FA) Aa Ab (fun n=>Ac Aa Ab (G4 n) (Ob n)) (fun h=>by cases h) (fun h=>by cases h) (fun n=>(Ad (fn:=Tryz.f300) (L:=Zfi n) (ks:=[]) trivial (by kernel_rfl) (by kernel_rfl))) (by decide) (fun _=>rfl) VS hy
def Zg1 (n:Nat):UF Ty:=[(301,[(.loop 2,ZbD n)]),(300,[(.loop 2,Av1 (Zcn n) (Zco n))])]
theorem X5 (n:Nat):NY Tryz.prog (Zg1 n):=⟨HA (f:=301) Tryz.func301 rfl (Ad (fn:=Tryz.f301) (L:=[(.loop 2,ZbD n)]) (ks:=[.loop 2]) ⟨N1 n,trivial⟩ (by kernel_rfl) (by kernel_rfl)),⟨HA (f:=300) Tryz.func300 rfl (Ad (fn:=Tryz.f300) (L:=[(.loop 2,Av1 (Zcn n) (Zco n))]) (ks:=[.loop 2]) ⟨Av2 (VR n) (VT n),trivial⟩ (by kernel_rfl) (by kernel_rfl)),trivial⟩⟩
def Zhg (n:Nat):A0 Ty:=[]
theorem Abs (n:Nat) (x:C.Ds Ty (Af IS)):(Ay Tryz.prog 16 (Al Tryz.prog (ZbT n) (Zg1 n)) (Ae (Zhg n)) (Ao Tryz.f130) (Av IS x)).runK (Ar Tryz.prog Tryz.f130.results.toList 0 MN)=Sk n x:=by kernel_rfl
theorem VU (n:Nat):Au Tryz.prog 130 (ZfQ n):=AX (As Tryz.func130 rfl rfl (by decide) rfl Aa Ab (Ac Aa Ab (G4 n) (X5 n)) (Ad (fn:=Tryz.f130) (L:=Zhg n) (ks:=[]) trivial (by kernel_rfl) (by kernel_rfl)) (Abs n))
def DG:List (Nat×C):=[(5,.m 227 93),(6,.o 93),(21,.l 93),(22,.s 3),(23,.s 3)]
def Kp:List Wo:=[⟨.exit 0,[.m 227 93],[(6,.o 93)],[]⟩,⟨.ret,[.m 227 93],[(2,.l 93),(3,.s 3)],[]⟩]
def DH:List (Nat×C):=[(6,.o 93),(56,.r 93 0),(57,.s 3),(58,.s 3)]
def Kq:List Wo:=[⟨.exit 2,[],[(6,.o 93)],[]⟩,⟨.ret,[],[(2,.l 93),(3,.s 3)],[]⟩]
def JS:List (Nat×C):=[(0,.l 28)]
def NF:List Wo:=[⟨.ret,[],[],[.l 93,.s 3]⟩]
def By:Nat→(List (Nw×Ag))→(List Ag)→(List Ag)→Int→Int→Option (((List (Nw×Ag))×List Ag×Unit) ⊕ (((List (Nw×Ag))×List Ag×Int×Unit)))
 | 0,_,_,_,_,_=>none
 | n+1,known,out,x21,x22,x23 =>
  bif decide (x23<x22) then((A3 x21 x23).bind fun v0 =>
  bif Dl AI known (Nw.mk v0.machine v0.seq) then(bif !(decide ((AV AI known (Nw.mk v0.machine v0.seq) (Ag.mk 0 0 0 (IK.mk 0) 0 0)).machine=v0.machine) && (decide ((AV AI known (Nw.mk v0.machine v0.seq) (Ag.mk 0 0 0 (IK.mk 0) 0 0)).seq=v0.seq) && (decide ((AV AI known (Nw.mk v0.machine v0.seq) (Ag.mk 0 0 0 (IK.mk 0) 0 0)).minute=v0.minute) && (decide ((AV AI known (Nw.mk v0.machine v0.seq) (Ag.mk 0 0 0 (IK.mk 0) 0 0)).kind.n=v0.kind.n) && (decide ((AV AI known (Nw.mk v0.machine v0.seq) (Ag.mk 0 0 0 (IK.mk 0) 0 0)).a=v0.a) && (decide ((AV AI known (Nw.mk v0.machine v0.seq) (Ag.mk 0 0 0 (IK.mk 0) 0 0)).b=v0.b) && true)))))) then(some (.inr (known,([],(6,()))))) else
  bif !Dl AI known (Nw.mk v0.machine v0.seq) then((app out [v0]).bind fun v1 =>
  By n (JA AI known (Nw.mk v0.machine v0.seq) v0) v1 x21 x22 (IntKind.i64.wrap (x23+1))) else
  By n known out x21 x22 (IntKind.i64.wrap (x23+1))) else
  bif !Dl AI known (Nw.mk v0.machine v0.seq) then((app out [v0]).bind fun v1 =>
  By n (JA AI known (Nw.mk v0.machine v0.seq) v0) v1 x21 x22 (IntKind.i64.wrap (x23+1))) else
  By n known out x21 x22 (IntKind.i64.wrap (x23+1))) else
  some (.inl (known,(out,())))
def G5 (n:Nat) (y:C.Ds Ty (Af DG)):Option (YT Ty Kp):=By n y.1 y.2.1 y.2.2.1 y.2.2.2.1 y.2.2.2.2.1
def Ze9 (n:Nat):St Ty→Tr (Lf Ty):=Bc DG 1 Kp (G5 n)
def Cr:Nat→(List Ag)→Int→Int→Option ((List Ag×Unit) ⊕ ((List Ag×Int×Unit)))
 | 0,_,_,_=>none
 | n+1,out,x57,x58 =>
  bif decide (x58<x57) then((A3 out x58).bind fun v0 =>
  (out.get?Internal x58.toNat).bind fun v1 =>
  bif decide (x58>0) then((A3 out (IntKind.i64.wrap (x58-1))).bind fun v2 =>
  (out.get?Internal (IntKind.i64.wrap (x58-1)).toNat).bind fun v3 =>
  bif decide (v3.machine=v1.machine) then((A3 out (IntKind.i64.wrap (x58-1))).bind fun v4 =>
  (out.get?Internal (IntKind.i64.wrap (x58-1)).toNat).bind fun v5 =>
  bif decide (v5.minute>v1.minute) then(some (.inr ([],(6,())))) else
  Cr n out x57 (IntKind.i64.wrap (x58+1))) else
  Cr n out x57 (IntKind.i64.wrap (x58+1))) else
  Cr n out x57 (IntKind.i64.wrap (x58+1))) else
  some (.inl (out,()))
def G6 (n:Nat) (y:C.Ds Ty (Af DH)):Option (YT Ty Kq):=Cr n y.1 y.2.2.1 y.2.2.2.1
def ZeA (n:Nat):St Ty→Tr (Lf Ty):=Bc DH 0 Kq (G6 n)
def Ni (n:Nat) (lists:List (List Ag)):Option ((List Ag×Int×Unit)) :=
 (Ln n lists).bind fun v0 =>
 bif v0.fst != 0 then(some ([],(v0.fst,()))) else
 (AfH n lists).bind fun v1 =>
 (By n [] [] v1.fst (↑v1.fst.length:Int) 0).bind fun v2 =>
 Sum.elim (fun v3=>(Ar7 v3.snd.fst).bind fun v4 =>
 (Cr n v4 (↑v4.length:Int) 0).bind fun v5 =>
 Sum.elim (fun v6=>some (v6.fst,(0,()))) (fun v6=>some (v6.fst,(v6.snd.fst,()))) (v5)) (fun v3=>some (v3.snd.fst,(v3.snd.snd.fst,()))) (v2)
def Ux (n:Nat) (y:C.Ds Ty (Af JS)):Option (YT Ty NF):=Ni n y.1
def Zg2 (n:Nat):AA Ty:=AB JS 0 NF (Ux n)
def ZcK (n:Nat):List (Nat×AA Ty):=[(130,ZfQ n),(131,ZjW n),(132,Zky n)]
theorem Lo (n:Nat):Ap Tryz.prog (ZcK n):=⟨VU n,⟨AiU n,⟨AnC n,trivial⟩⟩⟩
def ZfR (n:Nat):A0 Ty:=[]
theorem X6 (n:Nat) (x:C.Ds Ty (Af DG)):(Ay Tryz.prog 89 (Al Tryz.prog (ZcK n) []) (Ae (ZfR n)) (Am 7 Tryz.f81) (Av DG x)).runK (A4 1 DG Kp (G5 n))=G5 (n+1) x:=by kernel_rfl
theorem X7 (n:Nat):A5 true Tryz.prog 89 (Ze9 n) (.loop (Am 7 Tryz.f81)):=A6 fun x y hy=>At (Fn:=G5) Aa Ab (fun n=>Ac Aa Ab (Lo n) Ai) (fun h=>by cases h) (fun h=>by cases h) (fun n=>(Ad (fn:=Tryz.f81) (L:=ZfR n) (ks:=[]) trivial (by kernel_rfl) (by kernel_rfl))) (by decide) (fun _=>rfl) X6 hy
def ZfS (n:Nat):A0 Ty:=[]
theorem X8 (n:Nat) (x:C.Ds Ty (Af DH)):(Ay Tryz.prog 89 (Al Tryz.prog (ZcK n) []) (Ae (ZfS n)) (Am 19 Tryz.f81) (Av DH x)).runK (A4 0 DH Kq (G6 n))=G6 (n+1) x:=by kernel_rfl
theorem X9 (n:Nat):A5 true Tryz.prog 89 (ZeA n) (.loop (Am 19 Tryz.f81)):=A6 fun x y hy=>At (Fn:=G6) Aa Ab (fun n=>Ac Aa Ab (Lo n) Ai) (fun h=>by cases h) (fun h=>by cases h) (fun n=>(Ad (fn:=Tryz.f81) (L:=ZfS n) (ks:=[]) trivial (by kernel_rfl) (by kernel_rfl))) (by decide) (fun _=>rfl) X8 hy
def ZhN (n:Nat):A0 Ty:=[(.loop 7,Ze9 n),(.loop 19,ZeA n)]
theorem Ada (n:Nat) (x:C.Ds Ty (Af JS)):(Ay Tryz.prog 89 (Al Tryz.prog (ZcK n) []) (Ae (ZhN n)) (Ao Tryz.f81) (Av JS x)).runK (Ar Tryz.prog Tryz.f81.results.toList 0 NF)=Ux n x:=by kernel_rfl
theorem XA (n:Nat):Au Tryz.prog 81 (Zg2 n):=As Tryz.func81 rfl rfl (by decide) rfl Aa Ab (Ac Aa Ab (Lo n) Ai) (Ad (fn:=Tryz.f81) (L:=ZhN n) (ks:=[.loop 7,.loop 19]) ⟨X7 n,⟨X9 n,trivial⟩⟩ (by kernel_rfl) (by kernel_rfl)) (Ada n)
def Lp:List (Nat×C):=[(0,.l 28)]
def P1:List Wo:=[⟨.ret,[],[],[.l 93,.s 3]⟩]
def O1 (n:Nat) (lists:List (List Ag)):Option ((List Ag×Int×Unit)) :=
 (Ni n lists).bind fun v0 =>
 bif v0.snd.fst != 0 then(some ([],(v0.snd.fst,()))) else
 bif decide ((↑v0.fst.length:Int)>60) then(some ([],(3,()))) else
 some (v0.fst,(0,()))
def VV (n:Nat) (y:C.Ds Ty (Af Lp)):Option (YT Ty P1):=O1 n y.1
def Zhh (n:Nat):AA Ty:=AB Lp 0 P1 (VV n)
def Zi1 (n:Nat):List (Nat×AA Ty):=[(81,Zg2 n)]
theorem Adb (n:Nat):Ap Tryz.prog (Zi1 n):=⟨XA n,trivial⟩
def Zi2 (n:Nat):A0 Ty:=[]
theorem AeW (n:Nat) (x:C.Ds Ty (Af Lp)):(Ay Tryz.prog 20 (Al Tryz.prog (Zi1 n) []) (Ae (Zi2 n)) (Ao Tryz.f312) (Av Lp x)).runK (Ar Tryz.prog Tryz.f312.results.toList 0 P1)=VV n x:=by kernel_rfl
theorem Zi (n:Nat):Au Tryz.prog 312 (Zhh n):=As Tryz.func312 rfl rfl (by decide) rfl Aa Ab (Ac Aa Ab (Adb n) Ai) (Ad (fn:=Tryz.f312) (L:=Zi2 n) (ks:=[]) trivial (by kernel_rfl) (by kernel_rfl)) (AeW n)
def DX:List (Nat×C):=[(0,.l 93),(1,.g 93)]
def Hw:List Wo:=[⟨.ret,[],[],[.l 93]⟩]
def FB (n:Nat) (l:List Ag) (x:Ag):Option ((List Ag×Unit)) :=
 (Alx n l).bind fun v0 =>
 (app v0.fst [x]).bind fun v1 =>
 some (v1,())
def Mv (n:Nat) (y:C.Ds Ty (Af DX)):Option (YT Ty Hw):=FB n y.1 y.2.1
def Zdn (n:Nat):AA Ty:=AB DX 0 Hw (Mv n)
def Zec (n:Nat):List (Nat×AA Ty):=[(342,ZjU n)]
theorem Sl (n:Nat):Ap Tryz.prog (Zec n):=⟨AiO n,trivial⟩
def Zed (n:Nat):A0 Ty:=[]
theorem TC (n:Nat) (x:C.Ds Ty (Af DX)):(Ay Tryz.prog 10 (Al Tryz.prog (Zec n) []) (Ae (Zed n)) (Ao Tryz.f313) (Av DX x)).runK (Ar Tryz.prog Tryz.f313.results.toList 0 Hw)=Mv n x:=by kernel_rfl
theorem Qi (n:Nat):Au Tryz.prog 313 (Zdn n):=As Tryz.func313 rfl rfl (by decide) rfl Aa Ab (Ac Aa Ab (Sl n) Ai) (Ad (fn:=Tryz.f313) (L:=Zed n) (ks:=[]) trivial (by kernel_rfl) (by kernel_rfl)) (TC n)
def Cw:List (Nat×C):=[(0,.u 114),(1,.g 93)]
def Fm:List Wo:=[⟨.ret,[.u 114],[],[]⟩,⟨.pan,[.u 114],[],[.i 234 (.g 234)]⟩]
def Bz (n:Nat) (g:Aj) (r:Ag):Option ((Aj×Unit) ⊕ ((Aj×AG×Unit))) :=
 (CK n g.state.records r).bind fun v0 =>
 (AD n (!v0.fst) 6).bind fun v1 =>
 Sum.elim (fun v2=>(O1 n [g.state.records,[r]]).bind fun v3 =>
 (Dm n v3.snd.fst).bind fun v4 =>
 Sum.elim (fun v5=>(FB n g.state.records r).bind fun v6 =>
 some (.inl (Aj.mk (An.mk g.state.cards g.state.outs g.state.runs v6.fst g.state.week g.state.roster),()))) (fun v5=>some (.inr (g,(v5.fst,())))) (v4)) (fun v2=>some (.inr (g,(v2.fst,())))) (v1)
def JI (n:Nat) (y:C.Ds Ty (Af Cw)):Option (YT Ty Fm):=Bz n y.1 y.2.1
def ZbB (n:Nat):AA Ty:=AB Cw 1 Fm (JI n)
def ZcS (n:Nat):List (Nat×AA Ty):=[(311,Zcx n),(139,Zb7 n),(312,Zhh n),(259,ZbE n),(313,Zdn n)]
theorem P2 (n:Nat):Ap Tryz.prog (ZcS n):=⟨N0 n,⟨B8 n,⟨Zi n,⟨DE n,⟨Qi n,trivial⟩⟩⟩⟩⟩
def ZcT (n:Nat):A0 Ty:=[]
theorem Qj (n:Nat) (x:C.Ds Ty (Af Cw)):(Ay Tryz.prog 40 (Al Tryz.prog (ZcS n) []) (Ae (ZcT n)) (Ao Tryz.f264) (Av Cw x)).runK (Ar Tryz.prog Tryz.f264.results.toList 1 Fm)=JI n x:=by kernel_rfl
theorem CU (n:Nat):Au Tryz.prog 264 (ZbB n):=As Tryz.func264 rfl rfl (by decide) rfl Aa Ab (Ac Aa Ab (P2 n) Ai) (Ad (fn:=Tryz.f264) (L:=ZcT n) (ks:=[]) trivial (by kernel_rfl) (by kernel_rfl)) (Qj n)
def Dt:List (Nat×C):=[(0,.u 114),(1,.v 3)]
def G7:List Wo:=[⟨.ret,[.u 114],[],[]⟩,⟨.pan,[.u 114],[],[.i 234 (.g 234)]⟩]
def E9 (n:Nat) (g:Aj) (n_:List Int):Option ((Aj×Unit) ⊕ ((Aj×AG×Unit))) :=
 bif n_.length.beq 5 then((A3 n_ 0).bind fun v0 =>
 (n_.get?Internal (Int.toNat 0)).bind fun v1 =>
 bif n_.length.beq 5 then((A3 n_ 1).bind fun v2 =>
 (n_.get?Internal (Int.toNat 1)).bind fun v3 =>
 bif n_.length.beq 5 then((A3 n_ 2).bind fun v4 =>
 (n_.get?Internal (Int.toNat 2)).bind fun v5 =>
 bif n_.length.beq 5 then((A3 n_ 3).bind fun v6 =>
 (n_.get?Internal (Int.toNat 3)).bind fun v7 =>
 bif n_.length.beq 5 then((A3 n_ 4).bind fun v8 =>
 (n_.get?Internal (Int.toNat 4)).bind fun v9 =>
 (Bz n g (Ag.mk v1 v3 v5 (IK.mk 0) v7 v9)).bind fun v10 =>
 Sum.elim (fun v11=>some (.inl (v11.fst,()))) (fun v11=>some (.inr (v11.fst,(v11.snd.fst,())))) (v10)) else
 none) else
 none) else
 none) else
 none) else
 none
def Lq (n:Nat) (y:C.Ds Ty (Af Dt)):Option (YT Ty G7):=E9 n y.1 y.2.1
def ZbU (n:Nat):AA Ty:=AB Dt 1 G7 (Lq n)
def Zd8 (n:Nat):List (Nat×AA Ty):=[(264,ZbB n)]
theorem Rv (n:Nat):Ap Tryz.prog (Zd8 n):=⟨CU n,trivial⟩
def Zd9 (n:Nat):A0 Ty:=[]
theorem Sm (n:Nat) (x:C.Ds Ty (Af Dt)):(Ay Tryz.prog 17 (Al Tryz.prog (Zd8 n) []) (Ae (Zd9 n)) (Ao Tryz.f195) (Av Dt x)).runK (Ar Tryz.prog Tryz.f195.results.toList 1 G7)=Lq n x:=by kernel_rfl
theorem Iv (n:Nat):Au Tryz.prog 195 (ZbU n):=As Tryz.func195 rfl rfl (by decide) rfl Aa Ab (Ac Aa Ab (Rv n) Ai) (Ad (fn:=Tryz.f195) (L:=Zd9 n) (ks:=[]) trivial (by kernel_rfl) (by kernel_rfl)) (Sm n)
def Du:List (Nat×C):=[(0,.u 114),(1,.v 3)]
def G8:List Wo:=[⟨.ret,[.u 114],[],[]⟩,⟨.pan,[.u 114],[],[.i 234 (.g 234)]⟩]
def EA (n:Nat) (g:Aj) (n_:List Int):Option ((Aj×Unit) ⊕ ((Aj×AG×Unit))) :=
 bif n_.length.beq 5 then((A3 n_ 0).bind fun v0 =>
 (n_.get?Internal (Int.toNat 0)).bind fun v1 =>
 bif n_.length.beq 5 then((A3 n_ 1).bind fun v2 =>
 (n_.get?Internal (Int.toNat 1)).bind fun v3 =>
 bif n_.length.beq 5 then((A3 n_ 2).bind fun v4 =>
 (n_.get?Internal (Int.toNat 2)).bind fun v5 =>
 bif n_.length.beq 5 then((A3 n_ 3).bind fun v6 =>
 (n_.get?Internal (Int.toNat 3)).bind fun v7 =>
 (Bz n g (Ag.mk v1 v3 v5 (IK.mk 1) v7 0)).bind fun v8 =>
 Sum.elim (fun v9=>some (.inl (v9.fst,()))) (fun v9=>some (.inr (v9.fst,(v9.snd.fst,())))) (v8)) else
 none) else
 none) else
 none) else
 none
def Lr (n:Nat) (y:C.Ds Ty (Af Du)):Option (YT Ty G8):=EA n y.1 y.2.1
def ZbV (n:Nat):AA Ty:=AB Du 1 G8 (Lr n)
def ZdA (n:Nat):List (Nat×AA Ty):=[(264,ZbB n)]
theorem Rw (n:Nat):Ap Tryz.prog (ZdA n):=⟨CU n,trivial⟩
def ZdB (n:Nat):A0 Ty:=[]
theorem Sn (n:Nat) (x:C.Ds Ty (Af Du)):(Ay Tryz.prog 15 (Al Tryz.prog (ZdA n) []) (Ae (ZdB n)) (Ao Tryz.f196) (Av Du x)).runK (Ar Tryz.prog Tryz.f196.results.toList 1 G8)=Lr n x:=by kernel_rfl
theorem Iw (n:Nat):Au Tryz.prog 196 (ZbV n):=As Tryz.func196 rfl rfl (by decide) rfl Aa Ab (Ac Aa Ab (Rw n) Ai) (Ad (fn:=Tryz.f196) (L:=ZdB n) (ks:=[]) trivial (by kernel_rfl) (by kernel_rfl)) (Sn n)
def CL:List (Nat×C):=[(0,.u 114),(1,.v 3)]
def Gb:List Wo:=[⟨.ret,[.u 114],[],[]⟩,⟨.pan,[.u 114],[],[.i 234 (.g 234)]⟩]
def DY (n:Nat) (g:Aj) (n_:List Int):Option ((Aj×Unit) ⊕ ((Aj×AG×Unit))) :=
 bif n_.length.beq 5 then((A3 n_ 0).bind fun v0 =>
 (n_.get?Internal (Int.toNat 0)).bind fun v1 =>
 bif n_.length.beq 5 then((A3 n_ 1).bind fun v2 =>
 (n_.get?Internal (Int.toNat 1)).bind fun v3 =>
 bif n_.length.beq 5 then((A3 n_ 2).bind fun v4 =>
 (n_.get?Internal (Int.toNat 2)).bind fun v5 =>
 bif n_.length.beq 5 then((A3 n_ 3).bind fun v6 =>
 (n_.get?Internal (Int.toNat 3)).bind fun v7 =>
 bif n_.length.beq 5 then((A3 n_ 4).bind fun v8 =>
 (n_.get?Internal (Int.toNat 4)).bind fun v9 =>
 (Bz n g (Ag.mk v1 v3 v5 (IK.mk 2) v7 v9)).bind fun v10 =>
 Sum.elim (fun v11=>some (.inl (v11.fst,()))) (fun v11=>some (.inr (v11.fst,(v11.snd.fst,())))) (v10)) else
 none) else
 none) else
 none) else
 none) else
 none
def K8 (n:Nat) (y:C.Ds Ty (Af CL)):Option (YT Ty Gb):=DY n y.1 y.2.1
def ZbP (n:Nat):AA Ty:=AB CL 1 Gb (K8 n)
def Zdo (n:Nat):List (Nat×AA Ty):=[(264,ZbB n)]
theorem Qk (n:Nat):Ap Tryz.prog (Zdo n):=⟨CU n,trivial⟩
def Zdp (n:Nat):A0 Ty:=[]
theorem Rx (n:Nat) (x:C.Ds Ty (Af CL)):(Ay Tryz.prog 17 (Al Tryz.prog (Zdo n) []) (Ae (Zdp n)) (Ao Tryz.f197) (Av CL x)).runK (Ar Tryz.prog Tryz.f197.results.toList 1 Gb)=K8 n x:=by kernel_rfl
theorem HI (n:Nat):Au Tryz.prog 197 (ZbP n):=As Tryz.func197 rfl rfl (by decide) rfl Aa Ab (Ac Aa Ab (Qk n) Ai) (Ad (fn:=Tryz.f197) (L:=Zdp n) (ks:=[]) trivial (by kernel_rfl) (by kernel_rfl)) (Rx n)
def DZ:List (Nat×C):=[(0,.l 186),(1,.g 186)]
def Hx:List Wo:=[⟨.ret,[],[],[.l 186]⟩]
def FC (n:Nat) (l:List AT) (x:AT):Option ((List AT×Unit)) :=
 (AhS n l).bind fun v0 =>
 (app v0.fst [x]).bind fun v1 =>
 some (v1,())
def Mw (n:Nat) (y:C.Ds Ty (Af DZ)):Option (YT Ty Hx):=FC n y.1 y.2.1
def Zdq (n:Nat):AA Ty:=AB DZ 0 Hx (Mw n)
def Zee (n:Nat):List (Nat×AA Ty):=[(314,Zj3 n)]
theorem So (n:Nat):Ap Tryz.prog (Zee n):=⟨AhT n,trivial⟩
def Zef (n:Nat):A0 Ty:=[]
theorem TE (n:Nat) (x:C.Ds Ty (Af DZ)):(Ay Tryz.prog 10 (Al Tryz.prog (Zee n) []) (Ae (Zef n)) (Ao Tryz.f265) (Av DZ x)).runK (Ar Tryz.prog Tryz.f265.results.toList 0 Hx)=Mw n x:=by kernel_rfl
theorem Ql (n:Nat):Au Tryz.prog 265 (Zdq n):=As Tryz.func265 rfl rfl (by decide) rfl Aa Ab (Ac Aa Ab (So n) Ai) (Ad (fn:=Tryz.f265) (L:=Zef n) (ks:=[]) trivial (by kernel_rfl) (by kernel_rfl)) (TE n)
def FE:List (Nat×C):=[(0,.g 32),(1,.g 184)]
def Jw:List Wo:=[⟨.ret,[],[],[.s 4]⟩]
def EB (n:Nat) (w:Ax) (d:AO):Option ((Bool×Unit)) :=
 bif decide (0≤d.day) then(bif decide (d.day≤IntKind.i64.wrap (w.days-1)) then(bif decide (0≤d.on) then(bif decide (d.on≤1439) then(bif decide (d.on≤d.off.lo) then(bif decide (d.off.lo≤d.off.hi) then(bif decide (d.off.hi≤IntKind.i64.wrap (d.on+1440)) then(bif decide (0≤d.route) then(some (decide (d.route≤15),())) else
 some (false,())) else
 some (false,())) else
 some (false,())) else
 some (false,())) else
 some (false,())) else
 some (false,())) else
 some (false,())) else
 some (false,())
def Od (n:Nat) (y:C.Ds Ty (Af FE)):Option (YT Ty Jw):=EB n y.1 y.2.1
def Zeg (n:Nat):AA Ty:=AB FE 0 Jw (Od n)
def Zfj (n:Nat):List (Nat×AA Ty):=[]
theorem UQ (n:Nat):Ap Tryz.prog (Zfj n):=trivial
def Zfk (n:Nat):A0 Ty:=[]
theorem VW (n:Nat) (x:C.Ds Ty (Af FE)):(Ay Tryz.prog 47 (Al Tryz.prog (Zfj n) []) (Ae (Zfk n)) (Ao Tryz.f116) (Av FE x)).runK (Ar Tryz.prog Tryz.f116.results.toList 0 Jw)=Od n x:=by kernel_rfl
theorem Sp (n:Nat):Au Tryz.prog 116 (Zeg n):=As Tryz.func116 rfl rfl (by decide) rfl Aa Ab (Ac Aa Ab (UQ n) Ai) (Ad (fn:=Tryz.f116) (L:=Zfk n) (ks:=[]) trivial (by kernel_rfl) (by kernel_rfl)) (VW n)
def DI:List (Nat×C):=[(0,.l 3),(1,.s 3),(2,.s 3),(9,.l 3),(10,.s 3),(11,.s 3)]
def Kr:List Wo:=[⟨.exit 0,[],[],[]⟩,⟨.ret,[],[(6,.s 4)],[]⟩]
def JT:List (Nat×C):=[(0,.l 3),(1,.s 3),(2,.s 3)]
def NG:List Wo:=[⟨.ret,[],[],[.s 4]⟩]
def IT:Nat→(List Int)→Int→Int→(List Int)→Int→Int→Option (Unit ⊕ ((Bool×Unit)))
 | 0,_,_,_,_,_,_=>none
 | n+1,l,low,high,x9,x10,x11 =>
  bif decide (x11<x10) then((A3 x9 x11).bind fun v0 =>
  bif decide (low≤v0) then(bif !!decide (v0≤high) then(bif decide (x11>0) then((A3 l (IntKind.i64.wrap (x11-1))).bind fun v1 =>
  bif decide (v0≤v1) then(some (.inr (false,()))) else
  IT n l low high x9 x10 (IntKind.i64.wrap (x11+1))) else
  IT n l low high x9 x10 (IntKind.i64.wrap (x11+1))) else
  some (.inr (false,()))) else
  some (.inr (false,()))) else
  some (.inl ())
def G9 (n:Nat) (y:C.Ds Ty (Af DI)):Option (YT Ty Kr):=IT n y.1 y.2.1 y.2.2.1 y.2.2.2.1 y.2.2.2.2.1 y.2.2.2.2.2.1
def ZeB (n:Nat):St Ty→Tr (Lf Ty):=Bc DI 0 Kr (G9 n)
def Hs (n:Nat) (l:List Int) (low:Int) (high:Int):Option ((Bool×Unit)) :=
 (IT n l low high l (↑l.length:Int) 0).bind fun v0 =>
 Sum.elim (fun v1=>some (true,())) (fun v1=>some (v1.fst,())) (v0)
def Uy (n:Nat) (y:C.Ds Ty (Af JT)):Option (YT Ty NG):=Hs n y.1 y.2.1 y.2.2.1
def Zg3 (n:Nat):AA Ty:=El (AB JT 0 NG (Uy n))
def ZeC (n:Nat):List (Nat×AA Ty):=[]
theorem QP (n:Nat):Ap Tryz.prog (ZeC n):=trivial
def ZfT (n:Nat):A0 Ty:=[]
theorem XB (n:Nat) (x:C.Ds Ty (Af DI)):(Ay Tryz.prog 35 (Al Tryz.prog (ZeC n) []) (Ae (ZfT n)) (Am 2 Tryz.f172) (Av DI x)).runK (A4 0 DI Kr (G9 n))=G9 (n+1) x:=by kernel_rfl
theorem XC (n:Nat):A5 true Tryz.prog 35 (ZeB n) (.loop (Am 2 Tryz.f172)):=A6 fun x y hy=>At (Fn:=G9) Aa Ab (fun n=>Ac Aa Ab (QP n) Ai) (fun h=>by cases h) (fun h=>by cases h) (fun n=>(Ad (fn:=Tryz.f172) (L:=ZfT n) (ks:=[]) trivial (by kernel_rfl) (by kernel_rfl))) (by decide) (fun _=>rfl) XB hy
def ZhO (n:Nat):A0 Ty:=[(.loop 2,ZeB n)]
theorem Adc (n:Nat) (x:C.Ds Ty (Af JT)):(Ay Tryz.prog 35 (Al Tryz.prog (ZeC n) []) (Ae (ZhO n)) (Ao Tryz.f172) (Av JT x)).runK (Ar Tryz.prog Tryz.f172.results.toList 0 NG)=Uy n x:=by kernel_rfl
theorem XD (n:Nat):Au Tryz.prog 172 (Zg3 n):=AX (As Tryz.func172 rfl rfl (by decide) rfl Aa Ab (Ac Aa Ab (QP n) Ai) (Ad (fn:=Tryz.f172) (L:=ZhO n) (ks:=[.loop 2]) ⟨XC n,trivial⟩ (by kernel_rfl) (by kernel_rfl)) (Adc n))
def Ea:List (Nat×C):=[(0,.g 32),(1,.g 186)]
def Hy:List Wo:=[⟨.ret,[],[],[.s 4]⟩]
def Db (n:Nat) (w:Ax) (d:AT):Option ((Bool×Unit)) :=
 (Hs n d.knows 0 15).bind fun v0 =>
 bif v0.fst then((Hs n d.leave 0 (IntKind.i64.wrap (w.days-1))).bind fun v1 =>
 bif v1.fst then((Hs n d.wish 0 (IntKind.i64.wrap (w.days-1))).bind fun v2 =>
 bif v2.fst then(bif decide (-10080≤d.off) then(bif decide (d.off≤1440) then(bif decide (0≤d.row) then(bif decide (d.row≤14) then(bif decide (0≤d.used) then(some (decide (d.used≤w.hours),())) else
 some (false,())) else
 some (false,())) else
 some (false,())) else
 some (false,())) else
 some (false,())) else
 some (false,())) else
 some (false,())) else
 some (false,())
def Mx (n:Nat) (y:C.Ds Ty (Af Ea)):Option (YT Ty Hy):=Db n y.1 y.2.1
def Zdr (n:Nat):AA Ty:=AB Ea 0 Hy (Mx n)
def Zeh (n:Nat):List (Nat×AA Ty):=[(172,Zg3 n)]
theorem Sq (n:Nat):Ap Tryz.prog (Zeh n):=⟨XD n,trivial⟩
def Zei (n:Nat):A0 Ty:=[]
theorem TF (n:Nat) (x:C.Ds Ty (Af Ea)):(Ay Tryz.prog 41 (Al Tryz.prog (Zeh n) []) (Ae (Zei n)) (Ao Tryz.f118) (Av Ea x)).runK (Ar Tryz.prog Tryz.f118.results.toList 0 Hy)=Mx n x:=by kernel_rfl
theorem Qm (n:Nat):Au Tryz.prog 118 (Zdr n):=As Tryz.func118 rfl rfl (by decide) rfl Aa Ab (Ac Aa Ab (Sq n) Ai) (Ad (fn:=Tryz.f118) (L:=Zei n) (ks:=[]) trivial (by kernel_rfl) (by kernel_rfl)) (TF n)
def BX:List (Nat×C):=[(0,.l 184),(1,.f 169 [] [.p [.f 116 [.g 32] []]]),(7,.s 3),(8,.s 3)]
def GB:List Wo:=[⟨.exit 0,[.p [.f 116 [.g 32] []]],[],[]⟩,⟨.ret,[.p [.f 116 [.g 32] []]],[(4,.s 3)],[]⟩]
def BY:List (Nat×C):=[(0,.l 186),(1,.f 171 [] [.p [.f 118 [.g 32] []]]),(7,.s 3),(8,.s 3)]
def GC:List Wo:=[⟨.exit 0,[.p [.f 118 [.g 32] []]],[],[]⟩,⟨.ret,[.p [.f 118 [.g 32] []]],[(4,.s 3)],[]⟩]
def FF:List (Nat×C):=[(0,.g 32)]
def Jx:List Wo:=[⟨.ret,[],[],[.s 3]⟩]
def Bd:Nat→(List AO)→Ax→Int→Int→Option (((((Ax×Unit)×Unit)×Unit)×Unit) ⊕ (((((Ax×Unit)×Unit)×Unit)×Int×Unit)))
 | 0,_,_,_,_=>none
 | n+1,s,f,x7,x8 =>
  bif decide (x8<x7) then((A3 s x8).bind fun v0 =>
  (EB n f v0).bind fun v1 =>
  bif !v1.fst then(some (.inr ((((f,()),()),()),(x8,())))) else
  Bd n s f x7 (IntKind.i64.wrap (x8+1))) else
  some (.inl ((((f,()),()),()),()))
def Dv (n:Nat) (y:C.Ds Ty (Af BX)):Option (YT Ty GB):=Bd n y.1 y.2.1.2.1.1.1.1 y.2.2.1 y.2.2.2.1
def Zb9 (n:Nat):St Ty→Tr (Lf Ty):=Bc BX 1 GB (Dv n)
def Be:Nat→(List AT)→Ax→Int→Int→Option (((((Ax×Unit)×Unit)×Unit)×Unit) ⊕ (((((Ax×Unit)×Unit)×Unit)×Int×Unit)))
 | 0,_,_,_,_=>none
 | n+1,s,f,x7,x8 =>
  bif decide (x8<x7) then((A3 s x8).bind fun v0 =>
  (Db n f v0).bind fun v1 =>
  bif !v1.fst then(some (.inr ((((f,()),()),()),(x8,())))) else
  Be n s f x7 (IntKind.i64.wrap (x8+1))) else
  some (.inl ((((f,()),()),()),()))
def Dw (n:Nat) (y:C.Ds Ty (Af BY)):Option (YT Ty GC):=Be n y.1 y.2.1.2.1.1.1.1 y.2.2.1 y.2.2.2.1
def ZbW (n:Nat):St Ty→Tr (Lf Ty):=Bc BY 1 GC (Dw n)
def CM (n:Nat) (w:Ax):Option ((Int×Unit)) :=
 bif !decide ((↑w.duties.length:Int)>12) then(bif decide ((↑w.drivers.length:Int)>6) then(some (3,())) else
 bif decide (1≤w.days) then(bif !!decide (w.days≤7) then(bif decide (0≤w.rest) then(bif !!decide (w.rest≤3000) then(bif decide (1≤w.run) then(bif !!decide (w.run≤14) then(bif decide (0≤w.hours) then(bif !decide (w.hours≤20000) then(some (1,())) else
 (Bd n w.duties w (↑w.duties.length:Int) 0).bind fun v0 =>
 Sum.elim (fun v1=>(Be n w.drivers w (↑w.drivers.length:Int) 0).bind fun v2 =>
 Sum.elim (fun v3=>some (0,())) (fun v3=>bif !!decide (v3.snd.fst≥0) then(some (1,())) else
 some (0,())) (v2)) (fun v1=>bif !!!decide (v1.snd.fst≥0) then((Be n w.drivers w (↑w.drivers.length:Int) 0).bind fun v2 =>
 Sum.elim (fun v3=>some (0,())) (fun v3=>bif !!decide (v3.snd.fst≥0) then(some (1,())) else
 some (0,())) (v2)) else
 some (1,())) (v0)) else
 some (1,())) else
 some (1,())) else
 some (1,())) else
 some (1,())) else
 some (1,())) else
 some (1,())) else
 some (1,())) else
 some (3,())
def Oe (n:Nat) (y:C.Ds Ty (Af FF)):Option (YT Ty Jx):=CM n y.1
def ZbI (n:Nat):AA Ty:=AB FF 0 Jx (Oe n)
def Zca (n:Nat):List (Nat×AA Ty):=[(116,Zeg n),(118,Zdr n)]
theorem Hz (n:Nat):Ap Tryz.prog (Zca n):=⟨Sp n,⟨Qm n,trivial⟩⟩
def ZdC (n:Nat):A0 Ty:=[]
theorem Sr (n:Nat) (x:C.Ds Ty (Af BX)):(Ay Tryz.prog 19 (Al Tryz.prog (Zca n) []) (Ae (ZdC n)) (Am 2 Tryz.f234) (Av BX x)).runK (A4 1 BX GB (Dv n))=Dv (n+1) x:=by kernel_rfl
theorem K9 (n:Nat):A5 true Tryz.prog 19 (Zb9 n) (.loop (Am 2 Tryz.f234)):=A6 fun x y hy=>At (Fn:=Dv) Aa Ab (fun n=>Ac Aa Ab (Hz n) Ai) (fun h=>by cases h) (fun h=>by cases h) (fun n=>(Ad (fn:=Tryz.f234) (L:=ZdC n) (ks:=[]) trivial (by kernel_rfl) (by kernel_rfl))) (by decide) (fun _=>rfl) Sr hy
def ZeD (n:Nat):UF Ty:=[(234,[(.loop 2,Zb9 n)])]
theorem TG (n:Nat):NY Tryz.prog (ZeD n):=⟨HA (f:=234) Tryz.func234 rfl (Ad (fn:=Tryz.f234) (L:=[(.loop 2,Zb9 n)]) (ks:=[.loop 2]) ⟨K9 n,trivial⟩ (by kernel_rfl) (by kernel_rfl)),trivial⟩
def ZdD (n:Nat):A0 Ty:=[]
theorem Ss (n:Nat) (x:C.Ds Ty (Af BY)):(Ay Tryz.prog 19 (Al Tryz.prog (Zca n) (ZeD n)) (Ae (ZdD n)) (Am 2 Tryz.f235) (Av BY x)).runK (A4 1 BY GC (Dw n))=Dw (n+1) x:=by kernel_rfl
theorem Su (n:Nat):A5 true Tryz.prog 19 (ZbW n) (.loop (Am 2 Tryz.f235)):=A6 fun x y hy=>At (Fn:=Dw) Aa Ab (fun n=>Ac Aa Ab (Hz n) (TG n)) (fun h=>by cases h) (fun h=>by cases h) (fun n=>(Ad (fn:=Tryz.f235) (L:=ZdD n) (ks:=[]) trivial (by kernel_rfl) (by kernel_rfl))) (by decide) (fun _=>rfl) Ss hy
def ZeE (n:Nat):UF Ty:=[(234,[(.loop 2,Zb9 n)]),(235,[(.loop 2,ZbW n)])]
theorem TH (n:Nat):NY Tryz.prog (ZeE n):=⟨HA (f:=234) Tryz.func234 rfl (Ad (fn:=Tryz.f234) (L:=[(.loop 2,Zb9 n)]) (ks:=[.loop 2]) ⟨K9 n,trivial⟩ (by kernel_rfl) (by kernel_rfl)),⟨HA (f:=235) Tryz.func235 rfl (Ad (fn:=Tryz.f235) (L:=[(.loop 2,ZbW n)]) (ks:=[.loop 2]) ⟨Su n,trivial⟩ (by kernel_rfl) (by kernel_rfl)),trivial⟩⟩
def Zfl (n:Nat):A0 Ty:=[]
theorem VX (n:Nat) (x:C.Ds Ty (Af FF)):(Ay Tryz.prog 52 (Al Tryz.prog (Zca n) (ZeE n)) (Ae (Zfl n)) (Ao Tryz.f71) (Av FF x)).runK (Ar Tryz.prog Tryz.f71.results.toList 0 Jx)=Oe n x:=by kernel_rfl
theorem Gc (n:Nat):Au Tryz.prog 71 (ZbI n):=As Tryz.func71 rfl rfl (by decide) rfl Aa Ab (Ac Aa Ab (Hz n) (TH n)) (Ad (fn:=Tryz.f71) (L:=Zfl n) (ks:=[]) trivial (by kernel_rfl) (by kernel_rfl)) (VX n)
def Cx:List (Nat×C):=[(0,.u 114),(1,.v 3)]
def Fo:List Wo:=[⟨.ret,[.u 114],[],[]⟩,⟨.pan,[.u 114],[],[.i 234 (.g 234)]⟩]
def BZ (n:Nat) (g:Aj) (n_:List Int):Option ((Aj×Unit) ⊕ ((Aj×AG×Unit))) :=
 bif n_.length.beq 5 then((A3 n_ 0).bind fun v0 =>
 (n_.get?Internal (Int.toNat 0)).bind fun v1 =>
 bif n_.length.beq 5 then((A3 n_ 1).bind fun v2 =>
 (n_.get?Internal (Int.toNat 1)).bind fun v3 =>
 (FC n g.state.week.drivers (AT.mk [v1] [] [] v3 0 0)).bind fun v4 =>
 (CM n (Ax.mk g.state.week.days g.state.week.duties v4.fst g.state.week.rest g.state.week.run g.state.week.hours)).bind fun v5 =>
 (Dm n v5.fst).bind fun v6 =>
 Sum.elim (fun v7=>some (.inl (Aj.mk (An.mk g.state.cards g.state.outs g.state.runs g.state.records (Ax.mk g.state.week.days g.state.week.duties v4.fst g.state.week.rest g.state.week.run g.state.week.hours) g.state.roster),()))) (fun v7=>some (.inr (g,(v7.fst,())))) (v6)) else
 none) else
 none
def JJ (n:Nat) (y:C.Ds Ty (Af Cx)):Option (YT Ty Fo):=BZ n y.1 y.2.1
def ZbK (n:Nat):AA Ty:=AB Cx 1 Fo (JJ n)
def ZcU (n:Nat):List (Nat×AA Ty):=[(265,Zdq n),(71,ZbI n),(259,ZbE n)]
theorem P3 (n:Nat):Ap Tryz.prog (ZcU n):=⟨Ql n,⟨Gc n,⟨DE n,trivial⟩⟩⟩
def ZcV (n:Nat):A0 Ty:=[]
theorem Qn (n:Nat) (x:C.Ds Ty (Af Cx)):(Ay Tryz.prog 28 (Al Tryz.prog (ZcU n) []) (Ae (ZcV n)) (Ao Tryz.f198) (Av Cx x)).runK (Ar Tryz.prog Tryz.f198.results.toList 1 Fo)=JJ n x:=by kernel_rfl
theorem GY (n:Nat):Au Tryz.prog 198 (ZbK n):=As Tryz.func198 rfl rfl (by decide) rfl Aa Ab (Ac Aa Ab (P3 n) Ai) (Ad (fn:=Tryz.f198) (L:=ZcV n) (ks:=[]) trivial (by kernel_rfl) (by kernel_rfl)) (Qn n)
def FG:List (Nat×C):=[(0,.l 184),(1,.g 184)]
def Jy:List Wo:=[⟨.ret,[],[],[.l 184]⟩]
def HJ (n:Nat) (l:List AO) (x:AO):Option ((List AO×Unit)) :=
 (AhU n l).bind fun v0 =>
 (app v0.fst [x]).bind fun v1 =>
 some (v1,())
def Of (n:Nat) (y:C.Ds Ty (Af FG)):Option (YT Ty Jy):=HJ n y.1 y.2.1
def Zej (n:Nat):AA Ty:=AB FG 0 Jy (Of n)
def Zfm (n:Nat):List (Nat×AA Ty):=[(315,Zj4 n)]
theorem UR (n:Nat):Ap Tryz.prog (Zfm n):=⟨AhV n,trivial⟩
def Zfn (n:Nat):A0 Ty:=[]
theorem VY (n:Nat) (x:C.Ds Ty (Af FG)):(Ay Tryz.prog 10 (Al Tryz.prog (Zfm n) []) (Ae (Zfn n)) (Ao Tryz.f266) (Av FG x)).runK (Ar Tryz.prog Tryz.f266.results.toList 0 Jy)=Of n x:=by kernel_rfl
theorem Sv (n:Nat):Au Tryz.prog 266 (Zej n):=As Tryz.func266 rfl rfl (by decide) rfl Aa Ab (Ac Aa Ab (UR n) Ai) (Ad (fn:=Tryz.f266) (L:=Zfn n) (ks:=[]) trivial (by kernel_rfl) (by kernel_rfl)) (VY n)
def GD:List (Nat×C):=[(0,.l 3),(1,.s 3)]
def Ks:List Wo:=[⟨.ret,[],[],[.l 3]⟩]
def IU (n:Nat) (l:List Int) (x:Int):Option ((List Int×Unit)) :=
 (Zc n l).bind fun v0 =>
 (app v0.fst [x]).bind fun v1 =>
 some (v1,())
def P4 (n:Nat) (y:C.Ds Ty (Af GD)):Option (YT Ty Ks):=IU n y.1 y.2.1
def ZeF (n:Nat):AA Ty:=AB GD 0 Ks (P4 n)
def ZfU (n:Nat):List (Nat×AA Ty):=[(268,Zjd n)]
theorem VZ (n:Nat):Ap Tryz.prog (ZfU n):=⟨Abi n,trivial⟩
def ZfV (n:Nat):A0 Ty:=[]
theorem XE (n:Nat) (x:C.Ds Ty (Af GD)):(Ay Tryz.prog 10 (Al Tryz.prog (ZfU n) []) (Ae (ZfV n)) (Ao Tryz.f267) (Av GD x)).runK (Ar Tryz.prog Tryz.f267.results.toList 0 Ks)=P4 n x:=by kernel_rfl
theorem TI (n:Nat):Au Tryz.prog 267 (ZeF n):=As Tryz.func267 rfl rfl (by decide) rfl Aa Ab (Ac Aa Ab (VZ n) Ai) (Ad (fn:=Tryz.f267) (L:=ZfV n) (ks:=[]) trivial (by kernel_rfl) (by kernel_rfl)) (XE n)
def Dx:List (Nat×C):=[(0,.u 114),(1,.v 3)]
def GF:List Wo:=[⟨.ret,[.u 114],[],[]⟩,⟨.pan,[.u 114],[],[.i 234 (.g 234)]⟩]
def CB (n:Nat) (g:Aj) (n_:List Int):Option ((Aj×Unit) ⊕ ((Aj×AG×Unit))) :=
 bif n_.length.beq 5 then((A3 n_ 0).bind fun v0 =>
 (n_.get?Internal (Int.toNat 0)).bind fun v1 =>
 bif n_.length.beq 5 then((A3 n_ 1).bind fun v2 =>
 (n_.get?Internal (Int.toNat 1)).bind fun v3 =>
 bif n_.length.beq 5 then((A3 n_ 2).bind fun v4 =>
 (n_.get?Internal (Int.toNat 2)).bind fun v5 =>
 bif n_.length.beq 5 then((A3 n_ 3).bind fun v6 =>
 (n_.get?Internal (Int.toNat 3)).bind fun v7 =>
 bif n_.length.beq 5 then((A3 n_ 4).bind fun v8 =>
 (n_.get?Internal (Int.toNat 4)).bind fun v9 =>
 (HJ n g.state.week.duties (AO.mk v1 v3 (Rg.mk v5 v7) v9)).bind fun v10 =>
 (CM n (Ax.mk g.state.week.days v10.fst g.state.week.drivers g.state.week.rest g.state.week.run g.state.week.hours)).bind fun v11 =>
 (Dm n v11.fst).bind fun v12 =>
 Sum.elim (fun v13=>(IU n g.state.roster (-1)).bind fun v14 =>
 some (.inl (Aj.mk (An.mk g.state.cards g.state.outs g.state.runs g.state.records (Ax.mk g.state.week.days v10.fst g.state.week.drivers g.state.week.rest g.state.week.run g.state.week.hours) v14.fst),()))) (fun v13=>some (.inr (g,(v13.fst,())))) (v12)) else
 none) else
 none) else
 none) else
 none) else
 none
def Ls (n:Nat) (y:C.Ds Ty (Af Dx)):Option (YT Ty GF):=CB n y.1 y.2.1
def ZbX (n:Nat):AA Ty:=AB Dx 1 GF (Ls n)
def ZdE (n:Nat):List (Nat×AA Ty):=[(266,Zej n),(71,ZbI n),(259,ZbE n),(267,ZeF n)]
theorem Ry (n:Nat):Ap Tryz.prog (ZdE n):=⟨Sv n,⟨Gc n,⟨DE n,⟨TI n,trivial⟩⟩⟩⟩
def ZdF (n:Nat):A0 Ty:=[]
theorem Sw (n:Nat) (x:C.Ds Ty (Af Dx)):(Ay Tryz.prog 44 (Al Tryz.prog (ZdE n) []) (Ae (ZdF n)) (Ao Tryz.f199) (Av Dx x)).runK (Ar Tryz.prog Tryz.f199.results.toList 1 GF)=Ls n x:=by kernel_rfl
theorem Ix (n:Nat):Au Tryz.prog 199 (ZbX n):=As Tryz.func199 rfl rfl (by decide) rfl Aa Ab (Ac Aa Ab (Ry n) Ai) (Ad (fn:=Tryz.f199) (L:=ZdF n) (ks:=[]) trivial (by kernel_rfl) (by kernel_rfl)) (Sw n)
def BC:List (Nat×C):=[(0,.l 3),(1,.f 174 [] [.p [.f 120 [] [.u 32]]]),(7,.s 3),(8,.s 3)]
def Fq:List Wo:=[⟨.exit 0,[.p [.f 120 [] [.u 32]],.q 1],[],[]⟩,⟨.ret,[.p [.f 120 [] [.u 32]],.q 1],[(4,.s 3)],[]⟩]
def Eb:List (Nat×C):=[(0,.g 32),(1,.l 3)]
def H1:List Wo:=[⟨.ret,[],[],[.s 4]⟩]
def Bg:Nat→(List Int)→Ax→Int→Int→Option ((((Unit×(Ax×Unit))×Unit)×Unit×Unit) ⊕ ((((Unit×(Ax×Unit))×Unit)×Unit×Int×Unit)))
 | 0,_,_,_,_=>none
 | n+1,s,f,x7,x8 =>
  bif decide (x8<x7) then((A3 s x8).bind fun v0 =>
  bif decide (-1≤v0) then(bif !decide (v0≤IntKind.i64.wrap ((↑f.drivers.length:Int)-1)) then(some (.inr ((((),(f,())),()),((),(x8,()))))) else
  Bg n s f x7 (IntKind.i64.wrap (x8+1))) else
  some (.inr ((((),(f,())),()),((),(x8,()))))) else
  some (.inl ((((),(f,())),()),((),())))
def Cy (n:Nat) (y:C.Ds Ty (Af BC)):Option (YT Ty Fq):=Bg n y.1 y.2.1.2.1.1.2.1 y.2.2.1 y.2.2.2.1
def ZbL (n:Nat):St Ty→Tr (Lf Ty):=Bc BC 2 Fq (Cy n)
def FH (n:Nat) (w:Ax) (l:List Int):Option ((Bool×Unit)) :=
 bif decide ((↑l.length:Int)=(↑w.duties.length:Int)) then((Bg n l w (↑l.length:Int) 0).bind fun v0 =>
 Sum.elim (fun v1=>some (!decide (-1≥0),())) (fun v1=>some (!decide (v1.snd.snd.fst≥0),())) (v0)) else
 some (false,())
def My (n:Nat) (y:C.Ds Ty (Af Eb)):Option (YT Ty H1):=FH n y.1 y.2.1
def Zds (n:Nat):AA Ty:=El (AB Eb 0 H1 (My n))
def Zcp (n:Nat):List (Nat×AA Ty):=[]
theorem KA (n:Nat):Ap Tryz.prog (Zcp n):=trivial
def ZcW (n:Nat):A0 Ty:=[]
theorem Qo (n:Nat) (x:C.Ds Ty (Af BC)):(Ay Tryz.prog 19 (Al Tryz.prog (Zcp n) []) (Ae (ZcW n)) (Am 2 Tryz.f236) (Av BC x)).runK (A4 2 BC Fq (Cy n))=Cy (n+1) x:=by kernel_rfl
theorem Qp (n:Nat):A5 true Tryz.prog 19 (ZbL n) (.loop (Am 2 Tryz.f236)):=A6 fun x y hy=>At (Fn:=Cy) Aa Ab (fun n=>Ac Aa Ab (KA n) Ai) (fun h=>by cases h) (fun h=>by cases h) (fun n=>(Ad (fn:=Tryz.f236) (L:=ZcW n) (ks:=[]) trivial (by kernel_rfl) (by kernel_rfl))) (by decide) (fun _=>rfl) Qo hy
def ZdG (n:Nat):UF Ty:=[(236,[(.loop 2,ZbL n)])]
theorem Rz (n:Nat):NY Tryz.prog (ZdG n):=⟨HA (f:=236) Tryz.func236 rfl (Ad (fn:=Tryz.f236) (L:=[(.loop 2,ZbL n)]) (ks:=[.loop 2]) ⟨Qp n,trivial⟩ (by kernel_rfl) (by kernel_rfl)),trivial⟩
def Zek (n:Nat):A0 Ty:=[]
theorem TJ (n:Nat) (x:C.Ds Ty (Af Eb)):(Ay Tryz.prog 16 (Al Tryz.prog (Zcp n) (ZdG n)) (Ae (Zek n)) (Ao Tryz.f72) (Av Eb x)).runK (Ar Tryz.prog Tryz.f72.results.toList 0 H1)=My n x:=by kernel_rfl
theorem Qq (n:Nat):Au Tryz.prog 72 (Zds n):=AX (As Tryz.func72 rfl rfl (by decide) rfl Aa Ab (Ac Aa Ab (KA n) (Rz n)) (Ad (fn:=Tryz.f72) (L:=Zek n) (ks:=[]) trivial (by kernel_rfl) (by kernel_rfl)) (TJ n))
def Ca:List (Nat×C):=[(2,.o 3),(6,.l 184),(7,.s 3),(8,.s 3)]
def GG:List Wo:=[⟨.exit 0,[],[(2,.o 3)],[]⟩]
def FI:List (Nat×C):=[(0,.g 32)]
def Jz:List Wo:=[⟨.ret,[],[],[.l 3]⟩]
def CC:Nat→(List Int)→(List AO)→Int→Int→Option ((List Int×Unit))
 | 0,_,_,_,_=>none
 | n+1,out,x6,x7,x8 =>
  bif decide (x8<x7) then((A3 x6 x8).bind fun v0 =>
  (app out [v0.off.hi]).bind fun v1 =>
  CC n v1 x6 x7 (IntKind.i64.wrap (x8+1))) else
  some (out,())
def Dy (n:Nat) (y:C.Ds Ty (Af Ca)):Option (YT Ty GG):=CC n y.1 y.2.1 y.2.2.1 y.2.2.2.1
def ZcX (n:Nat):St Ty→Tr (Lf Ty):=Bc Ca 0 GG (Dy n)
def HK (n:Nat) (w:Ax):Option ((List Int×Unit)) :=
 (CC n [] w.duties (↑w.duties.length:Int) 0).bind fun v0 =>
 some (v0.fst,())
def Og (n:Nat) (y:C.Ds Ty (Af FI)):Option (YT Ty Jz):=HK n y.1
def Zel (n:Nat):AA Ty:=AB FI 0 Jz (Og n)
def ZcB (n:Nat):List (Nat×AA Ty):=[]
theorem Mz (n:Nat):Ap Tryz.prog (ZcB n):=trivial
def ZdH (n:Nat):A0 Ty:=[]
theorem Sx (n:Nat) (x:C.Ds Ty (Af Ca)):(Ay Tryz.prog 20 (Al Tryz.prog (ZcB n) []) (Ae (ZdH n)) (Am 2 Tryz.f122) (Av Ca x)).runK (A4 0 Ca GG (Dy n))=Dy (n+1) x:=by kernel_rfl
theorem Sy (n:Nat):A5 true Tryz.prog 20 (ZcX n) (.loop (Am 2 Tryz.f122)):=A6 fun x y hy=>At (Fn:=Dy) Aa Ab (fun n=>Ac Aa Ab (Mz n) Ai) (fun h=>by cases h) (fun h=>by cases h) (fun n=>(Ad (fn:=Tryz.f122) (L:=ZdH n) (ks:=[]) trivial (by kernel_rfl) (by kernel_rfl))) (by decide) (fun _=>rfl) Sx hy
def Zfo (n:Nat):A0 Ty:=[(.loop 2,ZcX n)]
theorem Wa (n:Nat) (x:C.Ds Ty (Af FI)):(Ay Tryz.prog 20 (Al Tryz.prog (ZcB n) []) (Ae (Zfo n)) (Ao Tryz.f122) (Av FI x)).runK (Ar Tryz.prog Tryz.f122.results.toList 0 Jz)=Og n x:=by kernel_rfl
theorem Sz (n:Nat):Au Tryz.prog 122 (Zel n):=As Tryz.func122 rfl rfl (by decide) rfl Aa Ab (Ac Aa Ab (Mz n) Ai) (Ad (fn:=Tryz.f122) (L:=Zfo n) (ks:=[.loop 2]) ⟨Sy n,trivial⟩ (by kernel_rfl) (by kernel_rfl)) (Wa n)
def BD:List (Nat×C):=[(2,.a 267),(6,.l 186),(7,.s 3),(8,.s 3)]
def Fs:List Wo:=[⟨.exit 0,[.a 267],[(2,.q 0)],[]⟩]
def Ec:List (Nat×C):=[(0,.g 32)]
def H3:List Wo:=[⟨.ret,[],[],[.v 267]⟩]
def Cb:Nat→(List Az)→(List AT)→Int→Int→Option ((List Az×Unit×Unit))
 | 0,_,_,_,_=>none
 | n+1,out,x6,x7,x8 =>
  bif decide (x8<x7) then((A3 x6 x8).bind fun v0 =>
  bif out.length.beq 6 then((A3 out x8).bind fun v1 =>
  (out.get?Internal x8.toNat).bind fun v2 =>
  Cb n (out.set x8.toNat (Az.mk v0.off v0.row v0.used (-1))) x6 x7 (IntKind.i64.wrap (x8+1))) else
  none) else
  some (out,((),()))
def Cz (n:Nat) (y:C.Ds Ty (Af BD)):Option (YT Ty Fs):=Cb n y.1 y.2.1 y.2.2.1 y.2.2.2.1
def Zc7 (n:Nat):St Ty→Tr (Lf Ty):=Bc BD 1 Fs (Cz n)
def FJ (n:Nat) (w:Ax):Option ((List Az×Unit)) :=
 (Cb n [Az.mk 0 0 0 0,Az.mk 0 0 0 0,Az.mk 0 0 0 0,Az.mk 0 0 0 0,Az.mk 0 0 0 0,Az.mk 0 0 0 0] w.drivers (↑w.drivers.length:Int) 0).bind fun v0 =>
 bif v0.fst.length.beq 6 then(bif v0.fst.length.beq 6 && v0.fst.length.beq 6 then(bif v0.fst.length.beq 6 then(some (v0.fst,())) else
 none) else
 none) else
 none
def M3 (n:Nat) (y:C.Ds Ty (Af Ec)):Option (YT Ty H3):=FJ n y.1
def Zdt (n:Nat):AA Ty:=AB Ec 0 H3 (M3 n)
def Zcq (n:Nat):List (Nat×AA Ty):=[]
theorem KB (n:Nat):Ap Tryz.prog (Zcq n):=trivial
def ZcY (n:Nat):A0 Ty:=[]
theorem Qr (n:Nat) (x:C.Ds Ty (Af BD)):(Ay Tryz.prog 24 (Al Tryz.prog (Zcq n) []) (Ae (ZcY n)) (Am 2 Tryz.f175) (Av BD x)).runK (A4 1 BD Fs (Cz n))=Cz (n+1) x:=by kernel_rfl
theorem Qs (n:Nat):A5 true Tryz.prog 24 (Zc7 n) (.loop (Am 2 Tryz.f175)):=A6 fun x y hy=>At (Fn:=Cz) Aa Ab (fun n=>Ac Aa Ab (KB n) Ai) (fun h=>by cases h) (fun h=>by cases h) (fun n=>(Ad (fn:=Tryz.f175) (L:=ZcY n) (ks:=[]) trivial (by kernel_rfl) (by kernel_rfl))) (by decide) (fun _=>rfl) Qr hy
def Zem (n:Nat):A0 Ty:=[(.loop 2,Zc7 n)]
theorem TK (n:Nat) (x:C.Ds Ty (Af Ec)):(Ay Tryz.prog 24 (Al Tryz.prog (Zcq n) []) (Ae (Zem n)) (Ao Tryz.f175) (Av Ec x)).runK (Ar Tryz.prog Tryz.f175.results.toList 0 H3)=M3 n x:=by kernel_rfl
theorem Qt (n:Nat):Au Tryz.prog 175 (Zdt n):=As Tryz.func175 rfl rfl (by decide) rfl Aa Ab (Ac Aa Ab (KB n) Ai) (Ad (fn:=Tryz.f175) (L:=Zem n) (ks:=[.loop 2]) ⟨Qs n,trivial⟩ (by kernel_rfl) (by kernel_rfl)) (TK n)
def BO:List (Nat×C):=[(0,.l 3),(1,.s 3),(7,.s 3),(8,.s 3)]
def Gd:List Wo:=[⟨.exit 0,[],[],[]⟩,⟨.ret,[],[(4,.s 3)],[]⟩]
def EC:List (Nat×C):=[(0,.g 32),(1,.s 3),(2,.g 184),(3,.g 267)]
def Iy:List Wo:=[⟨.ret,[],[],[.s 4]⟩]
def H4:Nat→(List Int)→Int→Int→Int→Option (Unit ⊕ ((Int×Unit)))
 | 0,_,_,_,_=>none
 | n+1,s,v,x7,x8 =>
  bif decide (x8<x7) then((A3 s x8).bind fun v0 =>
  bif decide (v=v0) then(some (.inr (x8,()))) else
  H4 n s v x7 (IntKind.i64.wrap (x8+1))) else
  some (.inl ())
def CN (n:Nat) (y:C.Ds Ty (Af BO)):Option (YT Ty Gd):=H4 n y.1 y.2.1 y.2.2.1 y.2.2.2.1
def ZbQ (n:Nat):St Ty→Tr (Lf Ty):=Bc BO 0 Gd (CN n)
def DJ (n:Nat) (w:Ax) (driver:Int) (d:AO) (_:Az):Option ((Bool×Unit)) :=
 (A3 w.drivers driver).bind fun v0 =>
 (H4 n v0.knows d.route (↑v0.knows.length:Int) 0).bind fun v1 =>
 Sum.elim (fun v2=>some (decide (-1≥0),())) (fun v2=>some (decide (v2.fst≥0),())) (v1)
def N2 (n:Nat) (y:C.Ds Ty (Af EC)):Option (YT Ty Iy):=DJ n y.1 y.2.1 y.2.2.1 y.2.2.2.1
def ZdI (n:Nat):AA Ty:=AB EC 0 Iy (N2 n)
def Zc2 (n:Nat):List (Nat×AA Ty):=[]
theorem Lt (n:Nat):Ap Tryz.prog (Zc2 n):=trivial
def Zdu (n:Nat):A0 Ty:=[]
theorem R0 (n:Nat) (x:C.Ds Ty (Af BO)):(Ay Tryz.prog 19 (Al Tryz.prog (Zc2 n) []) (Ae (Zdu n)) (Am 2 Tryz.f332) (Av BO x)).runK (A4 0 BO Gd (CN n))=CN (n+1) x:=by kernel_rfl
theorem R1 (n:Nat):A5 true Tryz.prog 19 (ZbQ n) (.loop (Am 2 Tryz.f332)):=A6 fun x y hy=>At (Fn:=CN) Aa Ab (fun n=>Ac Aa Ab (Lt n) Ai) (fun h=>by cases h) (fun h=>by cases h) (fun n=>(Ad (fn:=Tryz.f332) (L:=Zdu n) (ks:=[]) trivial (by kernel_rfl) (by kernel_rfl))) (by decide) (fun _=>rfl) R0 hy
def Zen (n:Nat):UF Ty:=[(332,[(.loop 2,ZbQ n)])]
theorem S0 (n:Nat):NY Tryz.prog (Zen n):=⟨HA (f:=332) Tryz.func332 rfl (Ad (fn:=Tryz.f332) (L:=[(.loop 2,ZbQ n)]) (ks:=[.loop 2]) ⟨R1 n,trivial⟩ (by kernel_rfl) (by kernel_rfl)),trivial⟩
def ZeG (n:Nat):A0 Ty:=[]
theorem US (n:Nat) (x:C.Ds Ty (Af EC)):(Ay Tryz.prog 18 (Al Tryz.prog (Zc2 n) (Zen n)) (Ae (ZeG n)) (Ao Tryz.f238) (Av EC x)).runK (Ar Tryz.prog Tryz.f238.results.toList 0 Iy)=N2 n x:=by kernel_rfl
theorem R2 (n:Nat):Au Tryz.prog 238 (ZdI n):=As Tryz.func238 rfl rfl (by decide) rfl Aa Ab (Ac Aa Ab (Lt n) (S0 n)) (Ad (fn:=Tryz.f238) (L:=ZeG n) (ks:=[]) trivial (by kernel_rfl) (by kernel_rfl)) (US n)
def Cc:List (Nat×C):=[(0,.l 3),(1,.s 3),(7,.s 3),(8,.s 3)]
def GH:List Wo:=[⟨.exit 0,[],[],[]⟩,⟨.ret,[],[(4,.s 3)],[]⟩]
def FK:List (Nat×C):=[(0,.g 32),(1,.s 3),(2,.g 184),(3,.g 267)]
def J0:List Wo:=[⟨.ret,[],[],[.s 4]⟩]
def Iz:Nat→(List Int)→Int→Int→Int→Option (Unit ⊕ ((Int×Unit)))
 | 0,_,_,_,_=>none
 | n+1,s,v,x7,x8 =>
  bif decide (x8<x7) then((A3 s x8).bind fun v0 =>
  bif decide (v=v0) then(some (.inr (x8,()))) else
  Iz n s v x7 (IntKind.i64.wrap (x8+1))) else
  some (.inl ())
def Dz (n:Nat) (y:C.Ds Ty (Af Cc)):Option (YT Ty GH):=Iz n y.1 y.2.1 y.2.2.1 y.2.2.2.1
def ZbY (n:Nat):St Ty→Tr (Lf Ty):=Bc Cc 0 GH (Dz n)
def ED (n:Nat) (w:Ax) (driver:Int) (d:AO) (_:Az):Option ((Bool×Unit)) :=
 (A3 w.drivers driver).bind fun v0 =>
 (Iz n v0.leave d.day (↑v0.leave.length:Int) 0).bind fun v1 =>
 Sum.elim (fun v2=>some (!decide (-1≥0),())) (fun v2=>some (!decide (v2.fst≥0),())) (v1)
def Oh (n:Nat) (y:C.Ds Ty (Af FK)):Option (YT Ty J0):=ED n y.1 y.2.1 y.2.2.1 y.2.2.2.1
def Zeo (n:Nat):AA Ty:=AB FK 0 J0 (Oh n)
def ZcC (n:Nat):List (Nat×AA Ty):=[]
theorem M4 (n:Nat):Ap Tryz.prog (ZcC n):=trivial
def ZdJ (n:Nat):A0 Ty:=[]
theorem S1 (n:Nat) (x:C.Ds Ty (Af Cc)):(Ay Tryz.prog 19 (Al Tryz.prog (ZcC n) []) (Ae (ZdJ n)) (Am 2 Tryz.f332) (Av Cc x)).runK (A4 0 Cc GH (Dz n))=Dz (n+1) x:=by kernel_rfl
theorem S2 (n:Nat):A5 true Tryz.prog 19 (ZbY n) (.loop (Am 2 Tryz.f332)):=A6 fun x y hy=>At (Fn:=Dz) Aa Ab (fun n=>Ac Aa Ab (M4 n) Ai) (fun h=>by cases h) (fun h=>by cases h) (fun n=>(Ad (fn:=Tryz.f332) (L:=ZdJ n) (ks:=[]) trivial (by kernel_rfl) (by kernel_rfl))) (by decide) (fun _=>rfl) S1 hy
def ZeH (n:Nat):UF Ty:=[(332,[(.loop 2,ZbY n)])]
theorem TL (n:Nat):NY Tryz.prog (ZeH n):=⟨HA (f:=332) Tryz.func332 rfl (Ad (fn:=Tryz.f332) (L:=[(.loop 2,ZbY n)]) (ks:=[.loop 2]) ⟨S2 n,trivial⟩ (by kernel_rfl) (by kernel_rfl)),trivial⟩
def Zfp (n:Nat):A0 Ty:=[]
theorem Wb (n:Nat) (x:C.Ds Ty (Af FK)):(Ay Tryz.prog 19 (Al Tryz.prog (ZcC n) (ZeH n)) (Ae (Zfp n)) (Ao Tryz.f239) (Av FK x)).runK (Ar Tryz.prog Tryz.f239.results.toList 0 J0)=Oh n x:=by kernel_rfl
theorem S3 (n:Nat):Au Tryz.prog 239 (Zeo n):=As Tryz.func239 rfl rfl (by decide) rfl Aa Ab (Ac Aa Ab (M4 n) (TL n)) (Ad (fn:=Tryz.f239) (L:=Zfp n) (ks:=[]) trivial (by kernel_rfl) (by kernel_rfl)) (Wb n)
def Ed:List (Nat×C):=[(0,.g 32),(1,.s 3),(2,.g 184),(3,.g 267)]
def H5:List Wo:=[⟨.ret,[],[],[.s 4]⟩]
def FL (n:Nat) (w:Ax) (_:Int) (d:AO) (s:Az):Option ((Bool×Unit)) :=
 some (s.day != d.day,())
def M5 (n:Nat) (y:C.Ds Ty (Af Ed)):Option (YT Ty H5):=FL n y.1 y.2.1 y.2.2.1 y.2.2.2.1
def Zdv (n:Nat):AA Ty:=AB Ed 0 H5 (M5 n)
def Zep (n:Nat):List (Nat×AA Ty):=[]
theorem S4 (n:Nat):Ap Tryz.prog (Zep n):=trivial
def Zeq (n:Nat):A0 Ty:=[]
theorem TN (n:Nat) (x:C.Ds Ty (Af Ed)):(Ay Tryz.prog 14 (Al Tryz.prog (Zep n) []) (Ae (Zeq n)) (Ao Tryz.f240) (Av Ed x)).runK (Ar Tryz.prog Tryz.f240.results.toList 0 H5)=M5 n x:=by kernel_rfl
theorem Qu (n:Nat):Au Tryz.prog 240 (Zdv n):=As Tryz.func240 rfl rfl (by decide) rfl Aa Ab (Ac Aa Ab (S4 n) Ai) (Ad (fn:=Tryz.f240) (L:=Zeq n) (ks:=[]) trivial (by kernel_rfl) (by kernel_rfl)) (TN n)
def Ee:List (Nat×C):=[(0,.g 32),(1,.s 3),(2,.g 184),(3,.g 267)]
def H6:List Wo:=[⟨.ret,[],[],[.s 4]⟩]
def Dc (n:Nat) (w:Ax) (_:Int) (d:AO) (s:Az):Option ((Bool×Unit)) :=
 bif !decide (s.day=d.day) then(some (decide (IntKind.i64.wrap (IntKind.i64.wrap (IntKind.i64.wrap (d.day*1440)+d.on)-s.free)≥w.rest),())) else
 some (true,())
def M6 (n:Nat) (y:C.Ds Ty (Af Ee)):Option (YT Ty H6):=Dc n y.1 y.2.1 y.2.2.1 y.2.2.2.1
def Zdw (n:Nat):AA Ty:=AB Ee 0 H6 (M6 n)
def Zer (n:Nat):List (Nat×AA Ty):=[]
theorem S5 (n:Nat):Ap Tryz.prog (Zer n):=trivial
def Zes (n:Nat):A0 Ty:=[]
theorem TO (n:Nat) (x:C.Ds Ty (Af Ee)):(Ay Tryz.prog 28 (Al Tryz.prog (Zer n) []) (Ae (Zes n)) (Ao Tryz.f241) (Av Ee x)).runK (Ar Tryz.prog Tryz.f241.results.toList 0 H6)=M6 n x:=by kernel_rfl
theorem Qv (n:Nat):Au Tryz.prog 241 (Zdw n):=As Tryz.func241 rfl rfl (by decide) rfl Aa Ab (Ac Aa Ab (S5 n) Ai) (Ad (fn:=Tryz.f241) (L:=Zes n) (ks:=[]) trivial (by kernel_rfl) (by kernel_rfl)) (TO n)
def EE:List (Nat×C):=[(0,.g 267),(1,.g 184),(2,.s 3)]
def I0:List Wo:=[⟨.ret,[],[],[.g 267]⟩]
def DK (n:Nat) (s:Az) (d:AO) (end_:Int):Option ((Az×Unit)) :=
 bif decide (s.day=d.day) then(some (Az.mk s.free s.row (IntKind.i64.wrap (s.used+IntKind.i64.wrap (end_-d.on))) s.day,())) else
 bif s.day != IntKind.i64.wrap (d.day-1) then(some (Az.mk (IntKind.i64.wrap (IntKind.i64.wrap (d.day*1440)+end_)) (IntKind.i64.wrap (0+1)) (IntKind.i64.wrap (s.used+IntKind.i64.wrap (end_-d.on))) d.day,())) else
 some (Az.mk (IntKind.i64.wrap (IntKind.i64.wrap (d.day*1440)+end_)) (IntKind.i64.wrap (s.row+1)) (IntKind.i64.wrap (s.used+IntKind.i64.wrap (end_-d.on))) d.day,())
def N3 (n:Nat) (y:C.Ds Ty (Af EE)):Option (YT Ty I0):=DK n y.1 y.2.1 y.2.2.1
def Zci (n:Nat):AA Ty:=AB EE 0 I0 (N3 n)
def ZeI (n:Nat):List (Nat×AA Ty):=[]
theorem TP (n:Nat):Ap Tryz.prog (ZeI n):=trivial
def ZeJ (n:Nat):A0 Ty:=[]
theorem UT (n:Nat) (x:C.Ds Ty (Af EE)):(Ay Tryz.prog 42 (Al Tryz.prog (ZeI n) []) (Ae (ZeJ n)) (Ao Tryz.f178) (Av EE x)).runK (Ar Tryz.prog Tryz.f178.results.toList 0 I0)=N3 n x:=by kernel_rfl
theorem JK (n:Nat):Au Tryz.prog 178 (Zci n):=As Tryz.func178 rfl rfl (by decide) rfl Aa Ab (Ac Aa Ab (TP n) Ai) (Ad (fn:=Tryz.f178) (L:=ZeJ n) (ks:=[]) trivial (by kernel_rfl) (by kernel_rfl)) (UT n)
def EF:List (Nat×C):=[(0,.g 32),(1,.s 3),(2,.g 184),(3,.g 267)]
def I1:List Wo:=[⟨.ret,[],[],[.s 4]⟩]
def DL (n:Nat) (w:Ax) (_:Int) (d:AO) (s:Az):Option ((Bool×Unit)) :=
 bif !decide (s.day=d.day) then((DK n s d d.on).bind fun v0 =>
 some (decide (v0.fst.row≤w.run),())) else
 some (true,())
def N4 (n:Nat) (y:C.Ds Ty (Af EF)):Option (YT Ty I1):=DL n y.1 y.2.1 y.2.2.1 y.2.2.2.1
def ZdK (n:Nat):AA Ty:=AB EF 0 I1 (N4 n)
def ZeK (n:Nat):List (Nat×AA Ty):=[(178,Zci n)]
theorem TQ (n:Nat):Ap Tryz.prog (ZeK n):=⟨JK n,trivial⟩
def ZeL (n:Nat):A0 Ty:=[]
theorem UU (n:Nat) (x:C.Ds Ty (Af EF)):(Ay Tryz.prog 25 (Al Tryz.prog (ZeK n) []) (Ae (ZeL n)) (Ao Tryz.f242) (Av EF x)).runK (Ar Tryz.prog Tryz.f242.results.toList 0 I1)=N4 n x:=by kernel_rfl
theorem R3 (n:Nat):Au Tryz.prog 242 (ZdK n):=As Tryz.func242 rfl rfl (by decide) rfl Aa Ab (Ac Aa Ab (TQ n) Ai) (Ad (fn:=Tryz.f242) (L:=ZeL n) (ks:=[]) trivial (by kernel_rfl) (by kernel_rfl)) (UU n)
def BE:List (Nat×C):=[(3,.u 32),(5,.p [.l 3]),(6,.p [.o 280]),(7,.a 267),(9,.s 3),(10,.u 184),(11,.s 3),(33,.o 278),(34,.s 3),(35,.s 3)]
def Ft:List Wo:=[⟨.exit 4,[.u 32,.p [.l 3],.p [.o 280],.a 267,.u 184],[(5,.q 1),(7,.q 3),(9,.s 3),(10,.q 4),(11,.s 3)],[]⟩]
def BF:List (Nat×C):=[(0,.y 0 121 [3,4,5,6,7] [.u 32,.p [.l 3],.p [.l 3],.p [.o 280],.a 267]),(2,.p [.s 3]),(7,.l 184),(8,.s 3),(9,.s 3)]
def Fu:List Wo:=[⟨.exit 0,[.y 0 121 [3,4,5,6,7] [.u 32,.p [.l 3],.p [.l 3],.p [.o 280],.a 267],.q 1,.q 2,.q 3,.q 4,.q 5,.p [.s 3]],[],[]⟩,⟨.ret,[.y 0 121 [3,4,5,6,7] [.u 32,.p [.l 3],.p [.l 3],.p [.o 280],.a 267],.q 1,.q 2,.q 3,.q 4,.q 5,.p [.s 3]],[],[]⟩]
def BG:List (Nat×C):=[(3,.u 32),(4,.p [.l 3]),(5,.p [.l 3]),(6,.p [.o 280]),(7,.a 267),(18,.s 3),(19,.s 3)]
def Fv:List Wo:=[⟨.exit 0,[.u 32,.p [.l 3],.p [.l 3],.p [.o 280],.a 267],[(3,.q 0),(6,.q 3),(7,.q 4)],[]⟩]
def BH:List (Nat×C):=[(3,.u 32),(6,.p [.o 280]),(7,.a 267),(72,.s 3),(73,.s 3)]
def Fw:List Wo:=[⟨.exit 6,[.u 32,.p [.o 280],.a 267],[(6,.q 1)],[]⟩]
def Ef:List (Nat×C):=[(0,.g 32),(1,.l 3),(2,.l 3)]
def H7:List Wo:=[⟨.ret,[],[],[.o 280]⟩]
def Ah:Nat→Ax→(List Int)→(List Aw)→(List Az)→Int→AO→Int→(List AY)→Int→Int→Option ((Ax×(List Int×Unit)×(List Aw×Unit)×List Az×AO×Unit×Unit×Int×Unit×Int×Unit))
 | 0,_,_,_,_,_,_,_,_,_,_=>none
 | n+1,w,truth,out,now,i,d,k,x33,x34,x35 =>
  bif decide (x35<x34) then((A3 x33 x35).bind fun v0 =>
  (x33.get?Internal x35.toNat).bind fun v1 =>
  bif now.length.beq 6 then((A3 now k).bind fun v2 =>
  (now.get?Internal k.toNat).bind fun v3 =>
  bif decide (v1.holds.f=(↑238:Int)) then((DJ n w k d v3).bind fun v4 =>
  bif !v4.fst then((app out [Aw.mk v1.kind k i]).bind fun v5 =>
  Ah n w truth v5 now i d k x33 x34 (IntKind.i64.wrap (x35+1))) else
  Ah n w truth out now i d k x33 x34 (IntKind.i64.wrap (x35+1))) else
  bif decide (v1.holds.f=(↑239:Int)) then((ED n w k d v3).bind fun v4 =>
  bif !v4.fst then((app out [Aw.mk v1.kind k i]).bind fun v5 =>
  Ah n w truth v5 now i d k x33 x34 (IntKind.i64.wrap (x35+1))) else
  Ah n w truth out now i d k x33 x34 (IntKind.i64.wrap (x35+1))) else
  bif decide (v1.holds.f=(↑240:Int)) then((FL n w k d v3).bind fun v4 =>
  bif !v4.fst then((app out [Aw.mk v1.kind k i]).bind fun v5 =>
  Ah n w truth v5 now i d k x33 x34 (IntKind.i64.wrap (x35+1))) else
  Ah n w truth out now i d k x33 x34 (IntKind.i64.wrap (x35+1))) else
  bif decide (v1.holds.f=(↑241:Int)) then((Dc n w k d v3).bind fun v4 =>
  bif !v4.fst then((app out [Aw.mk v1.kind k i]).bind fun v5 =>
  Ah n w truth v5 now i d k x33 x34 (IntKind.i64.wrap (x35+1))) else
  Ah n w truth out now i d k x33 x34 (IntKind.i64.wrap (x35+1))) else
  bif decide (v1.holds.f=(↑242:Int)) then((DL n w k d v3).bind fun v4 =>
  bif !v4.fst then((app out [Aw.mk v1.kind k i]).bind fun v5 =>
  Ah n w truth v5 now i d k x33 x34 (IntKind.i64.wrap (x35+1))) else
  Ah n w truth out now i d k x33 x34 (IntKind.i64.wrap (x35+1))) else
  none) else
  none) else
  some (w,((truth,()),((out,()),(now,(d,((),((),(i,((),(k,()))))))))))
def C0 (n:Nat) (y:C.Ds Ty (Af BE)):Option (YT Ty Ft):=Ah n y.1 y.2.1.1 y.2.2.1.1 y.2.2.2.1 y.2.2.2.2.1 y.2.2.2.2.2.1 y.2.2.2.2.2.2.1 y.2.2.2.2.2.2.2.1 y.2.2.2.2.2.2.2.2.1 y.2.2.2.2.2.2.2.2.2.1
def Zc8 (n:Nat):St Ty→Tr (Lf Ty):=Bc BE 5 Ft (C0 n)
def Bh:Nat→Ax→(List Int)→(List Int)→(List Aw)→(List Az)→Int→(List AO)→Int→Int→Option (((Ax×(List Int×Unit)×(List Int×Unit)×(List Aw×Unit)×List Az×Unit)×Unit×Unit×Unit×Unit×Unit×(Int×Unit)×Unit) ⊕ (((Ax×(List Int×Unit)×(List Int×Unit)×(List Aw×Unit)×List Az×Unit)×Unit×Unit×Unit×Unit×Unit×(Int×Unit)×Unit)))
 | 0,_,_,_,_,_,_,_,_,_=>none
 | n+1,yield1,yield2,yield3,yield4,yield5,x2,x7,x8,x9 =>
  bif decide (x9<x8) then((A3 x7 x9).bind fun v0 =>
  bif decide (v0.day=x2) then((A3 yield2 x9).bind fun v1 =>
  bif decide (v1=-1) then(Bh n yield1 yield2 yield3 yield4 yield5 x2 x7 x8 (IntKind.i64.wrap (x9+1))) else
  (Ah n yield1 yield3 yield4 yield5 x9 v0 v1 [AY.mk (IK.mk 0) (Fp.mk (↑238:Int)),AY.mk (IK.mk 1) (Fp.mk (↑239:Int)),AY.mk (IK.mk 2) (Fp.mk (↑240:Int)),AY.mk (IK.mk 3) (Fp.mk (↑241:Int)),AY.mk (IK.mk 4) (Fp.mk (↑242:Int))] (↑[AY.mk (IK.mk 0) (Fp.mk (↑238:Int)),AY.mk (IK.mk 1) (Fp.mk (↑239:Int)),AY.mk (IK.mk 2) (Fp.mk (↑240:Int)),AY.mk (IK.mk 3) (Fp.mk (↑241:Int)),AY.mk (IK.mk 4) (Fp.mk (↑242:Int))].length:Int) 0).bind fun v2 =>
  bif v2.snd.snd.snd.fst.length.beq 6 then((A3 v2.snd.snd.snd.fst v2.snd.snd.snd.snd.snd.snd.snd.snd.snd.fst).bind fun v3 =>
  (v2.snd.snd.snd.fst.get?Internal v2.snd.snd.snd.snd.snd.snd.snd.snd.snd.fst.toNat).bind fun v4 =>
  (A3 v2.snd.fst.fst v2.snd.snd.snd.snd.snd.snd.snd.fst).bind fun v5 =>
  (DK n v4 v2.snd.snd.snd.snd.fst v5).bind fun v6 =>
  bif v2.snd.snd.snd.fst.length.beq 6 then((A3 v2.snd.snd.snd.fst v2.snd.snd.snd.snd.snd.snd.snd.snd.snd.fst).bind fun v7 =>
  (v2.snd.snd.snd.fst.get?Internal v2.snd.snd.snd.snd.snd.snd.snd.snd.snd.fst.toNat).bind fun v8 =>
  Bh n v2.fst yield2 v2.snd.fst.fst v2.snd.snd.fst.fst (v2.snd.snd.snd.fst.set v2.snd.snd.snd.snd.snd.snd.snd.snd.snd.fst.toNat v6.fst) x2 x7 x8 (IntKind.i64.wrap (x9+1))) else
  none) else
  none) else
  Bh n yield1 yield2 yield3 yield4 yield5 x2 x7 x8 (IntKind.i64.wrap (x9+1))) else
  some (.inl ((yield1,((yield2,()),((yield3,()),((yield4,()),(yield5,()))))),((),((),((),((),((),((x2,()),()))))))))
def C1 (n:Nat) (y:C.Ds Ty (Af BF)):Option (YT Ty Fu):=Bh n y.1.1 y.1.2.1.1 y.1.2.2.1.1 y.1.2.2.2.1.1 y.1.2.2.2.2.1 y.2.1.1 y.2.2.1 y.2.2.2.1 y.2.2.2.2.1
def ZbM (n:Nat):St Ty→Tr (Lf Ty):=Bc BF 7 Fu (C1 n)
def Bi:Nat→Ax→(List Int)→(List Int)→(List Aw)→(List Az)→Int→Int→Option ((Ax×(List Int×Unit)×(List Int×Unit)×(List Aw×Unit)×List Az×Unit×Unit×Unit×Unit))
 | 0,_,_,_,_,_,_,_=>none
 | n+1,w,roster,truth,out,now,x18,x19 =>
  bif decide (x19<x18) then((Bh n w roster truth out now x19 w.duties (↑w.duties.length:Int) 0).bind fun v0 =>
  Sum.elim (fun v1=>Bi n v1.fst.fst v1.fst.snd.fst.fst v1.fst.snd.snd.fst.fst v1.fst.snd.snd.snd.fst.fst v1.fst.snd.snd.snd.snd.fst x18 (IntKind.i64.wrap (x19+1))) (fun v1=>Bi n v1.fst.fst v1.fst.snd.fst.fst v1.fst.snd.snd.fst.fst v1.fst.snd.snd.snd.fst.fst v1.fst.snd.snd.snd.snd.fst x18 (IntKind.i64.wrap (x19+1))) (v0)) else
  some (w,((roster,()),((truth,()),((out,()),(now,((),((),((),()))))))))
def C2 (n:Nat) (y:C.Ds Ty (Af BG)):Option (YT Ty Fv):=Bi n y.1 y.2.1.1 y.2.2.1.1 y.2.2.2.1.1 y.2.2.2.2.1 y.2.2.2.2.2.1 y.2.2.2.2.2.2.1
def Zc9 (n:Nat):St Ty→Tr (Lf Ty):=Bc BG 5 Fv (C2 n)
def Bj:Nat→Ax→(List Aw)→(List Az)→Int→Int→Option ((Ax×(List Aw×Unit)×List Az×Unit×Unit))
 | 0,_,_,_,_,_=>none
 | n+1,w,out,now,x72,x73 =>
  bif decide (x73<x72) then(bif now.length.beq 6 then((A3 now x73).bind fun v0 =>
  (now.get?Internal x73.toNat).bind fun v1 =>
  bif decide (v1.used>w.hours) then((app out [Aw.mk (IK.mk 5) x73 0]).bind fun v2 =>
  Bj n w v2 now x72 (IntKind.i64.wrap (x73+1))) else
  Bj n w out now x72 (IntKind.i64.wrap (x73+1))) else
  none) else
  some (w,((out,()),(now,((),()))))
def C3 (n:Nat) (y:C.Ds Ty (Af BH)):Option (YT Ty Fw):=Bj n y.1 y.2.1.1 y.2.2.1 y.2.2.2.1 y.2.2.2.2.1
def ZcA (n:Nat):St Ty→Tr (Lf Ty):=Bc BH 3 Fw (C3 n)
def FM (n:Nat) (w:Ax) (roster:List Int) (truth:List Int):Option ((List Aw×Unit)) :=
 (FJ n w).bind fun v0 =>
 bif [Az.mk 0 0 0 0,Az.mk 0 0 0 0,Az.mk 0 0 0 0,Az.mk 0 0 0 0,Az.mk 0 0 0 0,Az.mk 0 0 0 0].length.beq 6 && v0.fst.length.beq 6 then((Bi n w roster truth [] v0.fst w.days 0).bind fun v1 =>
 (Bj n v1.fst v1.snd.snd.snd.fst.fst v1.snd.snd.snd.snd.fst (↑v1.fst.drivers.length:Int) 0).bind fun v2 =>
 (Akl v2.snd.fst.fst).bind fun v3 =>
 some (v3,())) else
 none
def M7 (n:Nat) (y:C.Ds Ty (Af Ef)):Option (YT Ty H7):=FM n y.1 y.2.1 y.2.2.1
def Zdx (n:Nat):AA Ty:=AB Ef 0 H7 (M7 n)
def Zb6 (n:Nat):List (Nat×AA Ty):=[(175,Zdt n),(238,ZdI n),(239,Zeo n),(240,Zdv n),(241,Zdw n),(242,ZdK n),(178,Zci n),(179,Zkz n)]
theorem Bq (n:Nat):Ap Tryz.prog (Zb6 n):=⟨Qt n,⟨R2 n,⟨S3 n,⟨Qu n,⟨Qv n,⟨R3 n,⟨JK n,⟨AnD n,trivial⟩⟩⟩⟩⟩⟩⟩⟩
def ZcZ (n:Nat):A0 Ty:=[]
theorem Qw (n:Nat) (x:C.Ds Ty (Af BE)):(Ay Tryz.prog 92 (Awy (Al Tryz.prog (Zb6 n) [])) (Ae (ZcZ n)) (Am 11 Tryz.f121) (Av BE x)).runK (A4 5 BE Ft (C0 n))=C0 (n+1) x:=by kernel_rfl
theorem Qx (n:Nat):A5 false Tryz.prog 92 (Zc8 n) (.loop (Am 11 Tryz.f121)):=A6 fun x y hy=>At (Fn:=C0) Aa Ab (fun n=>AoO (Ac Aa Ab (Bq n) Ai)) (fun _ _=>Ahg) (fun _=>by kernel_rfl) (fun n=>(Ad (fn:=Tryz.f121) (L:=ZcZ n) (ks:=[]) trivial (by kernel_rfl) (by kernel_rfl))) (by decide) (fun _=>rfl) Qw hy
def Zet (n:Nat):A0 Ty:=[(.loop 11,Zc8 n)]
def Zcr (n:Nat):List (Nat×AA Ty):=(A8,Axl Tryz.prog (Al Tryz.prog (Zb6 n) []) (Ae []) (Ae (Zet n)) 121)::Zb6 n
theorem KC (n:Nat):Ap Tryz.prog (Zcr n):=⟨AoX Aa Ab (Ac Aa Ab (Bq n) Ai) (fun _ _ _ h=>by cases h) (Ad (fn:=Tryz.f121) (c:=(RFs.rf 121).body) (N:=(RFs.rf 121).n) (L:=Zet n) (ks:=[.loop 11]) ⟨Qx n,trivial⟩ (by kernel_rfl) (by kernel_rfl)),Bq n⟩
def Zda (n:Nat):A0 Ty:=[]
theorem Qy (n:Nat) (x:C.Ds Ty (Af BF)):(Ay Tryz.prog 26 (Al Tryz.prog (Zcr n) []) (Ae (Zda n)) (Am 1 Tryz.f237) (Av BF x)).runK (A4 7 BF Fu (C1 n))=C1 (n+1) x:=by kernel_rfl
theorem Qz (n:Nat):A5 true Tryz.prog 26 (ZbM n) (.loop (Am 1 Tryz.f237)):=A6 fun x y hy=>At (Fn:=C1) Aa Ab (fun n=>Ac Aa Ab (KC n) Ai) (fun h=>by cases h) (fun h=>by cases h) (fun n=>(Ad (fn:=Tryz.f237) (L:=Zda n) (ks:=[]) trivial (by kernel_rfl) (by kernel_rfl))) (by decide) (fun _=>rfl) Qy hy
def Zeu (n:Nat):UF Ty:=[(237,[(.loop 1,ZbM n)])]
theorem S6 (n:Nat):NY Tryz.prog (Zeu n):=⟨HA (f:=237) Tryz.func237 rfl (Ad (fn:=Tryz.f237) (L:=[(.loop 1,ZbM n)]) (ks:=[.loop 1]) ⟨Qz n,trivial⟩ (by kernel_rfl) (by kernel_rfl)),trivial⟩
def ZdL (n:Nat):St Ty→Tr (Lf Ty):=AwK Tryz.prog (Al Tryz.prog (Zcr n) (Zeu n)) (.tmp 24) 121 [3,4,5,6,7]
theorem R4 (n:Nat):A5 true Tryz.prog 92 (ZdL n) (NE (.rf 8) Tryz.f121):=Apb (Ac Aa Ab (KC n) (S6 n)) (by kernel_rfl) (by kernel_rfl)
def Zdb (n:Nat):A0 Ty:=[(.rf 8,ZdL n)]
theorem Q0 (n:Nat) (x:C.Ds Ty (Af BG)):(Ay Tryz.prog 92 (Al Tryz.prog (Zb6 n) []) (Ae (Zdb n)) (Am 3 Tryz.f121) (Av BG x)).runK (A4 5 BG Fv (C2 n))=C2 (n+1) x:=by kernel_rfl
theorem Q1 (n:Nat):A5 true Tryz.prog 92 (Zc9 n) (.loop (Am 3 Tryz.f121)):=A6 fun x y hy=>At (Fn:=C2) Aa Ab (fun n=>Ac Aa Ab (Bq n) Ai) (fun h=>by cases h) (fun h=>by cases h) (fun n=>(Ad (fn:=Tryz.f121) (L:=Zdb n) (ks:=[.rf 8]) ⟨R4 n,trivial⟩ (by kernel_rfl) (by kernel_rfl))) (by decide) (fun _=>rfl) Q0 hy
def Zdc (n:Nat):A0 Ty:=[]
theorem Q2 (n:Nat) (x:C.Ds Ty (Af BH)):(Ay Tryz.prog 92 (Al Tryz.prog (Zb6 n) []) (Ae (Zdc n)) (Am 19 Tryz.f121) (Av BH x)).runK (A4 3 BH Fw (C3 n))=C3 (n+1) x:=by kernel_rfl
theorem Q3 (n:Nat):A5 true Tryz.prog 92 (ZcA n) (.loop (Am 19 Tryz.f121)):=A6 fun x y hy=>At (Fn:=C3) Aa Ab (fun n=>Ac Aa Ab (Bq n) Ai) (fun h=>by cases h) (fun h=>by cases h) (fun n=>(Ad (fn:=Tryz.f121) (L:=Zdc n) (ks:=[]) trivial (by kernel_rfl) (by kernel_rfl))) (by decide) (fun _=>rfl) Q2 hy
def Zev (n:Nat):A0 Ty:=[(.loop 3,Zc9 n),(.loop 19,ZcA n)]
theorem TR (n:Nat) (x:C.Ds Ty (Af Ef)):(Ay Tryz.prog 92 (Al Tryz.prog (Zb6 n) []) (Ae (Zev n)) (Ao Tryz.f121) (Av Ef x)).runK (Ar Tryz.prog Tryz.f121.results.toList 0 H7)=M7 n x:=by kernel_rfl
theorem Q4 (n:Nat):Au Tryz.prog 121 (Zdx n):=As Tryz.func121 rfl rfl (by decide) rfl Aa Ab (Ac Aa Ab (Bq n) Ai) (Ad (fn:=Tryz.f121) (L:=Zev n) (ks:=[.loop 3,.loop 19]) ⟨Q1 n,⟨Q3 n,trivial⟩⟩ (by kernel_rfl) (by kernel_rfl)) (TR n)
def EG:List (Nat×C):=[(0,.g 32),(1,.l 3)]
def I2:List Wo:=[⟨.ret,[],[],[.s 4]⟩]
def GI (n:Nat) (w:Ax) (roster:List Int):Option ((Bool×Unit)) :=
 (HK n w).bind fun v0 =>
 (FM n w roster v0.fst).bind fun v1 =>
 some (decide ((↑v1.fst.length:Int)=0),())
def N5 (n:Nat) (y:C.Ds Ty (Af EG)):Option (YT Ty I2):=GI n y.1 y.2.1
def ZdM (n:Nat):AA Ty:=El (AB EG 0 I2 (N5 n))
def ZeM (n:Nat):List (Nat×AA Ty):=[(122,Zel n),(121,Zdx n)]
theorem TS (n:Nat):Ap Tryz.prog (ZeM n):=⟨Sz n,⟨Q4 n,trivial⟩⟩
def ZeN (n:Nat):A0 Ty:=[]
theorem UW (n:Nat) (x:C.Ds Ty (Af EG)):(Ay Tryz.prog 12 (Al Tryz.prog (ZeM n) []) (Ae (ZeN n)) (Ao Tryz.f73) (Av EG x)).runK (Ar Tryz.prog Tryz.f73.results.toList 0 I2)=N5 n x:=by kernel_rfl
theorem R5 (n:Nat):Au Tryz.prog 73 (ZdM n):=AX (As Tryz.func73 rfl rfl (by decide) rfl Aa Ab (Ac Aa Ab (TS n) Ai) (Ad (fn:=Tryz.f73) (L:=ZeN n) (ks:=[]) trivial (by kernel_rfl) (by kernel_rfl)) (UW n))
def Dd:List (Nat×C):=[(2,.s 3),(5,.l 3),(6,.s 3),(7,.s 3)]
def J1:List Wo:=[⟨.exit 0,[],[(2,.s 3)],[]⟩]
def IV:List (Nat×C):=[(0,.l 3)]
def MO:List Wo:=[⟨.ret,[],[],[.s 3]⟩]
def CO:Nat→Int→(List Int)→Int→Int→Option ((Int×Unit))
 | 0,_,_,_,_=>none
 | n+1,n_,x5,x6,x7 =>
  bif decide (x7<x6) then((A3 x5 x7).bind fun v0 =>
  bif v0 != -1 then(CO n (IntKind.i64.wrap (n_+1)) x5 x6 (IntKind.i64.wrap (x7+1))) else
  CO n n_ x5 x6 (IntKind.i64.wrap (x7+1))) else
  some (n_,())
def FN (n:Nat) (y:C.Ds Ty (Af Dd)):Option (YT Ty J1):=CO n y.1 y.2.1 y.2.2.1 y.2.2.2.1
def Zew (n:Nat):St Ty→Tr (Lf Ty):=Bc Dd 0 J1 (FN n)
def Lu (n:Nat) (roster:List Int):Option ((Int×Unit)) :=
 (CO n 0 roster (↑roster.length:Int) 0).bind fun v0 =>
 some (v0.fst,())
def S7 (n:Nat) (y:C.Ds Ty (Af IV)):Option (YT Ty MO):=Lu n y.1
def ZfW (n:Nat):AA Ty:=El (AB IV 0 MO (S7 n))
def ZdU (n:Nat):List (Nat×AA Ty):=[]
theorem P5 (n:Nat):Ap Tryz.prog (ZdU n):=trivial
def Zfq (n:Nat):A0 Ty:=[]
theorem Wc (n:Nat) (x:C.Ds Ty (Af Dd)):(Ay Tryz.prog 17 (Al Tryz.prog (ZdU n) []) (Ae (Zfq n)) (Am 2 Tryz.f74) (Av Dd x)).runK (A4 0 Dd J1 (FN n))=FN (n+1) x:=by kernel_rfl
theorem Wd (n:Nat):A5 true Tryz.prog 17 (Zew n) (.loop (Am 2 Tryz.f74)):=A6 fun x y hy=>At (Fn:=FN) Aa Ab (fun n=>Ac Aa Ab (P5 n) Ai) (fun h=>by cases h) (fun h=>by cases h) (fun n=>(Ad (fn:=Tryz.f74) (L:=Zfq n) (ks:=[]) trivial (by kernel_rfl) (by kernel_rfl))) (by decide) (fun _=>rfl) Wc hy
def Zhi (n:Nat):A0 Ty:=[(.loop 2,Zew n)]
theorem Abt (n:Nat) (x:C.Ds Ty (Af IV)):(Ay Tryz.prog 17 (Al Tryz.prog (ZdU n) []) (Ae (Zhi n)) (Ao Tryz.f74) (Av IV x)).runK (Ar Tryz.prog Tryz.f74.results.toList 0 MO)=S7 n x:=by kernel_rfl
theorem We (n:Nat):Au Tryz.prog 74 (ZfW n):=AX (As Tryz.func74 rfl rfl (by decide) rfl Aa Ab (Ac Aa Ab (P5 n) Ai) (Ad (fn:=Tryz.f74) (L:=Zhi n) (ks:=[.loop 2]) ⟨Wd n,trivial⟩ (by kernel_rfl) (by kernel_rfl)) (Abt n))
def Eg:List (Nat×C):=[(0,.g 32),(1,.l 3),(2,.s 3)]
def H8:List Wo:=[⟨.ret,[],[],[.s 4]⟩]
def De (n:Nat) (w:Ax) (roster:List Int) (least:Int):Option ((Bool×Unit)) :=
 (CM n w).bind fun v0 =>
 bif decide (v0.fst=0) then((FH n w roster).bind fun v1 =>
 bif v1.fst then((GI n w roster).bind fun v2 =>
 bif v2.fst then((Lu n roster).bind fun v3 =>
 some (decide (v3.fst≥least),())) else
 some (false,())) else
 some (false,())) else
 some (false,())
def M8 (n:Nat) (y:C.Ds Ty (Af Eg)):Option (YT Ty H8):=De n y.1 y.2.1 y.2.2.1
def Zdy (n:Nat):AA Ty:=El (AB Eg 0 H8 (M8 n))
def Zex (n:Nat):List (Nat×AA Ty):=[(71,ZbI n),(72,Zds n),(73,ZdM n),(74,ZfW n)]
theorem S8 (n:Nat):Ap Tryz.prog (Zex n):=⟨Gc n,⟨Qq n,⟨R5 n,⟨We n,trivial⟩⟩⟩⟩
def Zey (n:Nat):A0 Ty:=[]
theorem TU (n:Nat) (x:C.Ds Ty (Af Eg)):(Ay Tryz.prog 26 (Al Tryz.prog (Zex n) []) (Ae (Zey n)) (Ao Tryz.f33) (Av Eg x)).runK (Ar Tryz.prog Tryz.f33.results.toList 0 H8)=M8 n x:=by kernel_rfl
theorem Q5 (n:Nat):Au Tryz.prog 33 (Zdy n):=AX (As Tryz.func33 rfl rfl (by decide) rfl Aa Ab (Ac Aa Ab (S8 n) Ai) (Ad (fn:=Tryz.f33) (L:=Zey n) (ks:=[]) trivial (by kernel_rfl) (by kernel_rfl)) (TU n))
def D0:List (Nat×C):=[(0,.u 114),(1,.v 3)]
def GJ:List Wo:=[⟨.ret,[.u 114],[],[]⟩,⟨.pan,[.u 114],[],[.i 234 (.g 234)]⟩]
def CD (n:Nat) (g:Aj) (n_:List Int):Option ((Aj×Unit) ⊕ ((Aj×AG×Unit))) :=
 bif n_.length.beq 5 then((A3 n_ 0).bind fun v0 =>
 (n_.get?Internal (Int.toNat 0)).bind fun v1 =>
 (AZ n v1 0 (IntKind.i64.wrap ((↑g.state.roster.length:Int)-1))).bind fun v2 =>
 bif v2.fst then(bif n_.length.beq 5 then((A3 n_ 1).bind fun v3 =>
 (n_.get?Internal (Int.toNat 1)).bind fun v4 =>
 (AZ n v4 (-1) (IntKind.i64.wrap ((↑g.state.week.drivers.length:Int)-1))).bind fun v5 =>
 (AD n v5.fst 2).bind fun v6 =>
 Sum.elim (fun v7=>(Zc n g.state.roster).bind fun v8 =>
 bif n_.length.beq 5 then((A3 n_ 0).bind fun v9 =>
 (n_.get?Internal (Int.toNat 0)).bind fun v10 =>
 bif n_.length.beq 5 then((A3 n_ 1).bind fun v11 =>
 (n_.get?Internal (Int.toNat 1)).bind fun v12 =>
 (A3 v8.fst v10).bind fun v13 =>
 (v8.fst.get?Internal v10.toNat).bind fun v14 =>
 (De n g.state.week (v8.fst.set v10.toNat v12) 0).bind fun v15 =>
 (AD n v15.fst 10).bind fun v16 =>
 Sum.elim (fun v17=>some (.inl (Aj.mk (An.mk g.state.cards g.state.outs g.state.runs g.state.records g.state.week (v8.fst.set v10.toNat v12)),()))) (fun v17=>some (.inr (g,(v17.fst,())))) (v16)) else
 none) else
 none) (fun v7=>some (.inr (g,(v7.fst,())))) (v6)) else
 none) else
 (AD n false 2).bind fun v3 =>
 Sum.elim (fun v4=>(Zc n g.state.roster).bind fun v5 =>
 bif n_.length.beq 5 then((A3 n_ 0).bind fun v6 =>
 (n_.get?Internal (Int.toNat 0)).bind fun v7 =>
 bif n_.length.beq 5 then((A3 n_ 1).bind fun v8 =>
 (n_.get?Internal (Int.toNat 1)).bind fun v9 =>
 (A3 v5.fst v7).bind fun v10 =>
 (v5.fst.get?Internal v7.toNat).bind fun v11 =>
 (De n g.state.week (v5.fst.set v7.toNat v9) 0).bind fun v12 =>
 (AD n v12.fst 10).bind fun v13 =>
 Sum.elim (fun v14=>some (.inl (Aj.mk (An.mk g.state.cards g.state.outs g.state.runs g.state.records g.state.week (v5.fst.set v7.toNat v9)),()))) (fun v14=>some (.inr (g,(v14.fst,())))) (v13)) else
 none) else
 none) (fun v4=>some (.inr (g,(v4.fst,())))) (v3)) else
 none
def Lv (n:Nat) (y:C.Ds Ty (Af D0)):Option (YT Ty GJ):=CD n y.1 y.2.1
def ZbZ (n:Nat):AA Ty:=AB D0 1 GJ (Lv n)
def ZdN (n:Nat):List (Nat×AA Ty):=[(75,ZbC n),(139,Zb7 n),(268,Zjd n),(33,Zdy n)]
theorem R6 (n:Nat):Ap Tryz.prog (ZdN n):=⟨C9 n,⟨B8 n,⟨Abi n,⟨Q5 n,trivial⟩⟩⟩⟩
def ZdO (n:Nat):A0 Ty:=[]
theorem S9 (n:Nat) (x:C.Ds Ty (Af D0)):(Ay Tryz.prog 54 (Al Tryz.prog (ZdN n) []) (Ae (ZdO n)) (Ao Tryz.f200) (Av D0 x)).runK (Ar Tryz.prog Tryz.f200.results.toList 1 GJ)=Lv n x:=by kernel_rfl
theorem I3 (n:Nat):Au Tryz.prog 200 (ZbZ n):=As Tryz.func200 rfl rfl (by decide) rfl Aa Ab (Ac Aa Ab (R6 n) Ai) (Ad (fn:=Tryz.f200) (L:=ZdO n) (ks:=[]) trivial (by kernel_rfl) (by kernel_rfl)) (S9 n)
def AfI:List (Nat×C):=[]
def Al5:List Wo:=[⟨.ret,[],[],[.m 9 237]⟩]
def Aup (n:Nat):Option (((List (ByteArray×FX))×Unit)) :=
 some (JA Fi (JA Fi (JA Fi (JA Fi (JA Fi (JA Fi (JA Fi (JA Fi (JA Fi (JA Fi (JA Fi (JA Fi [] (B [102,111,117,110,100]) (FX.mk 4 (Fp.mk (↑189:Int)))) (B [104,101,108,100]) (FX.mk 4 (Fp.mk (↑190:Int)))) (B [115,105,103,110,101,100]) (FX.mk 4 (Fp.mk (↑191:Int)))) (B [99,104,101,99,107,101,100]) (FX.mk 3 (Fp.mk (↑192:Int)))) (B [111,117,116]) (FX.mk 2 (Fp.mk (↑193:Int)))) (B [105,110]) (FX.mk 3 (Fp.mk (↑194:Int)))) (B [115,97,108,101]) (FX.mk 5 (Fp.mk (↑195:Int)))) (B [115,121,110,99]) (FX.mk 4 (Fp.mk (↑196:Int)))) (B [99,108,111,115,101]) (FX.mk 5 (Fp.mk (↑197:Int)))) (B [100,114,105,118,101,114]) (FX.mk 2 (Fp.mk (↑198:Int)))) (B [100,117,116,121]) (FX.mk 5 (Fp.mk (↑199:Int)))) (B [103,105,118,101]) (FX.mk 2 (Fp.mk (↑200:Int))),())
def Aqt (n:Nat) (y:C.Ds Ty (Af AfI)):Option (YT Ty Al5):=Aup n
def Zk3 (n:Nat):AA Ty:=AB AfI 0 Al5 (Aqt n)
def Zk8 (n:Nat):List (Nat×AA Ty):=[(189,ZbO n),(190,ZbS n),(191,ZbJ n),(192,ZbH n),(193,Zcb n),(194,Zcg n),(195,ZbU n),(196,ZbV n),(197,ZbP n),(198,ZbK n),(199,ZbX n),(200,ZbZ n)]
theorem ArO (n:Nat):Ap Tryz.prog (Zk8 n):=⟨HG n,⟨Ir n,⟨GX n,⟨Gs n,⟨Jm n,⟨JG n,⟨Iv n,⟨Iw n,⟨HI n,⟨GY n,⟨Ix n,⟨I3 n,trivial⟩⟩⟩⟩⟩⟩⟩⟩⟩⟩⟩⟩
def Zk9 (n:Nat):A0 Ty:=[]
theorem Auq (n:Nat) (x:C.Ds Ty (Af AfI)):(Ay Tryz.prog 15 (Al Tryz.prog (Zk8 n) []) (Ae (Zk9 n)) (Ao Tryz.f138) (Av AfI x)).runK (Ar Tryz.prog Tryz.f138.results.toList 0 Al5)=Aqt n x:=by kernel_rfl
theorem AnH (n:Nat):Au Tryz.prog 138 (Zk3 n):=As Tryz.func138 rfl rfl (by decide) rfl Aa Ab (Ac Aa Ab (ArO n) Ai) (Ad (fn:=Tryz.f138) (L:=Zk9 n) (ks:=[]) trivial (by kernel_rfl) (by kernel_rfl)) (Auq n)
def IW:List (Nat×C):=[(0,.s 9)]
def MP:List Wo:=[⟨.ret,[],[],[.s 3]⟩,⟨.pan,[],[],[.i 234 (.g 234)]⟩]
def Lw (n:Nat) (s:ByteArray):Option ((Int×Unit) ⊕ ((AG×Unit))) :=
 (Aeu s).bind fun v0 =>
 Sum.elim (fun v1=>(Abl n v1).bind fun v2 =>
 bif v2.fst.beq s then((AZ n v1 (-999999999) 999999999).bind fun v3 =>
 (AD n v3.fst 4).bind fun v4 =>
 Sum.elim (fun v5=>some (.inl (v1,()))) (fun v5=>some (.inr (v5.fst,()))) (v4)) else
 (AD n false 4).bind fun v3 =>
 Sum.elim (fun v4=>some (.inl (v1,()))) (fun v4=>some (.inr (v4.fst,()))) (v3)) (fun v1=>(AD n false 4).bind fun v2 =>
 Sum.elim (fun v3=>some (.inl (v1,()))) (fun v3=>some (.inr (v3.fst,()))) (v2)) (v0)
def SB (n:Nat) (y:C.Ds Ty (Af IW)):Option (YT Ty MP):=Lw n y.1
def ZfX (n:Nat):AA Ty:=AB IW 0 MP (SB n)
def Zhj (n:Nat):List (Nat×AA Ty):=[(113,ZhL n),(89,Zj6 n),(75,ZbC n),(139,Zb7 n)]
theorem Zj (n:Nat):Ap Tryz.prog (Zhj n):=⟨Aew n,⟨Aev n,⟨C9 n,⟨B8 n,trivial⟩⟩⟩⟩
def Zhk (n:Nat):A0 Ty:=[]
theorem Abu (n:Nat) (x:C.Ds Ty (Af IW)):(Ay Tryz.prog 24 (Al Tryz.prog (Zhj n) []) (Ae (Zhk n)) (Ao Tryz.f140) (Av IW x)).runK (Ar Tryz.prog Tryz.f140.results.toList 0 MP)=SB n x:=by kernel_rfl
theorem Wf (n:Nat):Au Tryz.prog 140 (ZfX n):=As Tryz.func140 rfl rfl (by decide) rfl Aa Ab (Ac Aa Ab (Zj n) Ai) (Ad (fn:=Tryz.f140) (L:=Zhk n) (ks:=[]) trivial (by kernel_rfl) (by kernel_rfl)) (Abu n)
def Yp:Nat→Code→Code
 | n+1,.seq _ b=>Yp n b
 | _,c=>c
def P6:List (Nat×C):=[(0,.u 114),(4,.p [.s 3]),(6,.u 237),(8,.a 3),(33,.l 9),(34,.s 3),(35,.s 3)]
def Zk:List Wo:=[⟨.exit 0,[.u 114,.p [.s 3],.u 237,.a 3],[(0,.q 0),(4,.q 1),(6,.q 2),(8,.q 3)],[]⟩,⟨.pan,[.u 114,.p [.s 3],.u 237,.a 3],[(4,.q 1)],[.i 234 (.g 234)]⟩]
def QQ:List (Nat×C):=[(0,.u 114),(1,.s 9),(4,.p [.s 37])]
def TV:List Wo:=[⟨.ret,[.u 114,.p [.s 37]],[(4,.q 1)],[]⟩,⟨.pan,[.u 114,.p [.s 37]],[(4,.q 1)],[.i 234 (.g 234)]⟩]
def P7:Nat→Aj→Int→FX→(List Int)→(List ByteArray)→Int→Int→Option ((Aj×(Int×Unit)×FX×List Int×Unit×Unit×Unit×Unit×Unit) ⊕ ((Aj×(Int×Unit)×FX×List Int×Unit×AG×Unit)))
 | 0,_,_,_,_,_,_,_=>none
 | n+1,g,e,x,n_,x33,x34,x35 =>
  bif decide (x35<x34) then((A3 x33 x35).bind fun v0 =>
  (Lw n v0).bind fun v1 =>
  Sum.elim (fun v2=>bif n_.length.beq 5 then((A3 n_ x35).bind fun v3 =>
  (n_.get?Internal x35.toNat).bind fun v4 =>
  P7 n g e x (n_.set x35.toNat v2.fst) x33 x34 (IntKind.i64.wrap (x35+1))) else
  none) (fun v2=>some (.inr (g,((e,()),(x,(n_,((),(v2.fst,())))))))) (v1)) else
  some (.inl (g,((e,()),(x,(n_,((),((),((),((),())))))))))
def TW (n:Nat) (y:C.Ds Ty (Af P6)):Option (YT Ty Zk):=P7 n y.1 y.2.1.1 y.2.2.1 y.2.2.2.1 y.2.2.2.2.1 y.2.2.2.2.2.1 y.2.2.2.2.2.2.1
def Zj9 (n:Nat):St Ty→Tr (Lf Ty):=Bc P6 4 Zk (TW n)
def AnI (n:Nat) (g:Aj) (text:ByteArray) (e:Int):Option ((Aj×(Int×Unit)×Unit×Unit) ⊕ ((Aj×(Int×Unit)×Unit×AG×Unit))) :=
 (AhY n text (B [32])).bind fun v0 =>
 (Aup n).bind fun v1 =>
 (A3 v0.fst 0).bind fun v2 =>
 bif Dl Fi v1.fst v2 then((AD n (decide ((↑v0.fst.length:Int)=IntKind.i64.wrap ((AV Fi v1.fst v2 (FX.mk 0 (Fp.mk (-1)))).many+1))) 4).bind fun v3 =>
 Sum.elim (fun v4=>(Gx v0.fst 1 (↑v0.fst.length:Int)).bind fun v5 =>
 (P7 n g e (AV Fi v1.fst v2 (FX.mk 0 (Fp.mk (-1)))) [0,0,0,0,0] v5 (↑v5.length:Int) 0).bind fun v6 =>
 Sum.elim (fun v7=>bif v7.snd.snd.snd.fst.length.beq 5 then(bif decide (v7.snd.snd.fst.do_.f=(↑189:Int)) then((DU n v7.fst v7.snd.snd.snd.fst).bind fun v8 =>
 Sum.elim (fun v9=>some (.inl (v9.fst,((0,()),((),()))))) (fun v9=>some (.inr (v9.fst,((v7.snd.fst.fst,()),((),(v9.snd.fst,())))))) (v8)) else
 bif decide (v7.snd.snd.fst.do_.f=(↑190:Int)) then((E6 n v7.fst v7.snd.snd.snd.fst).bind fun v8 =>
 Sum.elim (fun v9=>some (.inl (v9.fst,((0,()),((),()))))) (fun v9=>some (.inr (v9.fst,((v7.snd.fst.fst,()),((),(v9.snd.fst,())))))) (v8)) else
 bif decide (v7.snd.snd.fst.do_.f=(↑191:Int)) then((Dq n v7.fst v7.snd.snd.snd.fst).bind fun v8 =>
 Sum.elim (fun v9=>some (.inl (v9.fst,((0,()),((),()))))) (fun v9=>some (.inr (v9.fst,((v7.snd.fst.fst,()),((),(v9.snd.fst,())))))) (v8)) else
 bif decide (v7.snd.snd.fst.do_.f=(↑192:Int)) then((CI n v7.fst v7.snd.snd.snd.fst).bind fun v8 =>
 Sum.elim (fun v9=>some (.inl (v9.fst,((0,()),((),()))))) (fun v9=>some (.inr (v9.fst,((v7.snd.fst.fst,()),((),(v9.snd.fst,())))))) (v8)) else
 bif decide (v7.snd.snd.fst.do_.f=(↑193:Int)) then((CW n v7.fst v7.snd.snd.snd.fst).bind fun v8 =>
 Sum.elim (fun v9=>some (.inl (v9.fst,((0,()),((),()))))) (fun v9=>some (.inr (v9.fst,((v7.snd.fst.fst,()),((),(v9.snd.fst,())))))) (v8)) else
 bif decide (v7.snd.snd.fst.do_.f=(↑194:Int)) then((DF n v7.fst v7.snd.snd.snd.fst).bind fun v8 =>
 Sum.elim (fun v9=>some (.inl (v9.fst,((0,()),((),()))))) (fun v9=>some (.inr (v9.fst,((v7.snd.fst.fst,()),((),(v9.snd.fst,())))))) (v8)) else
 bif decide (v7.snd.snd.fst.do_.f=(↑195:Int)) then((E9 n v7.fst v7.snd.snd.snd.fst).bind fun v8 =>
 Sum.elim (fun v9=>some (.inl (v9.fst,((0,()),((),()))))) (fun v9=>some (.inr (v9.fst,((v7.snd.fst.fst,()),((),(v9.snd.fst,())))))) (v8)) else
 bif decide (v7.snd.snd.fst.do_.f=(↑196:Int)) then((EA n v7.fst v7.snd.snd.snd.fst).bind fun v8 =>
 Sum.elim (fun v9=>some (.inl (v9.fst,((0,()),((),()))))) (fun v9=>some (.inr (v9.fst,((v7.snd.fst.fst,()),((),(v9.snd.fst,())))))) (v8)) else
 bif decide (v7.snd.snd.fst.do_.f=(↑197:Int)) then((DY n v7.fst v7.snd.snd.snd.fst).bind fun v8 =>
 Sum.elim (fun v9=>some (.inl (v9.fst,((0,()),((),()))))) (fun v9=>some (.inr (v9.fst,((v7.snd.fst.fst,()),((),(v9.snd.fst,())))))) (v8)) else
 bif decide (v7.snd.snd.fst.do_.f=(↑198:Int)) then((BZ n v7.fst v7.snd.snd.snd.fst).bind fun v8 =>
 Sum.elim (fun v9=>some (.inl (v9.fst,((0,()),((),()))))) (fun v9=>some (.inr (v9.fst,((v7.snd.fst.fst,()),((),(v9.snd.fst,())))))) (v8)) else
 bif decide (v7.snd.snd.fst.do_.f=(↑199:Int)) then((CB n v7.fst v7.snd.snd.snd.fst).bind fun v8 =>
 Sum.elim (fun v9=>some (.inl (v9.fst,((0,()),((),()))))) (fun v9=>some (.inr (v9.fst,((v7.snd.fst.fst,()),((),(v9.snd.fst,())))))) (v8)) else
 bif decide (v7.snd.snd.fst.do_.f=(↑200:Int)) then((CD n v7.fst v7.snd.snd.snd.fst).bind fun v8 =>
 Sum.elim (fun v9=>some (.inl (v9.fst,((0,()),((),()))))) (fun v9=>some (.inr (v9.fst,((v7.snd.fst.fst,()),((),(v9.snd.fst,())))))) (v8)) else
 none) else
 none) (fun v7=>some (.inr (v7.fst,((v7.snd.fst.fst,()),((),(v7.snd.snd.snd.snd.snd.fst,())))))) (v6)) (fun v4=>some (.inr (g,((e,()),((),(v4.fst,())))))) (v3)) else
 (AD n false 4).bind fun v3 =>
 Sum.elim (fun v4=>(Gx v0.fst 1 (↑v0.fst.length:Int)).bind fun v5 =>
 (P7 n g e (AV Fi v1.fst v2 (FX.mk 0 (Fp.mk (-1)))) [0,0,0,0,0] v5 (↑v5.length:Int) 0).bind fun v6 =>
 Sum.elim (fun v7=>bif v7.snd.snd.snd.fst.length.beq 5 then(bif decide (v7.snd.snd.fst.do_.f=(↑189:Int)) then((DU n v7.fst v7.snd.snd.snd.fst).bind fun v8 =>
 Sum.elim (fun v9=>some (.inl (v9.fst,((0,()),((),()))))) (fun v9=>some (.inr (v9.fst,((v7.snd.fst.fst,()),((),(v9.snd.fst,())))))) (v8)) else
 bif decide (v7.snd.snd.fst.do_.f=(↑190:Int)) then((E6 n v7.fst v7.snd.snd.snd.fst).bind fun v8 =>
 Sum.elim (fun v9=>some (.inl (v9.fst,((0,()),((),()))))) (fun v9=>some (.inr (v9.fst,((v7.snd.fst.fst,()),((),(v9.snd.fst,())))))) (v8)) else
 bif decide (v7.snd.snd.fst.do_.f=(↑191:Int)) then((Dq n v7.fst v7.snd.snd.snd.fst).bind fun v8 =>
 Sum.elim (fun v9=>some (.inl (v9.fst,((0,()),((),()))))) (fun v9=>some (.inr (v9.fst,((v7.snd.fst.fst,()),((),(v9.snd.fst,())))))) (v8)) else
 bif decide (v7.snd.snd.fst.do_.f=(↑192:Int)) then((CI n v7.fst v7.snd.snd.snd.fst).bind fun v8 =>
 Sum.elim (fun v9=>some (.inl (v9.fst,((0,()),((),()))))) (fun v9=>some (.inr (v9.fst,((v7.snd.fst.fst,()),((),(v9.snd.fst,())))))) (v8)) else
 bif decide (v7.snd.snd.fst.do_.f=(↑193:Int)) then((CW n v7.fst v7.snd.snd.snd.fst).bind fun v8 =>
 Sum.elim (fun v9=>some (.inl (v9.fst,((0,()),((),()))))) (fun v9=>some (.inr (v9.fst,((v7.snd.fst.fst,()),((),(v9.snd.fst,())))))) (v8)) else
 bif decide (v7.snd.snd.fst.do_.f=(↑194:Int)) then((DF n v7.fst v7.snd.snd.snd.fst).bind fun v8 =>
 Sum.elim (fun v9=>some (.inl (v9.fst,((0,()),((),()))))) (fun v9=>some (.inr (v9.fst,((v7.snd.fst.fst,()),((),(v9.snd.fst,())))))) (v8)) else
 bif decide (v7.snd.snd.fst.do_.f=(↑195:Int)) then((E9 n v7.fst v7.snd.snd.snd.fst).bind fun v8 =>
 Sum.elim (fun v9=>some (.inl (v9.fst,((0,()),((),()))))) (fun v9=>some (.inr (v9.fst,((v7.snd.fst.fst,()),((),(v9.snd.fst,())))))) (v8)) else
 bif decide (v7.snd.snd.fst.do_.f=(↑196:Int)) then((EA n v7.fst v7.snd.snd.snd.fst).bind fun v8 =>
 Sum.elim (fun v9=>some (.inl (v9.fst,((0,()),((),()))))) (fun v9=>some (.inr (v9.fst,((v7.snd.fst.fst,()),((),(v9.snd.fst,())))))) (v8)) else
 bif decide (v7.snd.snd.fst.do_.f=(↑197:Int)) then((DY n v7.fst v7.snd.snd.snd.fst).bind fun v8 =>
 Sum.elim (fun v9=>some (.inl (v9.fst,((0,()),((),()))))) (fun v9=>some (.inr (v9.fst,((v7.snd.fst.fst,()),((),(v9.snd.fst,())))))) (v8)) else
 bif decide (v7.snd.snd.fst.do_.f=(↑198:Int)) then((BZ n v7.fst v7.snd.snd.snd.fst).bind fun v8 =>
 Sum.elim (fun v9=>some (.inl (v9.fst,((0,()),((),()))))) (fun v9=>some (.inr (v9.fst,((v7.snd.fst.fst,()),((),(v9.snd.fst,())))))) (v8)) else
 bif decide (v7.snd.snd.fst.do_.f=(↑199:Int)) then((CB n v7.fst v7.snd.snd.snd.fst).bind fun v8 =>
 Sum.elim (fun v9=>some (.inl (v9.fst,((0,()),((),()))))) (fun v9=>some (.inr (v9.fst,((v7.snd.fst.fst,()),((),(v9.snd.fst,())))))) (v8)) else
 bif decide (v7.snd.snd.fst.do_.f=(↑200:Int)) then((CD n v7.fst v7.snd.snd.snd.fst).bind fun v8 =>
 Sum.elim (fun v9=>some (.inl (v9.fst,((0,()),((),()))))) (fun v9=>some (.inr (v9.fst,((v7.snd.fst.fst,()),((),(v9.snd.fst,())))))) (v8)) else
 none) else
 none) (fun v7=>some (.inr (v7.fst,((v7.snd.fst.fst,()),((),(v7.snd.snd.snd.snd.snd.fst,())))))) (v6)) (fun v4=>some (.inr (g,((e,()),((),(v4.fst,())))))) (v3)
def Abv (n:Nat) (y:C.Ds Ty (Af QQ)):Option (YT Ty TV):=AnI n y.1 y.2.1 y.2.2.1.1
def Zkw (n:Nat):List (Nat×AA Ty):=[(112,Zje n),(138,Zk3 n),(139,Zb7 n),(140,ZfX n),(189,ZbO n),(190,ZbS n),(191,ZbJ n),(192,ZbH n),(193,Zcb n),(194,Zcg n),(195,ZbU n),(196,ZbV n),(197,ZbP n),(198,ZbK n),(199,ZbX n),(200,ZbZ n)]
theorem Akr (n:Nat):Ap Tryz.prog (Zkw n):=⟨Abk n,⟨AnH n,⟨B8 n,⟨Wf n,⟨HG n,⟨Ir n,⟨GX n,⟨Gs n,⟨Jm n,⟨JG n,⟨Iv n,⟨Iw n,⟨HI n,⟨GY n,⟨Ix n,⟨I3 n,trivial⟩⟩⟩⟩⟩⟩⟩⟩⟩⟩⟩⟩⟩⟩⟩⟩
def Zks (n:Nat):A0 Ty:=[]
theorem AnJ (n:Nat) (x:C.Ds Ty (Af P6)):(Ay Tryz.prog 50 (Al Tryz.prog (Zkw n) []) (Ae (Zks n)) (Am 7 Tryz.f84) (Av P6 x)).runK (A4 4 P6 Zk (TW n))=TW (n+1) x:=by kernel_rfl
theorem AnK (n:Nat):A5 true Tryz.prog 50 (Zj9 n) (.loop (Am 7 Tryz.f84)):=A6 fun x y hy=>At (Fn:=TW) Aa Ab (fun n=>Ac Aa Ab (Akr n) Ai) (fun h=>by cases h) (fun h=>by cases h) (fun n=>(Ad (fn:=Tryz.f84) (L:=Zks n) (ks:=[]) trivial (by kernel_rfl) (by kernel_rfl))) (by decide) (fun _=>rfl) AnJ hy
def ZkA (n:Nat):A0 Ty:=[(.loop 7,Zj9 n)]
theorem Aur (n:Nat) (x:C.Ds Ty (Af QQ)):(Ay Tryz.prog 50 (Al Tryz.prog (Zkw n) []) (Ae (ZkA n)) (Yp 2 (Ao Tryz.f84)) (Av QQ x)).runK (Pg 2 TV)=Abv n x:=by kernel_rfl
theorem ArP (n:Nat) {x:C.Ds Ty (Af QQ)} {y:YT Ty TV} (hy:Abv n x=some y):Aqg true Tryz.prog 50 (Yp 2 (Ao Tryz.f84)) QQ 2 TV x y:=Aw7 Aa Ab (Ac Aa Ab (Akr n) Ai) (fun h=>by cases h) (fun h=>by cases h) (Ad (c:=Yp 2 (Ao Tryz.f84)) (fn:=Tryz.f84) (L:=ZkA n) (ks:=[.loop 7]) ⟨AnK n,trivial⟩ (by kernel_rfl) (by kernel_rfl)) ((Aur n x).trans hy)
end
end Go.Proofs.YtkpgggfibljflaaGreatDoor
