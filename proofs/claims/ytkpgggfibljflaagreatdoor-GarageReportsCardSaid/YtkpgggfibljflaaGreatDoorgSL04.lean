/- The plain law. -/
import Derived.Test.YtkpgggfibljflaaGreatDoorgSL03
set_option linter.all false
set_option maxRecDepth 100000
namespace Go.Proofs.YtkpgggfibljflaaGreatDoor
open Go Go.RowKit Go.Proofs
def F0 (b:Bool) (e:Int):Unit ⊕ (Az×Unit):=bif b then .inl () else .inr (Az.mk e,())
theorem Fe (n:Nat) (b:Bool) (e:Int):Au n b e=some (F0 b e):=by cases b <;> rfl
theorem Oz (n:Nat) (e:Int):C9 n e=some (F0 (decide (e=0)) e):=by
 unfold C9
 rw [Fe]
 cases decide (e=0) <;> rfl
theorem Iu (n:Nat) (x lo hi:Int):B1 n x lo hi=some (BF x lo hi,()):=by
 unfold B1 BF
 cases decide (lo≤x) <;> rfl
theorem G3 {α:Type} {l:List α} (h:l.length≤1000000000):app [] l=some l:=A1 (a:=[]) (by simpa using h)
theorem Yd {n:Nat} {l:List Ak} {x:Ak} (h:l.length<1000000000):EY n l x=some (l++[x],()):=by
 unfold EY U3
 rw [G3 (by omega)]
 simp only [Zaa]
 rw [A1 (by simp; omega)]; rfl
theorem Aat {n:Nat} {l:List MV} {x:MV} (h:l.length<1000000000):Ed n l x=some (l++[x],()):=by
 unfold Ed KF
 rw [G3 (by omega)]
 simp only [Zaa]
 rw [A1 (by simp; omega)]; rfl
theorem Aau {n:Nat} {l:List Ls} {x:Ls} (h:l.length<1000000000):Ee n l x=some (l++[x],()):=by
 unfold Ee XN
 rw [G3 (by omega)]
 simp only [Zaa]
 rw [A1 (by simp; omega)]; rfl
theorem UF {n:Nat} {l:List Aa} {x:Aa} (h:l.length<1000000000):DP n l x=some (l++[x],()):=by
 unfold DP XO
 rw [G3 (by omega)]
 simp only [Zaa]
 rw [A1 (by simp; omega)]; rfl
theorem UG {n:Nat} {l:List AJ} {x:AJ} (h:l.length<1000000000):DQ n l x=some (l++[x],()):=by
 unfold DQ Uz
 rw [G3 (by omega)]
 simp only [Zaa]
 rw [A1 (by simp; omega)]; rfl
theorem Ye {n:Nat} {l:List AA} {x:AA} (h:l.length<1000000000):EZ n l x=some (l++[x],()):=by
 unfold EZ U1
 rw [G3 (by omega)]
 simp only [Zaa]
 rw [A1 (by simp; omega)]; rfl
theorem Aav {n:Nat} {l:List Int} {x:Int} (h:l.length<1000000000):FF n l x=some (l++[x],()):=by
 unfold FF NT
 rw [G3 (by omega)]
 simp only [Zaa]
 rw [A1 (by simp; omega)]; rfl
def Aaw (c:Ak):Bool:=bif decide (c.kind.n<2) then BF c.part 0 15 && decide (c.sg=0) else decide (c.part=0) && (decide (c.kind.n=2) && BF c.sg 1 999 || decide (c.kind.n=3) && decide (c.sg=0))
def FK (c:Ak):Bool:=BF c.bus 0 99 && (BF c.number 1 999 && (BF c.minute 0 1000000 && Aaw c))
theorem Ae6 (n:Nat) (c:Ak) (hk:0≤c.kind.n∧c.kind.n≤3):E8 n c=some (FK c,()):=by
 have h4:c.kind.n=0∨c.kind.n=1∨c.kind.n=2∨c.kind.n=3:=by omega
 unfold E8 FK Aaw BF
 obtain⟨bus,number,minute,⟨k⟩,part,sg⟩:=c
 simp only at h4 ⊢
 cases decide (0≤bus) with
 | false=>rfl
 | true =>
 cases decide (bus≤99) with
 | false=>rfl
 | true =>
 cases decide (1≤number) with
 | false=>rfl
 | true =>
 cases decide (number≤999) with
 | false=>rfl
 | true =>
 cases decide (0≤minute) with
 | false=>rfl
 | true =>
 cases decide (minute≤1000000) with
 | false=>rfl
 | true =>
 rcases h4 with rfl | rfl | rfl | rfl
 · show(bif decide (0≤part) then(bif decide (part≤15) then(some (decide (sg=0),())) else some (false,())) else some (false,()))=_
   cases decide (0≤part) <;> cases decide (part≤15) <;> simp
 · show(bif decide (0≤part) then(bif decide (part≤15) then(some (decide (sg=0),())) else some (false,())) else some (false,()))=_
   cases decide (0≤part) <;> cases decide (part≤15) <;> simp
 · show(bif decide (part=0) then(bif decide (1≤sg) then(some (decide (sg≤999),())) else some (false,())) else some (false,()))=_
   cases decide (part=0) <;> cases decide (1≤sg) <;> simp
 · show(bif decide (part=0) then(some (decide (sg=0),())) else some (false,()))=_
   cases decide (part=0) <;> simp
def CP (a c:Ak):Bool:=decide (a.bus=c.bus) && (decide (a.number=c.number) && (decide (a.minute=c.minute) && (decide (a.kind.n=c.kind.n) && (decide (a.part=c.part) && (decide (a.sg=c.sg) && true)))))
theorem JF {a c:Ak}:CP a c=true↔a=c:=by
 obtain⟨a1,a2,a3,⟨a4⟩,a5,a6⟩:=a
 obtain⟨c1,c2,c3,⟨c4⟩,c5,c6⟩:=c
 simp [CP]
theorem Aax {n:Nat} (g:Ab) (c:Ak) (l:List Ak) (hl:l.length≤4000000000000000000) (h:l.length+1≤n):Bj n g c l (l.length:Int) 0=some (bif l.any (fun a=>CP a c) then .inr (g,(c,(Az.mk 6,()))) else .inl (g,(c,((),((),()))))):=by
 have key:=Vk (F:=fun n (_:Unit) i=>Bj n g c l (l.length:Int) i) (l:=l) (N:=0) (T:=fun s i a=>bif CP a c then .inr (.inr (g,(c,(Az.mk 6,())))) else .inl s) (E:=fun _=>.inl (g,(c,((),((),())))))
  (B:=fun n _ i v0=>(Au n (!CP v0 c) 6).bind fun v1=>Sum.elim (fun v2=>Bj n g c l (l.length:Int) (IntKind.i64.wrap (i+1))) (fun v2=>some (.inr (g,(c,(v2.fst,()))))) (v1)) (fun _ _=>True)
  (fun _ _ _=>rfl) (fun n s i hi _ _=>by
   rw [Fe]
   cases CP l[i] c
   · exact⟨rfl,trivial⟩
   · rfl) hl l.length () 0 n (by simp) (by omega) trivial
 rw [show((0:Nat):Int)=0 from rfl,Zar] at key
 rw [key]
 congr 1
 suffices H:∀ (l:List Ak)(i:Nat),Aem (fun(s:Unit)(i:Nat) a=>bif CP a c then .inr (.inr (g,(c,(Az.mk 6,())))) else .inl s) (fun _=>(.inl (g,(c,((),((),())))):(Ab×Ak×Unit×Unit×Unit) ⊕ ((Ab×Ak×Az×Unit)))) i () l=(bif l.any (fun a=>CP a c) then .inr (g,(c,(Az.mk 6,()))) else .inl (g,(c,((),((),()))))) from H l 0
 intro l
 induction l with
 | nil=>intro i; rfl
 | cons a l ih =>
  intro i
  unfold Aem
  rw [Zbx]
  cases CP a c
  · exact ih (i+1)
  · rfl
def G4 (c:Ak):Prop:=0≤c.kind.n∧c.kind.n≤3
theorem WA {α R:Type} (p:α→Bool) (r:Nat→R) (E:R):∀ (l:List α)(i:Nat),(l.all p=true→Aem (fun(s:Unit) i a=>bif p a then .inl s else .inr (r i)) (fun _=>E) i () l=E)∧(l.all p=false→∃ k,Aem (fun(s:Unit) i a=>bif p a then .inl s else .inr (r i)) (fun _=>E) i () l=r k)
 | [],i=>⟨fun _=>rfl,fun h=>by cases h⟩
 | a::l,i=>by
  obtain⟨h1,h2⟩:=WA p r E l (i+1)
  unfold Aem
  rw [ZaP]
  cases hp:p a with
  | false=>exact⟨(fun h=>by cases h),fun _=>⟨i,rfl⟩⟩
  | true =>
   simp only [ZaF,Zab]
   exact⟨h1,h2⟩
theorem Aay {n:Nat} {l:List Ak} (hk:∀ c∈l,G4 c) (hl:l.length≤1000) (h:l.length<n):(l.all FK=true→Ez n l (l.length:Int) 0=some (.inl ((((),()),()),())))∧(l.all FK=false→∃ k:Nat,Ez n l (l.length:Int) 0=some (.inr ((((),()),()),((k:Int),())))):=by
 have key:=Vk (F:=fun n (_:Unit) i=>Ez n l (l.length:Int) i) (l:=l) (N:=0) (T:=fun s i a=>bif FK a then .inl s else .inr (.inr ((((),()),()),((i:Int),())))) (E:=fun _=>.inl ((((),()),()),()))
  (B:=fun n _ i v0=>(E8 n v0).bind fun v1=>bif !v1.fst then(some (.inr ((((),()),()),(i,())))) else Ez n l (l.length:Int) (IntKind.i64.wrap (i+1))) (fun _ _=>True)
  (fun _ _ _=>rfl) (fun n s i hi _ _=>by
   rw [Ae6 n _ (hk _ (Zav hi))]
   cases FK l[i]
   · rfl
   · exact⟨rfl,trivial⟩) (by omega) l.length () 0 n (by simp) (by omega) trivial
 rw [show((0:Nat):Int)=0 from rfl,Zar] at key
 obtain⟨h1,h2⟩:=WA (R:=((((Unit×Unit)×Unit)×Unit) ⊕ ((((Unit×Unit)×Unit)×Int×Unit)))) FK (fun i=>.inr ((((),()),()),((i:Int),()))) (.inl ((((),()),()),())) l 0
 exact⟨fun h=>by rw [key,h1 h],fun h=>by obtain⟨k,hk⟩:=h2 h; exact⟨k,by rw [key,hk]⟩⟩
def zC:Ak:=Ak.mk 0 0 0 (IK.mk 0) 0 0
def WB:List (Int×Ak)→List Int→List Ak→Option (List (Int×Ak)×List Int)
 | m,o,[]=>some (m,o)
 | m,o,c::l=>bif Ct BE m c.number then(bif CP (AG BE m c.number zC) c then WB m o l else none) else WB (FY BE m c.number c) (o++[c.number]) l
theorem RY (full:List Ak) (hl:full.length≤1000):∀ (n i:Nat)(m:List (Int×Ak))(o:List Int),full.length-i<n→i≤full.length→o.length≤i→match WB m o (full.drop i) with
  | some (m',o')=>Cc n m o full (full.length:Int) (i:Int)=some (.inl ((m',(o',())),((),((),()))))
  | none=>∃ m' o',Cc n m o full (full.length:Int) (i:Int)=some (.inr ((m',(o',())),((),((),(6,())))))
 | 0,_,_,_,h,_,_=>absurd h (Zal _)
 | n+1,i,m,o,h,hi,ho=>by
  rw [Cc]
  by_cases hx:i<full.length
  · have hd:full.drop i=full[i]::full.drop (i+1):=Zai hx
    rw [show decide ((i:Int)<(full.length:Int))=true by simp; omega,Zab,AO hx,Zaa,hd,wN i (by omega)]
    have ih:=fun m o=>RY full hl n (i+1) m o (by omega) (by omega)
    have happ:app o [full[i].number]=some (o++[full[i].number]):=A1 (by simp; omega)
    unfold WB
    cases hm:Ct BE m full[i].number with
    | true =>
     simp only [Zab,ZaC,Zad]
     show(match (bif CP (AG BE m full[i].number zC) full[i] then WB m o (full.drop (i+1)) else none) with | some (m',o')=>(bif !CP (AG BE m full[i].number zC) full[i] then _ else _)=_ | none=>∃ m' o',(bif !CP (AG BE m full[i].number zC) full[i] then _ else _)=_)
     cases CP (AG BE m full[i].number zC) full[i] with
     | true =>
      simp only [Zab,ZaC,Zad]
      exact ih m o (by omega)
     | false=>exact⟨m,o,rfl⟩
    | false =>
     simp only [Zab,Za7,Zad]
     rw [happ,Zaa]
     exact ih _ _ (by simp; omega)
  · have hd:full.drop i=[]:=by simp; omega
    rw [show decide ((i:Int)<(full.length:Int))=false by simp; omega,hd]
    rfl
theorem RJ:∀ (l:List Ak)(m:List (Int×Ak))(o:List Int)(m':List (Int×Ak))(o':List Int),WB m o l=some (m',o')→o'.length≤o.length+l.length
 | [],m,o,m',o',h=>by cases h; simp
 | c::l,m,o,m',o',h=>by
  unfold WB at h
  cases hm:Ct BE m c.number with
  | true =>
   rw [hm,Zab] at h
   cases hs:CP (AG BE m c.number zC) c with
   | true =>
    rw [hs,Zab] at h
    have:=RJ l m o m' o' h
    simp; omega
   | false=>rw [hs] at h; cases h
  | false =>
   rw [hm,Zad] at h
   have:=RJ l _ _ m' o' h
   simp at this ⊢; omega
theorem AgY {o:List Int} (h:o.length≤1000000):Ab9 o=some (Eo (fun a b=>decide (a≤b)) o):=by
 unfold Ab9
 have hl:∀ (l:List Int),Bm l=l.length:=fun l=>by induction l with
  | nil=>rfl
  | cons a l ih=>simp [Bm,ih]
 rw [show Nat.blt (Bm o) 4611686018427387904=true by rw [hl]; exact Za2 (by omega)]
 rfl
def Hg (l:List Ak):Int ⊕ (List (Int×Ak)×List Int) :=
 if 40<l.length then .inl 3 else if l.all FK=false then .inl 1 else match WB [] [] l with
  | none=>.inl 6
  | some (m,o)=>.inr (m,Eo (fun a b=>decide (a≤b)) o)
theorem AbW {n:Nat} {l:List Ak} (hk:∀ c∈l,G4 c) (hl:l.length≤1000) (h:l.length<n):Ka n l=some (match Hg l with | .inl e=>.inl ((),(e,())) | .inr y=>.inr ((y.1,(y.2,())),(0,()))):=by
 unfold Ka Hg
 by_cases h40:40<l.length
 · rw [show decide ((l.length:Int)>40)=true by simp; omega,Zab,if_pos h40]
 · rw [show decide ((l.length:Int)>40)=false by simp; omega,Zad,if_neg h40]
   obtain⟨r1,r2⟩:=Aay hk hl h
   have r3:=RY l hl n 0 [] [] (by omega) (by omega) (by simp)
   rw [show((0:Nat):Int)=0 from rfl,Zar] at r3
   cases ha:l.all FK with
   | false =>
    obtain⟨k,hk⟩:=r2 ha
    rw [hk,if_pos rfl]
    simp only [Zaa,Sum.elim_inr]
    rw [show decide ((k:Int)≥0)=true by simp]
    rfl
   | true =>
    rw [r1 ha,if_neg (by simp)]
    simp only [Zaa,Za3]
    cases hr:WB [] [] l with
    | none =>
     rw [hr] at r3
     obtain⟨m',o',e⟩:=r3
     rw [e]; rfl
    | some y =>
     rw [hr] at r3
     have hlen:=RJ l [] [] y.1 y.2 hr
     rw [r3]
     simp only [Zaa,Za3]
     rw [AgY (by simp at hlen; omega)]; rfl
def WC (l:List Ak):Int:=match Hg l with
 | .inl e=>e
 | .inr _=>0
theorem UH {n:Nat} {l:List Ak} (hk:∀ c∈l,G4 c) (hl:l.length≤1000) (h:l.length<n):Gi n l=some (WC l,()):=by
 unfold Gi WC
 rw [AbW hk hl h]
 cases Hg l <;> rfl
def Ajk (m:List (Int×Ak)) (bus at_:Int) (v:Int):Bool:=decide ((AG BE m v zC).bus=bus) && ((decide ((AG BE m v zC).kind.n=0) || decide ((AG BE m v zC).kind.n=1)) && Pu m (AG BE m v zC) at_)
def Ae7 (m:List (Int×Ak)) (o:List Int) (bus at_:Int):List Int:=(o.filter (Ajk m bus at_)).map fun v=>(AG BE m v zC).number
theorem QA (m:List (Int×Ak)) (cl full:List Int) (bus at_:Int) (hl:full.length≤1000):∀ (n i:Nat)(acc:List Int),full.length-i<n→i≤full.length→acc.length≤i→AM n at_ acc m cl bus full (full.length:Int) (i:Int)=some (.inl (((at_,()),((acc++Ae7 m (full.drop i) bus at_,()),(((((m,(cl,())),()),()),()),()))),((),((),((),((),((),(((),()),((bus,()),())))))))))
 | 0,_,_,h,_,_=>absurd h (Zal _)
 | n+1,i,acc,h,hi,ha=>by
  rw [AM]
  by_cases hx:i<full.length
  · have hd:full.drop i=full[i]::full.drop (i+1):=Zai hx
    have ih:=fun acc=>QA m cl full bus at_ hl n (i+1) acc (by omega) (by omega)
    have happ:∀ x,app acc [x]=some (acc++[x]):=fun x=>A1 (by simp; omega)
    rw [show decide ((i:Int)<(full.length:Int))=true by simp; omega,Zab,AO hx,Zaa,hd,wN i (by omega)]
    have e1:Ae7 m (full[i]::full.drop (i+1)) bus at_=(bif Ajk m bus at_ full[i] then [(AG BE m full[i] zC).number] else [])++Ae7 m (full.drop (i+1)) bus at_:=by
     unfold Ae7
     rw [List.filter_cons]
     cases Ajk m bus at_ full[i] <;> simp
    rw [e1]
    unfold AcF Ajk
    simp only [Zaa,happ]
    generalize hz:AG BE m full[i] zC=z
    unfold zC at hz
    rw [hz]
    cases decide (z.bus=bus) with
    | false=>simpa using ih acc (by omega)
    | true =>
     cases decide (z.kind.n=0) with
     | true =>
      cases Pu m z at_ with
      | true=>simpa using ih (acc++[z.number]) (by simp; omega)
      | false=>simpa using ih acc (by omega)
     | false =>
      cases decide (z.kind.n=1) with
      | true =>
       cases Pu m z at_ with
       | true=>simpa using ih (acc++[z.number]) (by simp; omega)
       | false=>simpa using ih acc (by omega)
      | false=>simpa using ih acc (by omega)
  · have hd:full.drop i=[]:=by simp; omega
    rw [show decide ((i:Int)<(full.length:Int))=false by simp; omega,hd]
    simp [Ae7]
def Cm (l:List Ak) (bus at_:Int):List Int×Int:=match Hg l with
 | .inl e=>([],e)
 | .inr y=>if BF bus 0 99 && BF at_ 0 1000000 then(Ae7 y.1 y.2 bus at_,0) else([],2)
theorem Yf {α:Type} (le:α→α→Bool) (x:α):∀ l,(Uw le x l).length=l.length+1
 | []=>rfl
 | y::r=>by
  unfold Uw
  cases le x y
  · simp [Yf le x r]
  · simp
theorem JG {α:Type} (le:α→α→Bool):∀ l,(Eo le l).length=l.length
 | []=>rfl
 | x::r=>by
  unfold Eo
  rw [Yf,JG le r]; rfl
theorem Yg {α:Type} (le:α→α→Bool) (x z:α):∀ l,z∈Uw le x l↔z=x∨z∈l
 | []=>by simp [Uw]
 | y::r=>by
  unfold Uw
  cases le x y
  · simp only [Zad,Zam,Yg le x z r]
    constructor
    · rintro(h | h | h)
      · exact .inr (.inl h)
      · exact .inl h
      · exact .inr (.inr h)
    · rintro(h | h | h)
      · exact .inr (.inl h)
      · exact .inl h
      · exact .inr (.inr h)
  · simp
theorem Yh {α:Type} (le:α→α→Bool) (z:α):∀ l,z∈Eo le l↔z∈l
 | []=>by simp [Eo]
 | x::r=>by
  unfold Eo
  rw [Yg,Yh le z r,Zam]
theorem JH {l:List Ak} {y:List (Int×Ak)×List Int} (h:Hg l=.inr y):l.length≤40∧l.all FK=true∧∃ o,WB [] [] l=some (y.1,o)∧y.2=Eo (fun a b=>decide (a≤b)) o:=by
 unfold Hg at h
 split at h
 · cases h
 · rename_i h40
   split at h
   · cases h
   · rename_i ha
     split at h
     · cases h
     · rename_i m o hr
       cases h
       exact⟨by omega,by simpa using ha,o,hr,rfl⟩
theorem JI {l:List Ak} {e:Int} (h:Hg l=.inl e):e=1∨e=3∨e=6:=by
 unfold Hg at h
 split at h
 · cases h; simp
 · split at h
   · cases h; simp
   · split at h
     · cases h; simp
     · cases h
theorem Vo {l:List Ak} {y:List (Int×Ak)×List Int} (h:Hg l=.inr y):y.2.length≤40:=by
 obtain⟨h1,_,o,h2,h3⟩:=JH h
 have:=RJ l _ _ _ _ h2
 rw [h3,JG]
 simp at this; omega
theorem WD {n:Nat} {l:List Ak} {bus at_:Int} (hk:∀ c∈l,G4 c) (hl:l.length≤1000) (h:l.length+50<n):Dj n l bus at_=some ((Cm l bus at_).1,((Cm l bus at_).2,())):=by
 unfold Dj Cm
 rw [AbW hk hl (by omega)]
 cases hr:Hg l with
 | inl e =>
  have he:e≠0:=by have:=JI hr; omega
  simp only [Zaa,Za3]
  rw [show(e != 0)=true by simpa using he]
  rfl
 | inr y =>
  simp only [Zaa,Sum.elim_inr]
  rw [show((0:Int) != 0)=false from rfl,Zad]
  unfold BF
  have hy:=Vo hr
  have ho:=QA y.1 y.2 y.2 bus at_ (by omega) n 0 [] (by omega) (by omega) (by simp)
  rw [show((0:Nat):Int)=0 from rfl,Zar,Zax] at ho
  have hb:Gj n y.1 y.2 bus at_=some (((y.1,(y.2,())),((),(Ae7 y.1 y.2 bus at_,())))):=by
   unfold Gj
   rw [ho]; rfl
  cases decide (0≤bus) <;> cases decide (bus≤99) <;> cases decide (0≤at_) <;> cases decide (at_≤1000000) <;> simp [hb]
section
variable {α β:Type} [DecidableEq α] {q:α→α→Bool} (hq:∀ a b,q a b=true↔a=b)
include hq
theorem Aaz (a:α):q a a=true:=(hq a a).2 rfl
theorem Gt (k k':α) (v:β):∀ m:List (α×β),Dh q (FY q m k v) k' = if k=k' then some v else Dh q m k'
 | []=>by
  unfold FY Dh Dh
  by_cases h:k=k'
  · subst h; simp [Aaz hq]
  · have:q k k' = false:=by
     cases hh:q k k' with
     | false=>rfl
     | true=>exact absurd ((hq _ _).1 hh) h
    rw [this,if_neg h]; rfl
 | p::r=>by
  have ih:=Gt k k' v r
  unfold FY
  cases hp:q p.1 k with
  | true =>
   have hpk:=(hq _ _).1 hp
   simp only [Zab]
   unfold Dh
   by_cases h:k=k'
   · subst h; simp [Aaz hq]
   · have h1:q k k' = false:=by
      cases hh:q k k' with
      | false=>rfl
      | true=>exact absurd ((hq _ _).1 hh) h
     have h2:q p.1 k' = false:=by rw [hpk]; exact h1
     simp only [h1,h2,Zad,if_neg h]
  | false =>
   simp only [Zad]
   unfold Dh
   cases hp2:q p.1 k' with
   | true =>
    have hpk:=(hq _ _).1 hp2
    have:k≠k':=fun h=>by
     rw [h,← hpk] at hp
     rw [Aaz hq] at hp; cases hp
    rw [if_neg this]; rfl
   | false=>simpa using ih
theorem JJ (m:List (α×β)) (k k':α) (v:β):Ct q (FY q m k v) k' = true↔k=k'∨Ct q m k' = true:=by
 unfold Ct
 rw [Gt hq]
 by_cases h:k=k' <;> simp [h]
end
theorem I2 (a b:Int):BE a b=true↔a=b:=by simp [BE]
theorem I3 (a b:HD):A3 a b=true↔a=b:=by
 obtain⟨a1,a2⟩:=a
 obtain⟨b1,b2⟩:=b
 simp [A3]
theorem JK (a b:ByteArray):Di a b=true↔a=b:=by simp [Di]
def Lz (r:Aa):Prop:=0≤r.kind.n∧r.kind.n≤2
def Bv (v a:Aa):Bool:=decide (v.machine=a.machine) && (decide (v.seq=a.seq) && (decide (v.minute=a.minute) && (decide (v.kind.n=a.kind.n) && (decide (v.a=a.a) && (decide (v.b=a.b) && true)))))
theorem F5 {a c:Aa}:Bv a c=true↔a=c:=by
 obtain⟨a1,a2,a3,⟨a4⟩,a5,a6⟩:=a
 obtain⟨c1,c2,c3,⟨c4⟩,c5,c6⟩:=c
 simp [Bv]
theorem Yi {n:Nat} {l:List Aa} {v:Aa} (hl:l.length≤1000) (h:l.length<n):Co n l v=some (l.any (Bv v),()):=by
 have H:∀ (n i:Nat),l.length-i<n→i≤l.length→((l.drop i).any (Bv v)=false→Bk n l v (l.length:Int) (i:Int)=some (.inl (v,())))∧((l.drop i).any (Bv v)=true→∃ k:Nat,Bk n l v (l.length:Int) (i:Int)=some (.inr (v,((k:Int),())))):=by
  intro n
  induction n with
  | zero=>intro i h; exact absurd h (Zal _)
  | succ n ih =>
   intro i h hi
   rw [Bk]
   by_cases hx:i<l.length
   · have hd:l.drop i=l[i]::l.drop (i+1):=Zai hx
     rw [show decide ((i:Int)<(l.length:Int))=true by simp; omega,Zab,AO hx,Zaa,hd,wN i (by omega),Zbx]
     change ((Bv v l[i] || (l.drop (i+1)).any (Bv v))=false→(bif Bv v l[i] then _ else _)=_)∧((Bv v l[i] || (l.drop (i+1)).any (Bv v))=true→∃ k:Nat,(bif Bv v l[i] then _ else _)=_)
     cases Bv v l[i] with
     | true=>exact⟨(fun h=>by cases h),fun _=>⟨i,rfl⟩⟩
     | false=>simpa using ih (i+1) (by omega) (by omega)
   · have hd:l.drop i=[]:=by simp; omega
     rw [show decide ((i:Int)<(l.length:Int))=false by simp; omega,hd]
     exact⟨fun _=>rfl,fun h=>by cases h⟩
 obtain⟨h1,h2⟩:=H n 0 (by omega) (by omega)
 rw [show((0:Nat):Int)=0 from rfl,Zar] at h1 h2
 unfold Co Fs
 cases hc:l.any (Bv v) with
 | false=>rw [h1 hc]; rfl
 | true =>
  obtain⟨k,hk⟩:=h2 hc
  rw [hk]
  simp
def A2 (r:Aa):Bool:=BF r.machine 0 999 && (BF r.seq 1 9999 && (BF r.minute 0 1000000 && (bif decide (r.kind.n=0) then BF r.a 0 99 && BF r.b 0 10000 else bif decide (r.kind.n=1) then BF r.a 0 1000000 && decide (r.b=0) else BF r.a 0 9999 && BF r.b 0 10000000)))
theorem AcO (n:Nat) (r:Aa) (hk:Lz r):Cz n r=some (A2 r,()):=by
 obtain⟨hk0,hk1⟩:=hk
 have h4:r.kind.n=0∨r.kind.n=1∨r.kind.n=2:=by omega
 unfold Cz A2 BF
 obtain⟨machine,seq,minute,⟨k⟩,a,b⟩:=r
 simp only at h4 ⊢
 cases decide (0≤machine) with
 | false=>rfl
 | true =>
 cases decide (machine≤999) with
 | false=>rfl
 | true =>
 cases decide (1≤seq) with
 | false=>rfl
 | true =>
 cases decide (seq≤9999) with
 | false=>rfl
 | true =>
 cases decide (0≤minute) with
 | false=>rfl
 | true =>
 cases decide (minute≤1000000) with
 | false=>rfl
 | true =>
 rcases h4 with rfl | rfl | rfl
 · show(bif decide (0≤a) then(bif decide (a≤99) then(bif decide (0≤b) then(some (decide (b≤10000),())) else some (false,())) else some (false,())) else some (false,()))=_
   cases decide (0≤a) <;> cases decide (a≤99) <;> cases decide (0≤b) <;> simp
 · show(bif decide (0≤a) then(bif decide (a≤1000000) then(some (decide (b=0),())) else some (false,())) else some (false,()))=_
   cases decide (0≤a) <;> cases decide (a≤1000000) <;> simp
 · show(bif decide (0≤a) then(bif decide (a≤9999) then(bif decide (0≤b) then(some (decide (b≤10000000),())) else some (false,())) else some (false,())) else some (false,()))=_
   cases decide (0≤a) <;> cases decide (a≤9999) <;> cases decide (0≤b) <;> simp
theorem Et {α A B:Type} {F:Nat→Int→Option (A ⊕ B)} {G:Nat→Int→α→Option (A ⊕ B)} (l:List α) (p:α→Bool) (okv:A) (bad:Int→B) (N:Nat) (hl:l.length≤4000000000000000000)
  (hF:∀ n i,F (n+1) i=bif decide (i<(l.length:Int)) then(Ao l i).bind (G n i) else some (.inl okv))
  (hG:∀ n (i:Nat) (hi:i<l.length),N≤n→G n (i:Int) l[i]=bif p l[i] then F n (IntKind.i64.wrap ((i:Int)+1)) else some (.inr (bad (i:Int)))) {n:Nat} (hn:N+l.length<n) :
  (l.all p=true→F n 0=some (.inl okv))∧(l.all p=false→∃ k:Nat,F n 0=some (.inr (bad (k:Int)))):=by
 have key:=Vk (F:=fun n (_:Unit) i=>F n i) (l:=l) (N:=N) (T:=fun s i a=>bif p a then .inl s else .inr (.inr (bad (i:Int)))) (E:=fun _=>.inl okv)
  (B:=fun n _ i v0=>G n i v0) (fun _ _=>True) (fun n _ i=>hF n i) (fun n s i hi hN _=>by
   rw [hG n i hi hN]
   cases p l[i]
   · rfl
   · exact⟨rfl,trivial⟩) hl l.length () 0 n (by simp) (by omega) trivial
 rw [show((0:Nat):Int)=0 from rfl,Zar] at key
 obtain⟨h1,h2⟩:=WA (R:=A ⊕ B) p (fun i=>.inr (bad (i:Int))) (.inl okv) l 0
 exact⟨fun h=>by rw [key,h1 h],fun h=>by obtain⟨k,hk⟩:=h2 h; exact⟨k,by rw [key,hk]⟩⟩
def JL (lists:List (List Aa)):Int:=if 6<lists.length then 3 else bif lists.all (fun l=>decide (l.length≤60)) then(bif lists.all (fun l=>l.all A2) then 0 else 1) else 3
theorem Aa0 (lists:List (List Aa)):JL lists=0∨JL lists=1∨JL lists=3:=by
 unfold JL
 split
 · simp
 · cases lists.all (fun l=>decide (l.length≤60)) <;> cases lists.all (fun l=>l.all A2) <;> simp
theorem UJ {n:Nat} {l:List Aa} (hk:∀ r∈l,Lz r) (hl:l.length≤1000) (h:l.length<n) :
 (l.all A2=true→Bw n l (l.length:Int) 0=some (.inl ((((),()),()),())))∧(l.all A2=false→∃ k:Nat,Bw n l (l.length:Int) 0=some (.inr ((((),()),()),((k:Int),())))):=Et (F:=fun n i=>Bw n l (l.length:Int) i) (G:=fun n i v0=>(Cz n v0).bind fun v1=>bif !v1.fst then(some (.inr ((((),()),()),(i,())))) else Bw n l (l.length:Int) (IntKind.i64.wrap (i+1))) l A2 ((((),()),()),()) (fun i=>((((),()),()),(i,()))) 0 (by omega) (fun _ _=>rfl) (fun n i hi _=>by
 rw [AcO n _ (hk _ (Zav hi))]
 cases A2 l[i] <;> rfl) (n:=n) (by omega)
theorem UK {n:Nat} {lists:List (List Aa)} (hl:lists.length≤1000) (h:lists.length<n) :
 (lists.all (fun l=>decide (l.length≤60))=true→BI n lists (lists.length:Int) 0=some (.inl ((((),()),()),())))∧(lists.all (fun l=>decide (l.length≤60))=false→∃ k:Nat,BI n lists (lists.length:Int) 0=some (.inr ((((),()),()),((k:Int),())))):=Et (F:=fun n i=>BI n lists (lists.length:Int) i) (G:=fun n i v0=>bif !decide ((v0.length:Int)≤60) then(some (.inr ((((),()),()),(i,())))) else BI n lists (lists.length:Int) (IntKind.i64.wrap (i+1))) lists (fun l=>decide (l.length≤60)) ((((),()),()),()) (fun i=>((((),()),()),(i,()))) 0 (by omega) (fun _ _=>rfl) (fun n i hi _=>by
 have:decide ((lists[i].length:Int)≤60)=decide (lists[i].length≤60):=by
  by_cases h:lists[i].length≤60
  · rw [Zaf h]; exact Zaf (by omega)
  · rw [Zae h]; exact Zae (by omega)
 rw [this]
 cases decide (lists[i].length≤60) <;> rfl) (n:=n) (by omega)
theorem UN {n:Nat} {lists:List (List Aa)} (hk:∀ l∈lists,∀ r∈l,Lz r) (hl:lists.length≤1000) (hl2:∀ l∈lists,l.length≤1000) (h:1001+lists.length<n) :
 (lists.all (fun l=>l.all A2)=true→AQ n lists (lists.length:Int) 0=some (.inl ((((),()),()),())))∧(lists.all (fun l=>l.all A2)=false→∃ k:Nat,AQ n lists (lists.length:Int) 0=some (.inr ((((),()),()),((k:Int),())))):=Et (F:=fun n i=>AQ n lists (lists.length:Int) i) (G:=fun n i v0=>(Bw n v0 (v0.length:Int) 0).bind fun v1=>Sum.elim (fun v2=>AQ n lists (lists.length:Int) (IntKind.i64.wrap (i+1))) (fun v2=>bif !!decide (v2.snd.fst≥0) then(some (.inr ((((),()),()),(i,())))) else AQ n lists (lists.length:Int) (IntKind.i64.wrap (i+1))) (v1)) lists (fun l=>l.all A2) ((((),()),()),()) (fun i=>((((),()),()),(i,()))) 1001 (by omega) (fun _ _=>rfl) (fun n i hi hn=>by
 obtain⟨h1,h2⟩:=UJ (n:=n) (l:=lists[i]) (hk _ (Zav hi)) (hl2 _ (Zav hi)) (by have:=hl2 _ (Zav hi); omega)
 cases ha:lists[i].all A2 with
 | true=>rw [h1 ha]; rfl
 | false =>
  obtain⟨k,hk⟩:=h2 ha
  rw [hk]
  simp only [Zaa,Sum.elim_inr]
  rw [show decide ((k:Int)≥0)=true by simp]
  rfl) (n:=n) (by omega)
theorem Aa1 {n:Nat} {lists:List (List Aa)} (hk:∀ l∈lists,∀ r∈l,Lz r) (hl:lists.length≤1000) (hl2:∀ l∈lists,l.length≤1000) (h:1001+lists.length<n):GP n lists=some (JL lists,()):=by
 unfold GP JL
 by_cases h6:6<lists.length
 · rw [show decide ((lists.length:Int)>6)=true by simp; omega,if_pos h6]; rfl
 · rw [show decide ((lists.length:Int)>6)=false by simp; omega,if_neg h6,Za7,Zab]
   obtain⟨a1,a2⟩:=UK (n:=n) (lists:=lists) hl (by omega)
   obtain⟨b1,b2⟩:=UN (n:=n) hk hl hl2 h
   cases ha:lists.all (fun l=>decide (l.length≤60)) with
   | false =>
    obtain⟨k,hk⟩:=a2 ha
    rw [hk]
    simp only [Zaa,Sum.elim_inr]
    rw [show decide ((k:Int)≥0)=true by simp]
    rfl
   | true =>
    rw [a1 ha]
    simp only [Zaa,Za3]
    cases hb:lists.all (fun l=>l.all A2) with
    | false =>
     obtain⟨k,hk⟩:=b2 hb
     rw [hk]
     simp only [Zaa,Sum.elim_inr]
     rw [show decide ((k:Int)≥0)=true by simp]
     rfl
    | true=>rw [b1 hb]; rfl
def Nr:List (List Aa)→Nat
 | []=>0
 | l::r=>l.length+Nr r
theorem AbX:∀ (r:List (List Aa)),(∀ l∈r,l.length≤1000)→Nr r≤r.length*1000
 | [],_=>by simp [Nr]
 | l::r,h=>by
  have h1:=AbX r fun x hx=>h x (by simp [hx])
  have h2:=h l (by simp)
  simp only [Nr,Zau]
  omega
theorem Yj:∀ (r:List (List Aa)),r.flatten.length=Nr r
 | []=>rfl
 | l::r=>by simp [Nr,Yj r]
theorem O0 (full:List (List Aa)) (hl:full.length≤1000) (hl2:∀ l∈full,l.length≤1000):∀ (n i s:Nat),full.length-i<n→i≤full.length→s≤i*1000→IM n full (s:Int) full (full.length:Int) (i:Int)=some (full,(((s+Nr (full.drop i):Nat):Int),()))
 | 0,_,_,h,_,_=>absurd h (Zal _)
 | n+1,i,s,h,hi,hs=>by
  rw [IM]
  by_cases hx:i<full.length
  · have hd:full.drop i=full[i]::full.drop (i+1):=Zai hx
    have h2:=hl2 _ (Zav hx)
    have e:IntKind.i64.wrap ((s:Int)+(full[i].length:Int))=((s+full[i].length:Nat):Int):=by rw [BG (by omega) (by omega)]; omega
    rw [show decide ((i:Int)<(full.length:Int))=true by simp; omega,Zab,AO hx,Zaa,e,show decide (((s+full[i].length:Nat):Int)<0)=false from Zae (by omega),Zad,wN i (by omega),O0 full hl hl2 n (i+1) _ (by omega) (by omega) (by omega),hd]
    simp only [Nr]
    rw [Zbw]
  · have hd:full.drop i=[]:=by simp; omega
    rw [show decide ((i:Int)<(full.length:Int))=false by simp; omega,hd]
    simp [Nr]
theorem O1 (full:List (List Aa)) (hl:full.length≤1000) (hl2:∀ l∈full,l.length≤1000):∀ (n i:Nat)(acc:List Aa),full.length-i<n→i≤full.length→acc.length≤i*1000→IN n acc full (full.length:Int) (i:Int)=some (acc++(full.drop i).flatten,())
 | 0,_,_,h,_,_=>absurd h (Zal _)
 | n+1,i,acc,h,hi,hs=>by
  rw [IN]
  by_cases hx:i<full.length
  · have hd:full.drop i=full[i]::full.drop (i+1):=Zai hx
    have h2:=hl2 _ (Zav hx)
    rw [show decide ((i:Int)<(full.length:Int))=true by simp; omega,Zab,AO hx,Zaa,A1 (by omega),Zaa,wN i (by omega),O1 full hl hl2 n (i+1) _ (by omega) (by omega) (by simp; omega),hd,List.flatten_cons,Za6]
  · have hd:full.drop i=[]:=by simp; omega
    rw [show decide ((i:Int)<(full.length:Int))=false by simp; omega,hd]
    simp
theorem AcP {n:Nat} {lists:List (List Aa)} (hl:lists.length≤1000) (hl2:∀ l∈lists,l.length≤1000) (h:lists.length<n):RR n lists=some (lists.flatten,()):=by
 unfold RR
 have h1:=O0 lists hl hl2 n 0 0 (by omega) (by omega) (by omega)
 have h2:=O1 lists hl hl2 n 0 [] (by omega) (by omega) (by simp)
 have h3:=AbX lists hl2
 rw [show((0:Nat):Int)=0 from rfl] at h1 h2
 rw [Zar,Zaw] at h1
 rw [Zar,Zax] at h2
 rw [h1]
 simp only [Zaa]
 rw [show(decide ((0:Int)≤((Nr lists:Nat):Int)) && decide (((Nr lists:Nat):Int)≤1000000000))=true by simp; omega,Zab,Zaa,h2]
 rfl
def zR:Aa:=Aa.mk 0 0 0 (IK.mk 0) 0 0
def BH (r:Aa):HD:=HD.mk r.machine r.seq
def UB:List (HD×Aa)→List Aa→List Aa→Option (List Aa)
 | _,o,[]=>some o
 | m,o,r::l=>bif Ct A3 m (BH r) then(bif Bv (AG A3 m (BH r) zR) r then UB m o l else none) else UB (FY A3 m (BH r) r) (o++[r]) l
theorem O2 (full:List Aa) (hl:full.length≤1000000):∀ (n i:Nat)(m:List (HD×Aa))(o:List Aa),full.length-i<n→i≤full.length→o.length≤i→match UB m o (full.drop i) with
  | some o'=>∃ m',Bo n m o full (full.length:Int) (i:Int)=some (.inl (m',(o',())))
  | none=>∃ m',Bo n m o full (full.length:Int) (i:Int)=some (.inr (m',([],(6,()))))
 | 0,_,_,_,h,_,_=>absurd h (Zal _)
 | n+1,i,m,o,h,hi,ho=>by
  rw [Bo]
  by_cases hx:i<full.length
  · have hd:full.drop i=full[i]::full.drop (i+1):=Zai hx
    rw [show decide ((i:Int)<(full.length:Int))=true by simp; omega,Zab,AO hx,Zaa,hd,wN i (by omega)]
    have ih:=fun m o=>O2 full hl n (i+1) m o (by omega) (by omega)
    have happ:app o [full[i]]=some (o++[full[i]]):=A1 (by simp; omega)
    unfold UB
    change match (bif Ct A3 m (BH full[i]) then(bif Bv (AG A3 m (BH full[i]) zR) full[i] then UB m o (full.drop (i+1)) else none) else UB (FY A3 m (BH full[i]) full[i]) (o++[full[i]]) (full.drop (i+1))) with
     | some o'=>∃ m',(bif Ct A3 m (BH full[i]) then(bif !Bv (AG A3 m (BH full[i]) zR) full[i] then _ else(bif !Ct A3 m (BH full[i]) then _ else _)) else(bif !Ct A3 m (BH full[i]) then _ else _))=_
     | none=>∃ m',(bif Ct A3 m (BH full[i]) then(bif !Bv (AG A3 m (BH full[i]) zR) full[i] then _ else(bif !Ct A3 m (BH full[i]) then _ else _)) else(bif !Ct A3 m (BH full[i]) then _ else _))=_
    cases hm:Ct A3 m (BH full[i]) with
    | true =>
     cases Bv (AG A3 m (BH full[i]) zR) full[i] with
     | true =>
      simp only [Zab,ZaC,Zad]
      exact ih m o (by omega)
     | false=>exact⟨m,rfl⟩
    | false =>
     simp only [Zab,Za7,Zad]
     rw [happ]
     simp only [Zaa]
     exact ih _ _ (by simp; omega)
  · have hd:full.drop i=[]:=by simp; omega
    rw [show decide ((i:Int)<(full.length:Int))=false by simp; omega,hd]
    exact⟨m,rfl⟩
def Ae8 (a b:Aa):Bool:=decide (a.machine=b.machine) && decide (a.minute>b.minute)
def Ns:List Aa→Bool
 | a::b::r=>!Ae8 a b && Ns (b::r)
 | _=>true
theorem O3 (full:List Aa) (hl:full.length≤1000000):∀ (n i:Nat),full.length-i<n→i≤full.length→BZ n full (full.length:Int) (i:Int)=some (bif Ns (full.drop (i-1)) then .inl (full,()) else .inr ([],(6,())))
 | 0,_,h,_=>absurd h (Zal _)
 | n+1,i,h,hi=>by
  rw [BZ]
  by_cases hx:i<full.length
  · rw [show decide ((i:Int)<(full.length:Int))=true by simp; omega,Zab,AO hx,Zaa,show((i:Nat):Int).toNat=i from rfl,W7 hx,Zaa,wN i (by omega)]
    have ih:=O3 full hl n (i+1) (by omega) (by omega)
    rw [show i+1-1=i by omega] at ih
    by_cases h0:i=0
    · subst h0
      rw [show decide (((0:Nat):Int)>0)=false from rfl,Zad,ih]
    · have hx1:i-1<full.length:=by omega
      have e:IntKind.i64.wrap ((i:Int)-1)=((i-1:Nat):Int):=by rw [BG (by omega) (by omega)]; omega
      rw [show decide ((i:Int)>0)=true from Zaf (by omega),Zab,e,AO hx1,Zaa,show((i-1:Nat):Int).toNat=i-1 from rfl,W7 hx1,Zaa]
      simp only [Zaa]
      have hd:full.drop (i-1)=full[i-1]::full[i]::full.drop (i+1):=by
       rw [Zai hx1,show i-1+1=i by omega,Zai hx]
      have hd2:full.drop i=full[i]::full.drop (i+1):=Zai hx
      rw [hd2] at ih
      rw [hd,ih]
      simp only [Ns,Ae8]
      cases decide (full[i-1].machine=full[i].machine) <;> cases decide (full[i-1].minute>full[i].minute) <;> simp
  · have hi':i=full.length:=by omega
    rw [show decide ((i:Int)<(full.length:Int))=false by simp; omega,Zad]
    have:Ns (full.drop (i-1))=true:=by
     rcases Zbi full.length with h0 | h0
     · have:full=[]:=Zby.1 h0
       subst this
       simp [Ns]
     · have hx1:i-1<full.length:=by omega
       rw [Zai hx1,show i-1+1=full.length by omega,List.drop_length]
       rfl
    rw [this]; rfl
theorem Vp {α:Type} (eq:α→α→Bool) (x:α):∀ l,DJ eq (l++[x])=(DJ eq l && !l.any (fun a=>eq a x))
 | []=>by simp [DJ]
 | y::r=>by
  rw [ZaQ,DJ,DJ,Vp eq x r,List.any_append,Zbx]
  simp only [Zbx,List.any_nil,Bool.or_false]
  cases r.any (eq y) <;> cases eq y x <;> cases DJ eq r <;> cases r.any (fun a=>eq a x) <;> rfl
def Ajl (a b:Aa):Bool:=a.machine == b.machine && a.seq == b.seq
theorem AgZ {a b:Aa}:Ajl a b=true↔BH a=BH b:=by simp [Ajl,BH]
theorem RZ:∀ (l:List Aa)(m:List (HD×Aa))(o o':List Aa),UB m o l=some o'→(∀ a∈o,Ct A3 m (BH a)=true)→DJ Ajl o=true→DJ Ajl o' = true
 | [],m,o,o',h,_,hd=>by cases h; exact hd
 | r::l,m,o,o',h,hm,hd=>by
  unfold UB at h
  cases hr:Ct A3 m (BH r) with
  | true =>
   rw [hr,Zab] at h
   cases hs:Bv (AG A3 m (BH r) zR) r with
   | true=>rw [hs,Zab] at h; exact RZ l m o o' h hm hd
   | false=>rw [hs] at h; cases h
  | false =>
   rw [hr,Zad] at h
   refine RZ l _ _ o' h (fun a ha=>?_) ?_
   · rw [JJ I3]
     rcases Zao.1 ha with ha | ha
     · exact .inr (hm a ha)
     · rw [Zat.1 ha]; exact .inl rfl
   · rw [Vp,hd,ZaF]
     have:o.any (fun a=>Ajl a r)=false:=by
      rw [Zb9]
      intro a ha he
      have:=hm a ha
      rw [AgZ.1 he,hr] at this; cases this
     rw [this]; rfl
theorem WE:∀ (l:List Aa)(m:List (HD×Aa))(o o':List Aa),UB m o l=some o'→∀ a∈o',a∈o∨a∈l
 | [],m,o,o',h=>by cases h; exact fun a ha=>.inl ha
 | r::l,m,o,o',h=>by
  unfold UB at h
  cases hr:Ct A3 m (BH r) with
  | true =>
   rw [hr,Zab] at h
   cases hs:Bv (AG A3 m (BH r) zR) r with
   | true =>
    rw [hs,Zab] at h
    intro a ha
    rcases WE l m o o' h a ha with h' | h'
    · exact .inl h'
    · exact .inr (by simp [h'])
   | false=>rw [hs] at h; cases h
  | false =>
   rw [hr,Zad] at h
   intro a ha
   rcases WE l _ _ o' h a ha with h' | h'
   · rcases Zao.1 h' with h' | h'
     · exact .inl h'
     · exact .inr (by rw [Zat.1 h']; simp)
   · exact .inr (by simp [h'])
theorem WF:∀ (l:List Aa)(m:List (HD×Aa))(o o':List Aa),UB m o l=some o'→o'.length≤o.length+l.length
 | [],m,o,o',h=>by cases h; simp
 | r::l,m,o,o',h=>by
  unfold UB at h
  cases hr:Ct A3 m (BH r) with
  | true =>
   rw [hr,Zab] at h
   cases hs:Bv (AG A3 m (BH r) zR) r with
   | true =>
    rw [hs,Zab] at h
    have:=WF l m o o' h
    simp; omega
   | false=>rw [hs] at h; cases h
  | false =>
   rw [hr,Zad] at h
   have:=WF l _ _ o' h
   simp at this ⊢; omega
theorem JM {α:Type}:∀ (l:List α),Bm l=l.length
 | []=>rfl
 | a::l=>by simp [Bm,JM l]
theorem Aha {o:List Aa} (hl:o.length≤1000000) (hr:∀ a∈o,A2 a=true) (hd:DJ Ajl o=true):AdS o=some (Eo HL o):=by
 unfold AdS
 have h1:Nat.blt (Bm o) 4611686018427387904=true:=by rw [JM]; exact Za2 (by omega)
 have h2:o.all (fun a=>XF a.machine && XF a.seq)=true:=by
  rw [Za9]
  intro a ha
  have:=hr a ha
  unfold A2 at this
  simp only [Zan,Bx] at this
  simp [XF]; omega
 have h3:DJ (fun a b:Aa=>a.machine == b.machine && a.seq == b.seq) o=true:=hd
 rw [h1,h2,h3]; rfl
def Ic (lists:List (List Aa)):Int ⊕ List Aa :=
 if JL lists≠0 then .inl (JL lists) else match UB [] [] lists.flatten with
  | none=>.inl 6
  | some o=>bif Ns (Eo HL o) then .inr (Eo HL o) else .inl 6
theorem Yk {lists:List (List Aa)} {e:Int} (h:Ic lists=.inl e):e=1∨e=3∨e=6:=by
 unfold Ic at h
 have:=Aa0 lists
 split at h
 · cases h; omega
 · split at h
   · cases h; simp
   · rename_i o _
     cases ho:Ns (Eo HL o) with
     | true=>rw [ho] at h; cases h
     | false=>rw [ho] at h; cases h; simp
theorem AcQ {lists:List (List Aa)} (h:JL lists=0):lists.length≤6∧(∀ l∈lists,l.length≤60)∧∀ l∈lists,∀ r∈l,A2 r=true:=by
 unfold JL at h
 split at h
 · omega
 · rename_i h6
   cases ha:lists.all (fun l=>decide (l.length≤60)) with
   | false=>rw [ha] at h; simp at h
   | true =>
    rw [ha,Zab] at h
    cases hb:lists.all (fun l=>l.all A2) with
    | false=>rw [hb] at h; simp at h
    | true=>exact⟨by omega,fun l hl=>by simpa using Za9.1 ha l hl,fun l hl=>Za9.1 (Za9.1 hb l hl)⟩
theorem Vq {n:Nat} {lists:List (List Aa)} (hk:∀ l∈lists,∀ r∈l,Lz r) (hl:lists.length≤1000) (hl2:∀ l∈lists,l.length≤1000) (h:1001+lists.length<n):EH n lists=some (match Ic lists with | .inl e=>([],(e,())) | .inr s=>(s,(0,()))):=by
 unfold EH Ic
 rw [Aa1 hk hl hl2 h,Zaa]
 simp only
 by_cases hc:JL lists=0
 · rw [hc,show((0:Int) != 0)=false from rfl,Zad,if_neg (by simp)]
   obtain⟨h6,h60,hR⟩:=AcQ hc
   have hs:Nr lists≤360:=by
    have H:∀ (r:List (List Aa)),(∀ l∈r,l.length≤60)→Nr r≤r.length*60:=by
     intro r
     induction r with
     | nil=>intro _; simp [Nr]
     | cons l r ih =>
      intro h
      have h1:=ih fun x hx=>h x (by simp [hx])
      have h2:=h l (by simp)
      simp only [Nr,Zau]
      omega
    have:=H lists h60
    omega
   have hfl:=Yj lists
   rw [AcP hl hl2 (by omega),Zaa]
   simp only
   have h1:=O2 lists.flatten (by omega) n 0 [] [] (by omega) (by omega) (by simp)
   rw [show((0:Nat):Int)=0 from rfl,Zar] at h1
   cases hm:UB [] [] lists.flatten with
   | none =>
    rw [hm] at h1
    obtain⟨m',e⟩:=h1
    rw [e]; rfl
   | some o =>
    rw [hm] at h1
    obtain⟨m',e⟩:=h1
    have hol:o.length≤360:=by
     have:=WF _ _ _ _ hm
     rw [ZaV,Zaw] at this
     omega
    have hod:=RZ _ _ _ _ hm (by simp) rfl
    have hos:=WE _ _ _ _ hm
    have hor:∀ a∈o,A2 a=true:=fun a ha=>by
     rcases hos a ha with h' | h'
     · simp at h'
     · obtain⟨l,hl1,hl2⟩:=List.mem_flatten.1 h'
       exact hR l hl1 a hl2
    have hsl:(Eo HL o).length=o.length:=JG _ _
    have h2:=O3 (Eo HL o) (by omega) n 0 (by omega) (by omega)
    rw [show((0:Nat):Int)=0 from rfl,Zar] at h2
    rw [e]
    simp only [Zaa,Za3]
    rw [Aha (by omega) hor hod]
    simp only [Zaa]
    rw [h2]
    cases Ns (Eo HL o) <;> rfl
 · rw [show(JL lists != 0)=true by simpa using hc,Zab,if_pos hc]
def HN (lists:List (List Aa)):Int:=match Ic lists with
 | .inl e=>e
 | .inr s=>if 60<s.length then 3 else 0
theorem Ae9 {n:Nat} {lists:List (List Aa)} (hk:∀ l∈lists,∀ r∈l,Lz r) (hl:lists.length≤1000) (hl2:∀ l∈lists,l.length≤1000) (h:1001+lists.length<n):∃ x,Im n lists=some (x,(HN lists,())):=by
 unfold Im HN
 rw [Vq hk hl hl2 h,Zaa]
 cases hm:Ic lists with
 | inl e =>
  have:=Yk hm
  simp only
  rw [show(e != 0)=true by simp; omega]
  exact⟨_,rfl⟩
 | inr s =>
  simp only
  rw [show((0:Int) != 0)=false from rfl,Zad]
  by_cases h60:60<s.length
  · rw [show decide ((s.length:Int)>60)=true from Zaf (by omega),if_pos h60]; exact⟨_,rfl⟩
  · rw [show decide ((s.length:Int)>60)=false from Zae (by omega),if_neg h60]; exact⟨_,rfl⟩
def wkOk (w:Ai):Prop:=w.days=7∧w.rest=600∧w.run=5∧w.hours=3000∧w.duties.length≤13∧w.drivers.length≤7∧∀ d∈w.drivers,∃ k off,d=AJ.mk [k] [] [] off 0 0
def G5 (d:AA):Bool:=BF d.day 0 6 && (BF d.on 0 1439 && (decide (d.on≤d.off.lo) && (decide (d.off.lo≤d.off.hi) && (decide (d.off.hi≤d.on+1440) && BF d.route 0 15))))
def Nt (d:AJ):Bool:=(d.knows.all fun k=>BF k 0 15) && BF d.off (-10080) 1440
theorem Ahb (n:Nat) (w:Ai) (d:AA) (hw:w.days=7):D3 n w d=some (G5 d,()):=by
 unfold D3 G5 BF
 rw [hw,show IntKind.i64.wrap (7-1)=6 from rfl]
 cases decide (0≤d.day) with
 | false=>rfl
 | true =>
 cases decide (d.day≤6) with
 | false=>rfl
 | true =>
 by_cases h0:0≤d.on
 · by_cases h1:d.on≤1439
   · rw [Zaf h0,Zaf h1,BG (x:=d.on+1440) (by omega) (by omega)]
     cases decide (d.on≤d.off.lo) <;> cases decide (d.off.lo≤d.off.hi) <;> cases decide (d.off.hi≤d.on+1440) <;> cases decide (0≤d.route) <;> simp
   · rw [Zaf h0,Zae h1]; rfl
 · rw [Zae h0]; rfl
theorem AcR (n:Nat) (k lo hi:Int):EI (n+2) [k] lo hi=some (BF k lo hi,()):=by
 show((bif decide (lo≤k) then(bif !!decide (k≤hi) then _ else some (.inr (false,()))) else some (.inr (false,()))):Option (Unit ⊕ ((Bool×Unit)))).bind _=_
 unfold BF
 cases decide (lo≤k) <;> cases decide (k≤hi) <;> rfl
theorem AcS (n:Nat) (lo hi:Int):EI (n+1) [] lo hi=some (true,()):=rfl
theorem AcT (n:Nat) (w:Ai) (d:AJ) (hw:w.days=7) (hh:w.hours=3000) (hd:∃ k off,d=AJ.mk [k] [] [] off 0 0):C2 (n+2) w d=some (Nt d,()):=by
 obtain⟨k,off,rfl⟩:=hd
 unfold C2 Nt
 rw [hw,hh,AcR]
 simp only [Zaa,AcS]
 simp only [ZaP,List.all_nil,Zb1]
 unfold BF
 cases (decide (0≤k) && decide (k≤15)) <;> cases decide (-10080≤off) <;> cases decide (off≤1440) <;> rfl
def AP (w:Ai):Int:=if 12<w.duties.length then 3 else if 6<w.drivers.length then 3 else bif w.duties.all G5 then(bif w.drivers.all Nt then 0 else 1) else 1
theorem Aa2 {n:Nat} {w:Ai} (hw:wkOk w) (h:20<n) :
  (w.duties.all G5=true→AS n w.duties w (w.duties.length:Int) 0=some (.inl ((((w,()),()),()),())))∧(w.duties.all G5=false→∃ k:Nat,AS n w.duties w (w.duties.length:Int) 0=some (.inr ((((w,()),()),()),((k:Int),())))) :=
 Et (F:=fun n i=>AS n w.duties w (w.duties.length:Int) i) (G:=fun n i v0=>(D3 n w v0).bind fun v1=>bif !v1.fst then(some (.inr ((((w,()),()),()),(i,())))) else AS n w.duties w (w.duties.length:Int) (IntKind.i64.wrap (i+1))) w.duties G5 ((((w,()),()),()),()) (fun i=>((((w,()),()),()),(i,()))) 0 (by have:=hw.2.2.2.2.1; omega) (fun _ _=>rfl) (fun n i hi _=>by
  rw [Ahb n w _ hw.1]
  cases G5 w.duties[i] <;> rfl) (n:=n) (by have:=hw.2.2.2.2.1; omega)
theorem Aa3 {n:Nat} {w:Ai} (hw:wkOk w) (h:20<n) :
  (w.drivers.all Nt=true→AT n w.drivers w (w.drivers.length:Int) 0=some (.inl ((((w,()),()),()),())))∧(w.drivers.all Nt=false→∃ k:Nat,AT n w.drivers w (w.drivers.length:Int) 0=some (.inr ((((w,()),()),()),((k:Int),())))) :=
 Et (F:=fun n i=>AT n w.drivers w (w.drivers.length:Int) i) (G:=fun n i v0=>(C2 n w v0).bind fun v1=>bif !v1.fst then(some (.inr ((((w,()),()),()),(i,())))) else AT n w.drivers w (w.drivers.length:Int) (IntKind.i64.wrap (i+1))) w.drivers Nt ((((w,()),()),()),()) (fun i=>((((w,()),()),()),(i,()))) 2 (by have:=hw.2.2.2.2.2.1; omega) (fun _ _=>rfl) (fun n i hi hn=>by
  obtain⟨m,rfl⟩:∃ m,n=m+2:=⟨n-2,by omega⟩
  rw [AcT m w _ hw.1 hw.2.2.2.1 (hw.2.2.2.2.2.2 _ (Zav hi))]
  cases Nt w.drivers[i] <;> rfl) (n:=n) (by have:=hw.2.2.2.2.2.1; omega)
theorem Kp {n:Nat} {w:Ai} (hw:wkOk w) (h:20<n):Cp n w=some (AP w,()):=by
 unfold Cp AP
 have hw':=hw
 obtain⟨h1,h2,h3,h4,_⟩:=hw'
 rw [h1,h2,h3,h4]
 by_cases h12:12<w.duties.length
 · rw [show decide ((w.duties.length:Int)>12)=true from Zaf (by omega),if_pos h12]; rfl
 · rw [show decide ((w.duties.length:Int)>12)=false from Zae (by omega),if_neg h12]
   by_cases h6:6<w.drivers.length
   · rw [show decide ((w.drivers.length:Int)>6)=true from Zaf (by omega),if_pos h6]; rfl
   · rw [show decide ((w.drivers.length:Int)>6)=false from Zae (by omega),if_neg h6]
     obtain⟨a1,a2⟩:=Aa2 hw h
     obtain⟨b1,b2⟩:=Aa3 hw h
     show(AS n w.duties w (w.duties.length:Int) 0).bind _=_
     cases ha:w.duties.all G5 with
     | false =>
      obtain⟨k,hk⟩:=a2 ha
      rw [hk]
      simp only [Zaa,Sum.elim_inr]
      rw [show decide ((k:Int)≥0)=true by simp]
      rfl
     | true =>
      rw [a1 ha]
      simp only [Zaa,Za3]
      cases hb:w.drivers.all Nt with
      | false =>
       obtain⟨k,hk⟩:=b2 hb
       rw [hk]
       simp only [Zaa,Sum.elim_inr]
       rw [show decide ((k:Int)≥0)=true by simp]
       rfl
      | true=>rw [b1 hb]; rfl
abbrev R2 (x:Int):Int:=IntKind.i64.wrap x
def Ie:Aj:=Aj.mk 0 0 0 0
def Hh (s:Aj) (d:AA) (e:Int):Aj :=
 bif decide (s.day=d.day) then Aj.mk s.free s.row (R2 (s.used+R2 (e-d.on))) s.day else
 bif s.day != R2 (d.day-1) then Aj.mk (R2 (R2 (d.day*1440)+e)) (R2 (0+1)) (R2 (s.used+R2 (e-d.on))) d.day else
 Aj.mk (R2 (R2 (d.day*1440)+e)) (R2 (s.row+1)) (R2 (s.used+R2 (e-d.on))) d.day
theorem AbY (n:Nat) (s:Aj) (d:AA) (e:Int):CY n s d e=some (Hh s d e,()):=by
 unfold CY Hh
 cases decide (s.day=d.day)
 · cases s.day != IntKind.i64.wrap (d.day-1) <;> rfl
 · rfl
def Ff (w:Ai) (k:Int) (d:AA) (s:Aj):Nat→Bool
 | 0=>match Ao w.drivers k with
  | some v=>v.knows.any fun x=>decide (d.route=x)
  | none=>true
 | 1=>true
 | 2=>s.day != d.day
 | 3=>bif !decide (s.day=d.day) then decide (R2 (R2 (R2 (d.day*1440)+d.on)-s.free)≥w.rest) else true
 | _=>bif !decide (s.day=d.day) then decide ((Hh s d d.on).row≤w.run) else true
theorem AeA {n:Nat} {w:Ai} {k:Int} {d:AA} {s:Aj} {v:AJ} (hv:Ao w.drivers k=some v) (hk:∃ x off,v=AJ.mk [x] [] [] off 0 0):CX (n+2) w k d s=some (Ff w k d s 0,()):=by
 obtain⟨x,off,rfl⟩:=hk
 unfold CX Ff
 rw [hv]
 show((bif decide (d.route=x) then some (.inr (0,())) else some (.inl ()):Option (Unit ⊕ (Int×Unit))).bind _)=_
 simp only [Zbx,List.any_nil,Bool.or_false]
 cases decide (d.route=x) <;> rfl
theorem Ahc {n:Nat} {w:Ai} {k:Int} {d:AA} {s:Aj} {v:AJ} (hv:Ao w.drivers k=some v) (hk:∃ x off,v=AJ.mk [x] [] [] off 0 0):D5 (n+1) w k d s=some (Ff w k d s 1,()):=by
 obtain⟨x,off,rfl⟩:=hk
 unfold D5 Ff
 rw [hv]; rfl
theorem AcU {n:Nat} {w:Ai} {k:Int} {d:AA} {s:Aj}:DV n w k d s=some (Ff w k d s 2,()):=rfl
theorem AcV {n:Nat} {w:Ai} {k:Int} {d:AA} {s:Aj}:C3 n w k d s=some (Ff w k d s 3,()):=by
 unfold C3
 show _=some ((bif !decide (s.day=d.day) then decide (R2 (R2 (R2 (d.day*1440)+d.on)-s.free)≥w.rest) else true),())
 cases decide (s.day=d.day) <;> rfl
theorem AeB {n:Nat} {w:Ai} {k:Int} {d:AA} {s:Aj}:CZ n w k d s=some (Ff w k d s 4,()):=by
 unfold CZ
 show _=some ((bif !decide (s.day=d.day) then decide ((Hh s d d.on).row≤w.run) else true),())
 rw [AbY]
 cases decide (s.day=d.day) <;> rfl
def RK (w:Ai) (k i:Int) (d:AA) (s:Aj) (j:Nat):List Ah:=bif Ff w k d s j then [] else [Ah.mk (IK.mk (j:Int)) k i]
def Jz (w:Ai) (k i:Int) (d:AA) (s:Aj):List Ah:=RK w k i d s 0++(RK w k i d s 1++(RK w k i d s 2++(RK w k i d s 3++RK w k i d s 4)))
abbrev UO:List AN:=[AN.mk (IK.mk 0) (Fp.mk (↑238:Int)),AN.mk (IK.mk 1) (Fp.mk (↑239:Int)),AN.mk (IK.mk 2) (Fp.mk (↑240:Int)),AN.mk (IK.mk 3) (Fp.mk (↑241:Int)),AN.mk (IK.mk 4) (Fp.mk (↑242:Int))]
section
variable {w:Ai} {truth:List Int} {now:List Aj} {i k:Int} {d:AA} {s:Aj} {v:AJ}
theorem Aju {n:Nat} {out:List Ah} (h6:now.length.beq 6=true) (hn:Ao now k=some s) (hg:now.get?Internal k.toNat=some s) (hv:Ao w.drivers k=some v) (hk:∃ x off,v=AJ.mk [x] [] [] off 0 0) (ho:out.length≤1000) :
  Ac (n+3) w truth out now i d k UO 5 0=Ac (n+2) w truth (out++RK w k i d s 0) now i d k UO 5 1:=by
 rw [Ac]
 show(bif now.length.beq 6 then((Ao now k).bind fun v2=>(now.get?Internal k.toNat).bind fun v3=>((CX (n+2) w k d v3).bind fun v4=>bif !v4.fst then((app out [Ah.mk (IK.mk 0) k i]).bind fun v5=>Ac (n+2) w truth v5 now i d k UO 5 1) else Ac (n+2) w truth out now i d k UO 5 1)) else none)=_
 rw [h6,Zab,hn,Zaa,hg,Zaa,AeA hv hk,Zaa,A1 (by simp; omega)]
 unfold RK
 cases Ff w k d s 0 <;> simp
theorem Ajv {n:Nat} {out:List Ah} (h6:now.length.beq 6=true) (hn:Ao now k=some s) (hg:now.get?Internal k.toNat=some s) (hv:Ao w.drivers k=some v) (hk:∃ x off,v=AJ.mk [x] [] [] off 0 0) (ho:out.length≤1000) :
  Ac (n+3) w truth out now i d k UO 5 1=Ac (n+2) w truth (out++RK w k i d s 1) now i d k UO 5 2:=by
 rw [Ac]
 show(bif now.length.beq 6 then((Ao now k).bind fun v2=>(now.get?Internal k.toNat).bind fun v3=>((D5 (n+2) w k d v3).bind fun v4=>bif !v4.fst then((app out [Ah.mk (IK.mk 1) k i]).bind fun v5=>Ac (n+2) w truth v5 now i d k UO 5 2) else Ac (n+2) w truth out now i d k UO 5 2)) else none)=_
 rw [h6,Zab,hn,Zaa,hg,Zaa,Ahc hv hk,Zaa,A1 (by simp; omega)]
 unfold RK
 cases Ff w k d s 1 <;> simp
theorem Ajw {n:Nat} {out:List Ah} (h6:now.length.beq 6=true) (hn:Ao now k=some s) (hg:now.get?Internal k.toNat=some s) (hv:Ao w.drivers k=some v) (hk:∃ x off,v=AJ.mk [x] [] [] off 0 0) (ho:out.length≤1000) :
  Ac (n+3) w truth out now i d k UO 5 2=Ac (n+2) w truth (out++RK w k i d s 2) now i d k UO 5 3:=by
 rw [Ac]
 show(bif now.length.beq 6 then((Ao now k).bind fun v2=>(now.get?Internal k.toNat).bind fun v3=>((DV (n+2) w k d v3).bind fun v4=>bif !v4.fst then((app out [Ah.mk (IK.mk 2) k i]).bind fun v5=>Ac (n+2) w truth v5 now i d k UO 5 3) else Ac (n+2) w truth out now i d k UO 5 3)) else none)=_
 rw [h6,Zab,hn,Zaa,hg,Zaa,AcU,Zaa,A1 (by simp; omega)]
 unfold RK
 cases Ff w k d s 2 <;> simp
theorem Ajx {n:Nat} {out:List Ah} (h6:now.length.beq 6=true) (hn:Ao now k=some s) (hg:now.get?Internal k.toNat=some s) (hv:Ao w.drivers k=some v) (hk:∃ x off,v=AJ.mk [x] [] [] off 0 0) (ho:out.length≤1000) :
  Ac (n+3) w truth out now i d k UO 5 3=Ac (n+2) w truth (out++RK w k i d s 3) now i d k UO 5 4:=by
 rw [Ac]
 show(bif now.length.beq 6 then((Ao now k).bind fun v2=>(now.get?Internal k.toNat).bind fun v3=>((C3 (n+2) w k d v3).bind fun v4=>bif !v4.fst then((app out [Ah.mk (IK.mk 3) k i]).bind fun v5=>Ac (n+2) w truth v5 now i d k UO 5 4) else Ac (n+2) w truth out now i d k UO 5 4)) else none)=_
 rw [h6,Zab,hn,Zaa,hg,Zaa,AcV,Zaa,A1 (by simp; omega)]
 unfold RK
 cases Ff w k d s 3 <;> simp
theorem Ajy {n:Nat} {out:List Ah} (h6:now.length.beq 6=true) (hn:Ao now k=some s) (hg:now.get?Internal k.toNat=some s) (hv:Ao w.drivers k=some v) (hk:∃ x off,v=AJ.mk [x] [] [] off 0 0) (ho:out.length≤1000) :
  Ac (n+3) w truth out now i d k UO 5 4=Ac (n+2) w truth (out++RK w k i d s 4) now i d k UO 5 5:=by
 rw [Ac]
 show(bif now.length.beq 6 then((Ao now k).bind fun v2=>(now.get?Internal k.toNat).bind fun v3=>((CZ (n+2) w k d v3).bind fun v4=>bif !v4.fst then((app out [Ah.mk (IK.mk 4) k i]).bind fun v5=>Ac (n+2) w truth v5 now i d k UO 5 5) else Ac (n+2) w truth out now i d k UO 5 5)) else none)=_
 rw [h6,Zab,hn,Zaa,hg,Zaa,AeB,Zaa,A1 (by simp; omega)]
 unfold RK
 cases Ff w k d s 4 <;> simp
theorem AbZ (j:Nat):(RK w k i d s j).length≤1:=by
 unfold RK
 cases Ff w k d s j <;> simp
theorem Ajz {n:Nat} {out:List Ah} (h6:now.length.beq 6=true) (hn:Ao now k=some s) (hg:now.get?Internal k.toNat=some s) (hv:Ao w.drivers k=some v) (hk:∃ x off,v=AJ.mk [x] [] [] off 0 0) (ho:out.length≤900) :
  Ac (n+10) w truth out now i d k UO 5 0=some (w,((truth,()),((out++Jz w k i d s,()),(now,(d,((),((),(i,((),(k,())))))))))):=by
 have b:=fun j=>AbZ (w:=w) (i:=i) (k:=k) (d:=d) (s:=s) j
 have b0:=b 0; have b1:=b 1; have b2:=b 2; have b3:=b 3
 rw [show n+10=(n+7)+3 by omega,Aju h6 hn hg hv hk (by omega),show n+7+2=(n+6)+3 by omega,Ajv h6 hn hg hv hk (by simp; omega),show n+6+2=(n+5)+3 by omega,Ajw h6 hn hg hv hk (by simp; omega),show n+5+2=(n+4)+3 by omega,Ajx h6 hn hg hv hk (by simp; omega),show n+4+2=(n+3)+3 by omega,Ajy h6 hn hg hv hk (by simp; omega)]
 rw [Ac]
 simp only [Jz,Za6]
 rfl
end
def CQ (w:Ai) (roster:List Int) (day:Int) (st:List Ah×List Aj) (i:Nat) (d:AA):List Ah×List Aj :=
 bif decide (d.day=day) then(bif decide (roster.getD i (-1)=-1) then st else
  (st.1++Jz w (roster.getD i (-1)) (i:Int) d (st.2.getD (roster.getD i (-1)).toNat Ie),st.2.set (roster.getD i (-1)).toNat (Hh (st.2.getD (roster.getD i (-1)).toNat Ie) d d.off.hi))) else st
def CH (w:Ai) (roster:List Int) (day:Int):Nat→List Ah×List Aj→List AA→List Ah×List Aj
 | _,st,[]=>st
 | i,st,d::r=>CH w roster day (i+1) (CQ w roster day st i d) r
def Dr (w:Ai) (roster:List Int):Prop:=roster.length=w.duties.length∧∀ x∈roster,-1≤x∧x<(w.drivers.length:Int)
theorem Yl (w:Ai) (k i:Int) (d:AA) (s:Aj):(Jz w k i d s).length≤5:=by
 have b:=fun j=>AbZ (w:=w) (i:=i) (k:=k) (d:=d) (s:=s) j
 have b0:=b 0; have b1:=b 1; have b2:=b 2; have b3:=b 3; have b4:=b 4
 simp only [Jz,Zaj]
 omega
theorem Aij {w:Ai} {roster truth:List Int} (hw:wkOk w) (h6d:w.drivers.length≤6) (hro:Dr w roster) (htr:truth=w.duties.map fun d=>d.off.hi) (day:Int):∀ (n i:Nat)(st:List Ah×List Aj),100+(w.duties.length-i)<n→i≤w.duties.length→st.1.length≤500+i*5→st.2.length=6 →
  AV n w roster truth st.1 st.2 day w.duties (w.duties.length:Int) (i:Int)=some (.inl ((w,((roster,()),((truth,()),(((CH w roster day i st (w.duties.drop i)).1,()),((CH w roster day i st (w.duties.drop i)).2,()))))),((),((),((),((),((),((day,()),()))))))))
 | 0,_,_,h,_,_,_=>absurd h (Zal _)
 | n+1,i,st,h,hi,ho,hs=>by
  have hwl:=hw.2.2.2.2.1
  rw [AV]
  by_cases hx:i<w.duties.length
  · have hd:w.duties.drop i=w.duties[i]::w.duties.drop (i+1):=Zai hx
    have ih:=Aij hw h6d hro htr day n (i+1)
    rw [show decide ((i:Int)<(w.duties.length:Int))=true by simp; omega,Zab,AO hx,Zaa,hd,wN i (by omega)]
    simp only [CH]
    generalize hst:CQ w roster day st i w.duties[i]=st'
    unfold CQ at hst
    cases hday:decide (w.duties[i].day=day) with
    | false =>
     rw [hday,Zad] at hst
     subst hst
     exact ih st (by omega) (by omega) (by omega) hs
    | true =>
     rw [hday,Zab] at hst
     have hxr:i<roster.length:=by rw [hro.1]; exact hx
     have hrg:roster.getD i (-1)=roster[i]:=by simp [List.getD,Zap hxr]
     rw [Zab,AO hxr,Zaa]
     rw [hrg] at hst
     have hb:=hro.2 _ (Zav hxr)
     generalize hk:roster[i]=k at *
     by_cases h1:k=-1
     · rw [Zaf h1] at hst ⊢
       simp only [Zab] at hst ⊢
       subst hst
       exact ih st (by omega) (by omega) (by omega) hs
     · rw [Zae h1] at hst ⊢
       simp only [Zad] at hst ⊢
       obtain⟨j,rfl⟩:∃ j:Nat,k=j:=⟨k.toNat,by omega⟩
       have hj:j<w.drivers.length:=by omega
       have hj6:j<st.2.length:=by omega
       have hg:st.2.getD ((j:Int)).toNat Ie=st.2[j]:=by simp [List.getD,Zap hj6]
       rw [hg] at hst
       have h6:st.2.length.beq 6=true:=by rw [hs]; rfl
       obtain⟨m,rfl⟩:∃ m,n=m+10:=⟨n-10,by omega⟩
       have hl2:=Ajz (n:=m) (w:=w) (truth:=truth) (now:=st.2) (i:=(i:Int)) (k:=(j:Int)) (d:=w.duties[i]) (s:=st.2[j]) (v:=w.drivers[j]) (out:=st.1) h6 (AO hj6) (W7 hj6) (AO hj) (hw.2.2.2.2.2.2 _ (Zav hj)) (by omega)
       have hl5:(([AN.mk (IK.mk 0) (Fp.mk (↑238:Int)),AN.mk (IK.mk 1) (Fp.mk (↑239:Int)),AN.mk (IK.mk 2) (Fp.mk (↑240:Int)),AN.mk (IK.mk 3) (Fp.mk (↑241:Int)),AN.mk (IK.mk 4) (Fp.mk (↑242:Int))]:List AN).length:Int)=5:=rfl
       rw [hl5,hl2]
       simp only [Zaa]
       have htl:i<truth.length:=by rw [htr,ZaO]; exact hx
       have hti:truth[i]=w.duties[i].off.hi:=by subst htr; simp
       rw [h6,Zab,AO hj6,Zaa,show((j:Nat):Int).toNat=j from rfl,W7 hj6,Zaa,AO htl,Zaa,AbY,Zaa,Zab,Zaa,Zaa,hti]
       rw [show((j:Nat):Int).toNat=j from rfl] at hst
       have hbl:=Yl w (j:Int) (i:Int) w.duties[i] st.2[j]
       rw [← hst]
       have:=ih (st.1++Jz w (j:Int) (i:Int) w.duties[i] st.2[j],st.2.set j (Hh st.2[j] w.duties[i] w.duties[i].off.hi)) (by omega) (by omega) (by simp; omega) (by simp [hs])
       exact this
  · have hd:w.duties.drop i=[]:=by simp; omega
    rw [show decide ((i:Int)<(w.duties.length:Int))=false by simp; omega,hd]
    rfl
theorem AcW (w:Ai) (roster:List Int) (day:Int) (st:List Ah×List Aj) (i:Nat) (d:AA):(CQ w roster day st i d).1.length≤st.1.length+5∧(CQ w roster day st i d).2.length=st.2.length:=by
 unfold CQ
 have:=Yl w (roster.getD i (-1)) (i:Int) d (st.2.getD (roster.getD i (-1)).toNat Ie)
 cases decide (d.day=day)
 · exact⟨by simp,rfl⟩
 · cases decide (roster.getD i (-1)=-1)
   · exact⟨by simp only [Zab,Zad,Zaj]; omega,by simp⟩
   · exact⟨by simp,rfl⟩
theorem Sa (w:Ai) (roster:List Int) (day:Int):∀ (l:List AA)(i:Nat)(st:List Ah×List Aj),(CH w roster day i st l).1.length≤st.1.length+5*l.length∧(CH w roster day i st l).2.length=st.2.length
 | [],_,st=>⟨by simp [CH],rfl⟩
 | d::l,i,st=>by
  obtain⟨h1,h2⟩:=Sa w roster day l (i+1) (CQ w roster day st i d)
  obtain⟨h3,h4⟩:=AcW w roster day st i d
  simp only [CH,Zau]
  exact⟨by omega,by rw [h2,h4]⟩
def Cx (w:Ai) (roster:List Int):Nat→Nat→List Ah×List Aj→List Ah×List Aj
 | 0,_,st=>st
 | k+1,day,st=>Cx w roster k (day+1) (CH w roster (day:Int) 0 st w.duties)
theorem Aik {w:Ai} {roster truth:List Int} (hw:wkOk w) (h6d:w.drivers.length≤6) (hro:Dr w roster) (htr:truth=w.duties.map fun d=>d.off.hi):∀ (k day n:Nat)(st:List Ah×List Aj),day+k=7→200+k<n→st.1.length≤day*65→st.2.length=6 →
  AW n w roster truth st.1 st.2 7 (day:Int)=some (w,((roster,()),((truth,()),(((Cx w roster k day st).1,()),((Cx w roster k day st).2,((),((),((),()))))))))
 | _,_,0,_,_,h,_,_=>absurd h (Zal _)
 | 0,day,n+1,st,hd,h,ho,hs=>by
  rw [AW,show decide ((day:Int)<7)=false from Zae (by omega)]
  rfl
 | k+1,day,n+1,st,hd,h,ho,hs=>by
  have hwl:=hw.2.2.2.2.1
  have h4:=Aij hw h6d hro htr (day:Int) n 0 st (by omega) (by omega) (by omega) hs
  rw [show((0:Nat):Int)=0 from rfl,Zar] at h4
  obtain⟨a1,a2⟩:=Sa w roster (day:Int) w.duties 0 st
  rw [AW,show decide ((day:Int)<7)=true from Zaf (by omega),Zab,h4,wN day (by omega)]
  simp only [Zaa,Za3]
  have:=Aik hw h6d hro htr k (day+1) n (CH w roster (day:Int) 0 st w.duties) (by omega) (by omega) (by omega) (by omega)
  exact this
def G6 (w:Ai) (now:List Aj):Nat→Nat→List Ah
 | 0,_=>[]
 | k+1,i=>(bif decide ((now.getD i Ie).used>w.hours) then [Ah.mk (IK.mk 5) (i:Int) 0] else [])++G6 w now k (i+1)
theorem AeC {w:Ai} {now:List Aj} (h6d:w.drivers.length≤6) (hs:now.length=6):∀ (k i n:Nat)(out:List Ah),i+k=w.drivers.length→k<n→out.length≤900+i→AX n w out now (w.drivers.length:Int) (i:Int)=some (w,((out++G6 w now k i,()),(now,((),()))))
 | _,_,0,_,_,h,_=>absurd h (Zal _)
 | 0,i,n+1,out,hk,h,ho=>by
  rw [AX,show decide ((i:Int)<(w.drivers.length:Int))=false from Zae (by omega)]
  simp [G6]
 | k+1,i,n+1,out,hk,h,ho=>by
  have hi:i<now.length:=by omega
  have h6:now.length.beq 6=true:=by rw [hs]; rfl
  have hg:now.getD i Ie=now[i]:=by simp [List.getD,Zap hi]
  rw [AX,show decide ((i:Int)<(w.drivers.length:Int))=true from Zaf (by omega),Zab,h6,Zab,AO hi,Zaa,show((i:Nat):Int).toNat=i from rfl,W7 hi,Zaa,wN i (by omega),A1 (by simp; omega)]
  simp only [G6,hg,Zaa]
  cases decide (now[i].used>w.hours) with
  | true =>
   have:=AeC h6d hs k (i+1) n (out++[Ah.mk (IK.mk 5) (i:Int) 0]) (by omega) (by omega) (by simp; omega)
   simpa using this
  | false =>
   have:=AeC h6d hs k (i+1) n out (by omega) (by omega) (by omega)
   simpa using this
def AI (w:Ai):List Aj:=(w.drivers.map fun d=>Aj.mk d.off d.row d.used (-1))++List.replicate (6-w.drivers.length) Ie
theorem QB (full:List AJ) (h6:full.length≤6):∀ (n i:Nat),full.length-i<n→i≤full.length→BL n ((full.take i).map (fun d=>Aj.mk d.off d.row d.used (-1))++List.replicate (6-i) Ie) full (full.length:Int) (i:Int)=some ((full.map fun d=>Aj.mk d.off d.row d.used (-1))++List.replicate (6-full.length) Ie,((),()))
 | 0,_,h,_=>absurd h (Zal _)
 | n+1,i,h,hi=>by
  have hlen:((full.take i).map (fun d=>Aj.mk d.off d.row d.used (-1))++List.replicate (6-i) Ie).length=6:=by
   rw [Zaj,ZaO,ZaK,List.length_replicate]; omega
  rw [BL]
  by_cases hx:i<full.length
  · rw [show decide ((i:Int)<(full.length:Int))=true by simp; omega,Zab,AO hx,Zaa,hlen,show Nat.beq 6 6=true from rfl,Zab,AO (by omega),Zaa,show((i:Nat):Int).toNat=i from rfl,W7 (by omega),Zaa,wN i (by omega)]
    have:((full.take i).map (fun d=>Aj.mk d.off d.row d.used (-1))++List.replicate (6-i) Ie).set i (Aj.mk full[i].off full[i].row full[i].used (-1))=(full.take (i+1)).map (fun d=>Aj.mk d.off d.row d.used (-1))++List.replicate (6-(i+1)) Ie:=by
     rw [ZaD hx,List.map_append,Za6,List.set_append_right _ _ (by rw [ZaO,ZaK]; omega)]
     congr 1
     rw [ZaO,ZaK,Nat.min_eq_left hi,Nat.sub_self,show 6-i=(6-(i+1))+1 by omega,List.replicate_succ]
     rfl
    rw [this]
    exact QB full h6 n (i+1) (by omega) (by omega)
  · have:i=full.length:=by omega
    subst this
    rw [show decide ((full.length:Int)<(full.length:Int))=false by simp,Zad,Zbb (Zas _)]
theorem AcX {n:Nat} {w:Ai} (h6:w.drivers.length≤6) (hn:10<n):DT n w=some (AI w,()):=by
 unfold DT
 have h:=QB w.drivers h6 n 0 (by omega) (by omega)
 rw [show((0:Nat):Int)=0 from rfl] at h
 have e:([Aj.mk 0 0 0 0,Aj.mk 0 0 0 0,Aj.mk 0 0 0 0,Aj.mk 0 0 0 0,Aj.mk 0 0 0 0,Aj.mk 0 0 0 0]:List Aj)=(w.drivers.take 0).map (fun d=>Aj.mk d.off d.row d.used (-1))++List.replicate (6-0) Ie:=rfl
 rw [e,h]
 have hl:((w.drivers.map fun d=>Aj.mk d.off d.row d.used (-1))++List.replicate (6-w.drivers.length) Ie).length=6:=by
  rw [Zaj,ZaO,List.length_replicate]; omega
 simp only [Zaa,hl]
 rfl
theorem Jb {w:Ai} (h6:w.drivers.length≤6):(AI w).length=6:=by
 unfold AI
 rw [Zaj,ZaO,List.length_replicate]; omega
theorem Vr (full:List AA) (hl:full.length≤1000):∀ (n i:Nat),full.length-i<n→i≤full.length→Ck n ((full.take i).map fun d=>d.off.hi) full (full.length:Int) (i:Int)=some (full.map fun d=>d.off.hi,())
 | 0,_,h,_=>absurd h (Zal _)
 | n+1,i,h,hi=>by
  rw [Ck]
  by_cases hx:i<full.length
  · rw [show decide ((i:Int)<(full.length:Int))=true by simp; omega,Zab,AO hx,Zaa,A1 (by rw [ZaO,ZaK]; simp; omega),Zaa,wN i (by omega)]
    have:(full.take i).map (fun d=>d.off.hi)++[full[i].off.hi]=(full.take (i+1)).map fun d=>d.off.hi:=by
     rw [ZaD hx,List.map_append]; rfl
    rw [this]
    exact Vr full hl n (i+1) (by omega) (by omega)
  · have:i=full.length:=by omega
    subst this
    rw [show decide ((full.length:Int)<(full.length:Int))=false by simp,Zad,Zbb (Zas _)]
theorem Ahd {n:Nat} {w:Ai} (h:w.duties.length≤1000) (hn:w.duties.length<n):Fa n w=some (w.duties.map fun d=>d.off.hi,()):=by
 unfold Fa
 have h:=Vr w.duties h n 0 (by omega) (by omega)
 rw [show((0:Nat):Int)=0 from rfl,List.take_zero,List.map_nil] at h
 rw [h]; rfl
def UP (a b:Ah):Bool:=a.driver == b.driver && a.kind.n == b.kind.n && a.duty == b.duty
theorem Dt {α:Type} (eq:α→α→Bool):∀ (a b:List α),DJ eq a=true→DJ eq b=true→(∀ x∈a,∀ y∈b,eq x y=false)→DJ eq (a++b)=true
 | [],b,_,hb,_=>hb
 | x::a,b,ha,hb,h=>by
  unfold DJ at ha
  obtain⟨h1,h2⟩:=As ha
  rw [ZaQ]
  unfold DJ
  rw [List.any_append,Dt eq a b h2 hb fun x' hx'=>h x' (by simp [hx'])]
  have:b.any (eq x)=false:=by
   rw [Zb9]
   intro y hy he
   rw [h x (by simp) y hy] at he; cases he
  rw [this,Bool.or_false,h1]; rfl
theorem C6 {w:Ai} {k i:Int} {d:AA} {s:Aj} {j:Nat} {b:Ah} (h:b∈RK w k i d s j):b=Ah.mk (IK.mk (j:Int)) k i:=by
 unfold RK at h
 cases hr:Ff w k d s j with
 | true=>rw [hr] at h; cases h
 | false=>rw [hr] at h; simpa using h
theorem Ym {w:Ai} {k i:Int} {d:AA} {s:Aj} {b:Ah} (h:b∈Jz w k i d s):∃ j:Nat,j≤4∧b=Ah.mk (IK.mk (j:Int)) k i:=by
 unfold Jz at h
 rcases Zao.1 h with h | h
 · exact⟨0,by omega,C6 h⟩
 rcases Zao.1 h with h | h
 · exact⟨1,by omega,C6 h⟩
 rcases Zao.1 h with h | h
 · exact⟨2,by omega,C6 h⟩
 rcases Zao.1 h with h | h
 · exact⟨3,by omega,C6 h⟩
 · exact⟨4,by omega,C6 h⟩
theorem L0 (w:Ai) (k i:Int) (d:AA) (s:Aj) (j:Nat):DJ UP (RK w k i d s j)=true:=by
 unfold RK
 cases Ff w k d s j <;> rfl
theorem AcY (w:Ai) (k i:Int) (d:AA) (s:Aj):DJ UP (Jz w k i d s)=true:=by
 have hne:∀ (a b:Nat),a≠b→UP (Ah.mk (IK.mk (a:Int)) k i) (Ah.mk (IK.mk (b:Int)) k i)=false:=fun a b h=>by
  simp only [UP,beq_self_eq_true,ZaF,Zb1,beq_eq_false_iff_ne,ne_eq]; omega
 unfold Jz
 refine Dt _ _ _ (L0 ..) (Dt _ _ _ (L0 ..) (Dt _ _ _ (L0 ..) (Dt _ _ _ (L0 ..) (L0 ..) ?_) ?_) ?_) ?_
 · intro x hx y hy
   rw [C6 hx,C6 hy]; exact hne 3 4 (by omega)
 · intro x hx y hy
   rw [C6 hx]
   rcases Zao.1 hy with hy | hy
   · rw [C6 hy]; exact hne 2 3 (by omega)
   · rw [C6 hy]; exact hne 2 4 (by omega)
 · intro x hx y hy
   rw [C6 hx]
   rcases Zao.1 hy with hy | hy
   · rw [C6 hy]; exact hne 1 2 (by omega)
   rcases Zao.1 hy with hy | hy
   · rw [C6 hy]; exact hne 1 3 (by omega)
   · rw [C6 hy]; exact hne 1 4 (by omega)
 · intro x hx y hy
   rw [C6 hx]
   rcases Zao.1 hy with hy | hy
   · rw [C6 hy]; exact hne 0 1 (by omega)
   rcases Zao.1 hy with hy | hy
   · rw [C6 hy]; exact hne 0 2 (by omega)
   rcases Zao.1 hy with hy | hy
   · rw [C6 hy]; exact hne 0 3 (by omega)
   · rw [C6 hy]; exact hne 0 4 (by omega)
def Aa4 (w:Ai) (day:Int) (i:Nat) (out:List Ah):Prop:=DJ UP out=true∧∀ b∈out,∃ (j:Nat)(hj:j<w.duties.length),b.duty=(j:Int)∧(w.duties[j].day<day∨(w.duties[j].day=day∧j<i))∧0≤b.kind.n∧b.kind.n≤4∧0≤b.driver∧b.driver≤10
theorem Aca {w:Ai} {roster:List Int} (h6d:w.drivers.length≤6) (hro:Dr w roster) (day:Int):∀ (l:List AA)(i:Nat)(st:List Ah×List Aj),w.duties.drop i=l→Aa4 w day i st.1→Aa4 w day w.duties.length (CH w roster day i st l).1
 | [],i,st,hd,h=>by
  refine⟨h.1,fun b hb=>?_⟩
  obtain⟨j,hj,e1,e2,e3⟩:=h.2 b hb
  exact⟨j,hj,e1,e2.imp id (fun h=>⟨h.1,hj⟩),e3⟩
 | d::l,i,st,hd,h=>by
  have hx:i<w.duties.length:=by
   rcases Za8 i w.duties.length with h' | h'
   · exact h'
   · rw [List.drop_eq_nil_of_le h'] at hd; cases hd
  have hd2:=Zai hx
  rw [hd] at hd2
  obtain⟨e1,e2⟩:=List.cons.inj hd2
  simp only [CH]
  refine Aca h6d hro day l (i+1) _ e2.symm ?_
  have mono:∀ out,Aa4 w day i out→Aa4 w day (i+1) out:=fun out h=>⟨h.1,fun b hb=>by
   obtain⟨j,hj,e1,e2,e3⟩:=h.2 b hb
   exact⟨j,hj,e1,e2.imp id (fun h=>⟨h.1,by omega⟩),e3⟩⟩
  unfold CQ
  by_cases hday:d.day=day
  · rw [Zaf hday,Zab]
    have hxr:i<roster.length:=by rw [hro.1]; exact hx
    have hrg:roster.getD i (-1)=roster[i]:=by simp [List.getD,Zap hxr]
    rw [hrg]
    have hb:=hro.2 _ (Zav hxr)
    generalize roster[i]=k at *
    by_cases h1:k=-1
    · rw [Zaf h1,Zab]; exact mono _ h
    · rw [Zae h1,Zad]
      have m:=mono _ h
      refine⟨Dt _ _ _ h.1 (AcY ..) fun x hx' y hy=>?_,fun b hb'=>?_⟩
      · obtain⟨j,hj,q1,q2,_⟩:=h.2 x hx'
        obtain⟨j',_,q4⟩:=Ym hy
        have hne:x.duty≠y.duty:=by
         rw [q1,q4]
         intro hc
         have hc:(j:Int)=(i:Int):=hc
         have:j=i:=by omega
         subst this
         rcases q2 with q2 | q2
         · rw [← e1,hday] at q2; omega
         · omega
        simp [UP,hne]
      · rcases Zao.1 hb' with hb' | hb'
        · exact m.2 b hb'
        · obtain⟨j',q3,q4⟩:=Ym hb'
          subst q4
          exact⟨i,hx,rfl,.inr ⟨by rw [← e1]; exact hday,by omega⟩,by simp,by show(j':Int)≤4; omega,by show 0≤k; omega,by show k≤10; omega⟩
  · rw [Zae hday,Zad]; exact mono _ h
theorem Yn {w:Ai} {roster:List Int} (h6d:w.drivers.length≤6) (hro:Dr w roster):∀ (k day:Nat)(st:List Ah×List Aj),Aa4 w (day:Int) 0 st.1→Aa4 w ((day+k:Nat):Int) 0 (Cx w roster k day st).1
 | 0,day,st,h=>h
 | k+1,day,st,h=>by
  simp only [Cx]
  have h1:=Aca h6d hro (day:Int) w.duties 0 st rfl h
  have h2:Aa4 w ((day+1:Nat):Int) 0 (CH w roster (day:Int) 0 st w.duties).1:=⟨h1.1,fun b hb=>by
   obtain⟨j,hj,e1,e2,e3⟩:=h1.2 b hb
   exact⟨j,hj,e1,.inl (by rcases e2 with e2 | e2 <;> omega),e3⟩⟩
  have:=Yn h6d hro k (day+1) _ h2
  rw [show day+1+k=day+(k+1) by omega] at this
  exact this
theorem Kq {w:Ai} {now:List Aj}:∀ (k i:Nat)(b:Ah),b∈G6 w now k i→∃ j:Nat,i≤j∧j<i+k∧b=Ah.mk (IK.mk 5) (j:Int) 0
 | 0,_,b,h=>by cases h
 | k+1,i,b,h=>by
  simp only [G6] at h
  rcases Zao.1 h with h | h
  · cases hd:decide ((now.getD i Ie).used>w.hours) with
    | false=>rw [hd] at h; cases h
    | true =>
     rw [hd] at h
     exact⟨i,by omega,by omega,by simpa using h⟩
  · obtain⟨j,h1,h2,h3⟩:=Kq k (i+1) b h
    exact⟨j,by omega,by omega,h3⟩
theorem QC (w:Ai) (now:List Aj):∀ (k i:Nat),DJ UP (G6 w now k i)=true
 | 0,_=>rfl
 | k+1,i=>by
  simp only [G6]
  refine Dt _ _ _ ?_ (QC w now k (i+1)) fun x hx y hy=>?_
  · cases decide ((now.getD i Ie).used>w.hours) <;> rfl
  · obtain⟨j,h1,h2,h3⟩:=Kq _ _ _ hy
    have hx':x=Ah.mk (IK.mk 5) (i:Int) 0:=by
     cases hd:decide ((now.getD i Ie).used>w.hours) with
     | false=>rw [hd] at hx; cases hx
     | true=>rw [hd] at hx; simpa using hx
    rw [hx',h3]
    have:(i:Int)≠(j:Int):=by omega
    simp [UP,this]
def Eu (w:Ai) (roster:List Int):List Ah:=(Cx w roster 7 0 ([],AI w)).1++G6 w (Cx w roster 7 0 ([],AI w)).2 w.drivers.length 0
theorem Vs {w:Ai} {roster:List Int}:∀ (k day:Nat)(st:List Ah×List Aj),(Cx w roster k day st).1.length≤st.1.length+k*(5*w.duties.length)∧(Cx w roster k day st).2.length=st.2.length
 | 0,_,st=>⟨by simp [Cx],rfl⟩
 | k+1,day,st=>by
  obtain⟨h1,h2⟩:=Sa w roster (day:Int) w.duties 0 st
  obtain⟨h3,h4⟩:=Vs (w:=w) (roster:=roster) k (day+1) (CH w roster (day:Int) 0 st w.duties)
  simp only [Cx]
  rw [Nat.succ_mul]
  exact⟨by omega,by rw [h4,h2]⟩
theorem Sb (w:Ai) (now:List Aj):∀ (k i:Nat),(G6 w now k i).length≤k
 | 0,_=>by simp [G6]
 | k+1,i=>by
  have:=Sb w now k (i+1)
  simp only [G6,Zaj]
  cases decide ((now.getD i Ie).used>w.hours)
  · simp; omega
  · simp; omega
theorem AeD {out:List Ah} (hl:out.length≤1000000) (hs:∀ b∈out,0≤b.driver∧b.driver≤10∧0≤b.duty∧b.duty≤100∧0≤b.kind.n∧b.kind.n≤5) (hd:DJ UP out=true):Ww out=some (Eo Ajh out):=by
 unfold Ww
 have h1:Nat.blt (Bm out) 4611686018427387904=true:=by rw [JM]; exact Za2 (by omega)
 have h2:out.all (fun a=>XF a.driver && XF a.duty && (decide (0≤a.kind.n) && decide (a.kind.n≤255)))=true:=by
  rw [Za9]
  intro a ha
  have:=hs a ha
  simp [XF]; omega
 have h3:DJ (fun a b:Ah=>a.driver == b.driver && a.kind.n == b.kind.n && a.duty == b.duty) out=true:=hd
 rw [h1,h2,h3]; rfl
theorem AcZ {n:Nat} {w:Ai} {roster:List Int} (hw:wkOk w) (h6d:w.drivers.length≤6) (hro:Dr w roster) (hn:300<n):DW n w roster (w.duties.map fun d=>d.off.hi)=some (Eo Ajh (Eu w roster),()):=by
 unfold DW
 have hsl:=Jb h6d
 have hwl:=hw.2.2.2.2.1
 rw [AcX h6d (by omega)]
 simp only [Zaa,hsl,hw.1]
 rw [show(([Aj.mk 0 0 0 0,Aj.mk 0 0 0 0,Aj.mk 0 0 0 0,Aj.mk 0 0 0 0,Aj.mk 0 0 0 0,Aj.mk 0 0 0 0]:List Aj).length.beq 6 && Nat.beq 6 6)=true from rfl,Zab]
 have h1:=Aik hw h6d hro rfl 7 0 n ([],AI w) (by omega) (by omega) (by simp) hsl
 rw [show((0:Nat):Int)=0 from rfl] at h1
 rw [h1]
 simp only [Zaa]
 obtain⟨d1,d2⟩:=Vs (w:=w) (roster:=roster) 7 0 ([],AI w)
 simp only [ZaV,Zaw] at d1
 have h3:=AeC (w:=w) (now:=(Cx w roster 7 0 ([],AI w)).2) h6d (by rw [d2]; exact hsl) w.drivers.length 0 n (Cx w roster 7 0 ([],AI w)).1 (by omega) (by omega) (by omega)
 rw [show((0:Nat):Int)=0 from rfl] at h3
 rw [h3]
 simp only [Zaa]
 have ok:=Yn h6d hro 7 0 ([],AI w) ⟨rfl,fun b hb=>by cases hb⟩
 have hh:=Sb w (Cx w roster 7 0 ([],AI w)).2 w.drivers.length 0
 have:=AeD (out:=Eu w roster) (by unfold Eu; rw [Zaj]; omega) (fun b hb=>by
  unfold Eu at hb
  rcases Zao.1 hb with hb | hb
  · obtain⟨j,hj,e1,_,e3,e4,e5,e6⟩:=ok.2 b hb
    omega
  · obtain⟨j,e1,e2,e3⟩:=Kq _ _ _ hb
    subst e3
    simp only
    omega) (by
  unfold Eu
  refine Dt _ _ _ ok.1 (QC ..) fun x hx y hy=>?_
  obtain⟨j,hj,e1,_,e3,e4,_⟩:=ok.2 x hx
  obtain⟨j',f1,f2,f3⟩:=Kq _ _ _ hy
  subst f3
  have:x.kind.n≠5:=by omega
  simp [UP,this])
 unfold Eu at this ⊢
 rw [this]; rfl
theorem AeE {n:Nat} {w:Ai} {roster:List Int} (hw:wkOk w) (h6d:w.drivers.length≤6) (hro:Dr w roster) (hn:300<n):E2 n w roster=some (decide (Eu w roster=[]),()):=by
 unfold E2
 have hwl:=hw.2.2.2.2.1
 rw [Ahd (by omega) (by omega),Zaa]
 simp only
 rw [AcZ hw h6d hro hn,Zaa]
 simp only [JG]
 congr 2
 cases h:Eu w roster with
 | nil=>rfl
 | cons a l=>simp; omega
def Ada (w:Ai) (roster:List Int):Bool:=decide (roster.length=w.duties.length) && roster.all fun x=>BF x (-1) ((w.drivers.length:Int)-1)
theorem Sc {w:Ai} {roster:List Int}:Ada w roster=true↔Dr w roster:=by
 unfold Ada Dr
 rw [Zan,decide_eq_true_eq,Za9]
 constructor
 · rintro⟨h1,h2⟩
   exact⟨h1,fun x hx=>by have:=Bx.1 (h2 x hx); omega⟩
 · rintro⟨h1,h2⟩
   exact⟨h1,fun x hx=>Bx.2 (by have:=h2 x hx; omega)⟩
theorem WG {n:Nat} {w:Ai} {l:List Int} (hl:l.length≤1000) (hd:w.drivers.length≤7) (h:l.length<n) :
  (l.all (fun x=>BF x (-1) ((w.drivers.length:Int)-1))=true→AU n l w (l.length:Int) 0=some (.inl ((((),(w,())),()),((),()))))∧(l.all (fun x=>BF x (-1) ((w.drivers.length:Int)-1))=false→∃ k:Nat,AU n l w (l.length:Int) 0=some (.inr ((((),(w,())),()),((),((k:Int),()))))) :=
 Et (F:=fun n i=>AU n l w (l.length:Int) i) (G:=fun n i v0=>bif decide (-1≤v0) then(bif !decide (v0≤IntKind.i64.wrap ((↑w.drivers.length:Int)-1)) then(some (.inr ((((),(w,())),()),((),(i,()))))) else AU n l w (l.length:Int) (IntKind.i64.wrap (i+1))) else some (.inr ((((),(w,())),()),((),(i,()))))) l (fun x=>BF x (-1) ((w.drivers.length:Int)-1)) ((((),(w,())),()),((),())) (fun i=>((((),(w,())),()),((),(i,())))) 0 (by omega) (fun _ _=>rfl) (fun n i hi _=>by
  rw [BG (x:=(w.drivers.length:Int)-1) (by omega) (by omega)]
  unfold BF
  cases decide (-1≤l[i]) <;> cases decide (l[i]≤(w.drivers.length:Int)-1) <;> rfl) (n:=n) (by omega)
theorem Sd {n:Nat} {w:Ai} {l:List Int} (hl:l.length≤1000) (hd:w.drivers.length≤7) (h:l.length<n):DS n w l=some (Ada w l,()):=by
 unfold DS Ada
 obtain⟨a1,a2⟩:=WG (n:=n) (w:=w) (l:=l) hl hd h
 by_cases he:l.length=w.duties.length
 · rw [show decide ((l.length:Int)=(w.duties.length:Int))=true from Zaf (by omega),Zaf he,Zab,ZaF]
   cases ha:l.all fun x=>BF x (-1) ((w.drivers.length:Int)-1) with
   | true=>rw [a1 ha]; rfl
   | false =>
    obtain⟨k,hk⟩:=a2 ha
    rw [hk]
    simp only [Zaa,Sum.elim_inr]
    rw [show decide ((k:Int)≥0)=true by simp]; rfl
 · rw [show decide ((l.length:Int)=(w.duties.length:Int))=false from Zae (by omega),Zae he]; rfl
theorem Adb {n:Nat} {l:List Int} (hl:l.length≤1000) (h:l.length<n):∃ k:Nat,GQ n l=some ((k:Int),()):=by
 have H:∀ (n i k:Nat),l.length-i<n→i≤l.length→k≤i→∃ k':Nat,Cq n (k:Int) l (l.length:Int) (i:Int)=some ((k':Int),()):=by
  intro n
  induction n with
  | zero=>intro i k h; exact absurd h (Zal _)
  | succ n ih =>
   intro i k h hi hk
   rw [Cq]
   by_cases hx:i<l.length
   · rw [show decide ((i:Int)<(l.length:Int))=true by simp; omega,Zab,AO hx,Zaa,wN i (by omega),wN k (by omega)]
     cases l[i] != -1
     · exact ih (i+1) k (by omega) (by omega) (by omega)
     · exact ih (i+1) (k+1) (by omega) (by omega) (by omega)
   · rw [show decide ((i:Int)<(l.length:Int))=false by simp; omega]
     exact⟨k,rfl⟩
 obtain⟨k,hk⟩:=H n 0 0 (by omega) (by omega) (by omega)
 rw [show((0:Nat):Int)=0 from rfl] at hk
 unfold GQ
 exact⟨k,by rw [hk]; rfl⟩
def G7 (w:Ai) (roster:List Int):Bool:=decide (AP w=0) && (Ada w roster && decide (Eu w roster=[]))
theorem AeF {n:Nat} {w:Ai} {roster:List Int} (hw:wkOk w) (hl:roster.length≤1000) (hn:1100<n):C4 n w roster 0=some (G7 w roster,()):=by
 unfold C4 G7
 rw [Kp hw (by omega),Zaa]
 simp only
 by_cases h0:AP w=0
 · rw [Zaf h0,Zab,Sd hl hw.2.2.2.2.2.1 (by omega),Zaa]
   simp only [ZaF]
   cases hr:Ada w roster with
   | false=>rfl
   | true =>
    have h6:w.drivers.length≤6:=by
     unfold AP at h0
     split at h0
     · cases h0
     · split at h0
       · cases h0
       · omega
    rw [Zab,AeE hw h6 (Sc.1 hr) (by omega),Zaa]
    simp only [ZaF]
    cases decide (Eu w roster=[]) with
    | false=>rfl
    | true =>
     obtain⟨k,hk⟩:=Adb (n:=n) hl (by omega)
     rw [Zab,hk,Zaa]
     simp
 · rw [Zae h0]; rfl
structure Cs (s:Ae):Prop where
 kind:∀ c∈s.cards,G4 c
 cards:s.cards.length≤40
 outs:s.outs.length≤200
 runs:s.runs.length≤200
 rk:∀ r∈s.records,Lz r
 recs:s.records.length≤200
 days:s.week.days=7
 rest:s.week.rest=600
 run:s.week.run=5
 hours:s.week.hours=3000
 duties:s.week.duties.length≤12
 drivers:s.week.drivers.length≤6
 drv:∀ d∈s.week.drivers,∃ k off,d=AJ.mk [k] [] [] off 0 0
 ros:s.roster.length=s.week.duties.length
 wk:AP s.week=0
 chk:WC s.cards=0
theorem Cs.wkOk {s:Ae} (h:Cs s):wkOk s.week:=⟨h.days,h.rest,h.run,h.hours,by have:=h.duties; omega,by have:=h.drivers; omega,h.drv⟩
def DY (s:Ae) (c:Ak):Ae×Int:=if s.cards.any (fun a=>CP a c) then(s,6) else if WC (s.cards++[c])=0 then({ s with cards:=s.cards++[c] },0) else(s,WC (s.cards++[c]))
def CS (s:Ae) (y:Ae×Int):(Ab×Unit) ⊕ (Ab×Az×Unit):=if y.2=0 then .inl (Ab.mk y.1,()) else .inr (Ab.mk s,(Az.mk y.2,()))
theorem RL {n:Nat} {s:Ae} (hg:Cs s) {c:Ak} (hk:G4 c) (hn:200<n):Bn n (Ab.mk s) c=some (CS s (DY s c)):=by
 have h40:=hg.cards
 unfold Bn DY
 rw [Aax _ c s.cards (by omega) (by omega)]
 cases hs:s.cards.any (fun a=>CP a c) with
 | true=>simp [CS]
 | false =>
  simp only [Zaa,Za3,Zad]
  rw [Yd (by omega)]
  simp only [Zaa]
  rw [UH (fun a ha=>by
   rcases Zao.1 ha with ha | ha
   · exact hg.kind a ha
   · rw [Zat.1 ha]; exact hk) (by simp; omega) (by simp; omega)]
  simp only [Zaa,Oz]
  by_cases h0:WC (s.cards++[c])=0
  · simp [CS,F0,h0]
  · simp [CS,F0,h0]
def L1 (l:List MV) (bus:Int):Option Nat:=l.findIdx? fun o=>decide (o.bus=bus)
theorem Se (l:List MV) (bus:Int) (hl:l.length≤1000):∀ (n i:Nat),l.length-i<n→i≤l.length→Pv n bus (-1) l (l.length:Int) (i:Int)=some ((match (l.drop i).findIdx? (fun o=>decide (o.bus=bus)) with | some k=>((i+k:Nat):Int) | none=>-1),())
 | 0,_,h,_=>absurd h (Zal _)
 | n+1,i,h,hi=>by
  rw [Pv]
  by_cases hx:i<l.length
  · have hd:l.drop i=l[i]::l.drop (i+1):=Zai hx
    rw [show decide ((i:Int)<(l.length:Int))=true by simp; omega,Zab,AO hx,Zaa,hd,wN i (by omega),List.findIdx?_cons]
    cases decide (l[i].bus=bus) with
    | true=>simp
    | false =>
     rw [Zad,Se l bus hl n (i+1) (by omega) (by omega)]
     cases (l.drop (i+1)).findIdx? (fun o=>decide (o.bus=bus)) with
     | none=>rfl
     | some k =>
      show some (((i+1+k:Nat):Int),())=some (((i+(k+1):Nat):Int),())
      rw [show i+1+k=i+(k+1) by omega]
  · have hd:l.drop i=[]:=by simp; omega
    rw [show decide ((i:Int)<(l.length:Int))=false by simp; omega,hd]
    rfl
def FW (l:List MV) (bus:Int):Int:=match L1 l bus with
 | some k=>(k:Int)
 | none=>-1
theorem RM {n:Nat} {s:Ae} (hg:Cs s) (bus:Int) (hn:250<n):Vj n (Ab.mk s) bus=some (Ab.mk s,(FW s.outs bus,())):=by
 unfold Vj FW L1
 have:=hg.outs
 have h:=Se s.outs bus (by omega) n 0 (by omega) (by omega)
 rw [show((0:Nat):Int)=0 from rfl,Zar] at h
 simp only [h,Zaa]
 cases s.outs.findIdx? (fun o=>decide (o.bus=bus)) <;> simp
theorem Hm (x:Option ((Ab×Unit) ⊕ (Ab×Az×Unit))) (s:Ae) (y:Ae×Int) (h:x=some (CS s y)):(x.bind fun v8=>Sum.elim (fun v9=>some (.inl (v9.fst,()))) (fun v9=>some (.inr (v9.fst,(v9.snd.fst,())))) v8:Option ((Ab×Unit) ⊕ (Ab×Az×Unit)))=some (CS s y):=by
 rw [h]
 unfold CS
 split <;> rfl
section
variable {n:Nat} {s:Ae} {a b c d e:Int}
theorem AeG (hg:Cs s) (hn:200<n):De n (Ab.mk s) [a,b,c,d,e]=some (CS s (DY s (Ak.mk a b c (IK.mk 0) d 0))):=Hm _ _ _ (RL hg ⟨by simp,by simp⟩ hn)
theorem Ahe (hg:Cs s) (hn:200<n):Dy n (Ab.mk s) [a,b,c,d,e]=some (CS s (DY s (Ak.mk a b c (IK.mk 1) d 0))):=Hm _ _ _ (RL hg ⟨by simp,by simp⟩ hn)
theorem Adc (hg:Cs s) (hn:200<n):CA n (Ab.mk s) [a,b,c,d,e]=some (CS s (DY s (Ak.mk a b c (IK.mk 2) 0 d))):=Hm _ _ _ (RL hg ⟨by simp,by simp⟩ hn)
theorem Yo (hg:Cs s) (hn:200<n):Cn n (Ab.mk s) [a,b,c,d,e]=some (CS s (DY s (Ak.mk a b c (IK.mk 3) 0 0))):=Hm _ _ _ (RL hg ⟨by simp,by simp⟩ hn)
theorem Aj0:([a,b,c,d,e]:List Int).length.beq 5=true:=rfl
theorem Aj1:Ao [a,b,c,d,e] 0=some a:=rfl
theorem Aj2:Ao [a,b,c,d,e] 1=some b:=rfl
theorem Aki:Ao [a,b,c,d,e] 2=some c:=rfl
theorem Ako:Ao [a,b,c,d,e] 3=some d:=rfl
theorem Akp:Ao [a,b,c,d,e] 4=some e:=rfl
theorem Aj3:([a,b,c,d,e]:List Int).get?Internal (Int.toNat 0)=some a:=rfl
theorem Aj4:([a,b,c,d,e]:List Int).get?Internal (Int.toNat 1)=some b:=rfl
theorem Akj:([a,b,c,d,e]:List Int).get?Internal (Int.toNat 2)=some c:=rfl
theorem Akq:([a,b,c,d,e]:List Int).get?Internal (Int.toNat 3)=some d:=rfl
theorem Akr:([a,b,c,d,e]:List Int).get?Internal (Int.toNat 4)=some e:=rfl
def QD (l:List Ls) (bus at_:Int):Bool:=l.all fun r=>!decide (r.bus=bus) || decide (r.to_≤at_)
theorem Ade (g:Ab) (bus at_:Int) (l:List Ls) (hl:l.length≤1000) (hn:l.length<n):A8 n g bus at_ l (l.length:Int) 0=some (bif QD l bus at_ then .inl (g,((),(bus,(at_,())))) else .inr (g,(Az.mk 8,()))):=by
 obtain⟨h1,h2⟩:=Et (F:=fun n i=>A8 n g bus at_ l (l.length:Int) i) (G:=fun n i v0=>bif !v0.bus != bus then((Au n (decide (v0.to_≤at_)) 8).bind fun v1=>Sum.elim (fun v2=>A8 n g bus at_ l (l.length:Int) (IntKind.i64.wrap (i+1))) (fun v2=>some (.inr (g,(v2.fst,())))) (v1)) else(Au n true 8).bind fun v1=>Sum.elim (fun v2=>A8 n g bus at_ l (l.length:Int) (IntKind.i64.wrap (i+1))) (fun v2=>some (.inr (g,(v2.fst,())))) (v1)) l (fun r=>!decide (r.bus=bus) || decide (r.to_≤at_)) (g,((),(bus,(at_,())))) (fun _=>(g,(Az.mk 8,()))) 0 (by omega) (fun _ _=>rfl) (fun n i hi _=>by
  rw [Fe,Fe]
  by_cases hb:l[i].bus=bus
  · rw [show(!l[i].bus != bus)=true by simp [hb],Zaf hb]
    cases decide (l[i].to_≤at_) <;> rfl
  · rw [show(!l[i].bus != bus)=false by simp [hb],Zae hb]
    rfl) (n:=n) (by omega)
 unfold QD
 cases hc:l.all fun r=>!decide (r.bus=bus) || decide (r.to_≤at_) with
 | true=>exact h1 hc
 | false=>obtain⟨k,hk⟩:=h2 hc; exact hk
def Nu (s:Ae) (bus at_:Int):Ae×Int :=
 if BF bus 0 99 && BF at_ 0 1000000 then
  if FW s.outs bus<0 then
   if QD s.runs bus at_ then
    if (Cm s.cards bus at_).2=0 then
     if (Cm s.cards bus at_).1=[] then({ s with outs:=s.outs++[MV.mk bus at_] },0) else(s,11)
    else(s,(Cm s.cards bus at_).2)
   else(s,8)
  else(s,8)
 else(s,2)
theorem Ahf (hg:Cs s) (hn:300<n):Cy n (Ab.mk s) [a,b,c,d,e]=some (CS s (Nu s a b)):=by
 have h1:=hg.outs
 have h2:=hg.runs
 have h3:=hg.cards
 unfold Cy
 simp only [Aj0,Aj1,Aj3,Aj2,Aj4,Zab,Zaa]
 unfold Nu
 rw [Iu,Iu]
 simp only [Zaa]
 cases hb1:BF a 0 99 with
 | false =>
  simp [Fe,F0,CS]
 | true =>
  rw [Zab,Fe,Zaa]
  cases hb2:BF b 0 1000000 with
  | false=>simp [F0,CS]
  | true =>
   simp only [F0,Zab,Za3,Zb0,if_true]
   rw [RM hg a (by omega),Zaa]
   simp only [Fe,Zaa]
   by_cases hgo:FW s.outs a<0
   · rw [Zaf hgo,if_pos hgo]
     simp only [F0,Zab,Za3]
     rw [Ade _ a b s.runs (by omega) (by omega),Zaa]
     cases hr:QD s.runs a b with
     | false=>simp [CS]
     | true =>
      simp only [Zab,Za3,if_true]
      rw [WD hg.kind (by omega) (by omega)]
      simp only [Zaa,Oz]
      by_cases h0:(Cm s.cards a b).2=0
      · rw [if_pos h0,h0]
        simp only [F0,decide_true,Zab,Za3]
        by_cases hl:(Cm s.cards a b).1=[]
        · rw [if_pos hl,hl]
          simp only [ZaV]
          rw [show decide (((0:Nat):Int)=0)=true from rfl]
          simp only [Zab,Zaa,Za3]
          rw [Aat (by omega)]
          simp [CS]
        · rw [if_neg hl]
          have : ¬ (((Cm s.cards a b).1.length:Int)=0):=fun h=>hl (Zby.1 (by omega))
          rw [Zae this]
          simp [CS]
      · rw [if_neg h0,Zae h0]
        simp [CS,h0,F0]
   · rw [Zae hgo,if_neg hgo]
     simp [F0,CS]
def Acb (s:Ae) (bus to_ miles:Int):Ae×Int :=
 match L1 s.outs bus with
 | none=>(s,8)
 | some k=>match s.outs[k]? with
  | none=>(s,8)
  | some o=>if BF to_ o.fr 1000000 && BF miles 0 1000 then({ s with outs:=s.outs.eraseIdx k,runs:=s.runs++[Ls.mk o.bus o.fr to_ miles] },0) else(s,2)
theorem Sf {l:List MV} {bus:Int} {k:Nat} (h:L1 l bus=some k):∃ hk:k<l.length,l[k].bus=bus:=by
 unfold L1 at h
 obtain⟨hk,h1,_⟩:=List.findIdx?_eq_some_iff_getElem.1 h
 exact⟨hk,by simpa using h1⟩
theorem AiB (hg:Cs s) (hn:300<n):CW n (Ab.mk s) [a,b,c,d,e]=some (CS s (Acb s a b c)):=by
 have h1:=hg.outs
 have h2:=hg.runs
 unfold CW
 simp only [Aj0,Aj1,Aj3,Aj2,Aj4,Aki,Akj,Zab,Zaa]
 rw [RM hg a (by omega),Zaa]
 simp only [Fe,Zaa]
 unfold Acb FW
 cases hgo:L1 s.outs a with
 | none =>
  simp only
  rw [show decide ((-1:Int)≥0)=false from rfl]
  simp [F0,CS]
 | some k =>
  obtain⟨hk,_⟩:=Sf hgo
  simp only
  rw [show decide ((k:Int)≥0)=true by simp]
  simp only [F0,Zab,Za3]
  rw [AO hk,Zaa,Zap hk]
  simp only [Iu,Zaa]
  have hw:IntKind.i64.wrap ((k:Int)+1)=((k+1:Nat):Int):=wN k (by omega)
  have hdel:XP n s.outs (k:Int) ((k+1:Nat):Int)=some (s.outs.eraseIdx k,()):=by
   show(bif Nat.blt k (k+1) && Nat.ble (k+1) (Bm s.outs) then some (s.outs.take k++s.outs.drop (k+1),()) else none)=_
   rw [show Nat.blt k (k+1)=true from Za2 (by omega),JM,show Nat.ble (k+1) s.outs.length=true from Za2 (by omega)]
   rw [List.eraseIdx_eq_take_drop_succ]; rfl
  have hcl:KF n s.outs=some (s.outs,()):=by unfold KF; rw [G3 (by omega)]; rfl
  cases hb1:BF b s.outs[k].fr 1000000 with
  | false=>simp [F0,CS]
  | true =>
   cases hb2:BF c 0 1000 with
   | false=>simp [F0,CS]
   | true =>
    simp only [Zab,Za3,Zb0,if_true]
    rw [hcl,Zaa,hw,hdel,Zaa,Aau (by omega)]
    simp [CS]
def Hn (s:Ae) (r:Aa):Ae×Int:=if s.records.any (Bv r) then(s,6) else if HN [s.records,[r]]=0 then({ s with records:=s.records++[r] },0) else(s,HN [s.records,[r]])
theorem Aa5 (hg:Cs s) {r:Aa} (hk:Lz r) (hn:1200<n):Bp n (Ab.mk s) r=some (CS s (Hn s r)):=by
 have h60:=hg.recs
 unfold Bp Hn
 rw [Yi (by show s.records.length≤1000; omega) (by show s.records.length<n; omega),Zaa]
 simp only [Fe,Zaa]
 cases hs:s.records.any (Bv r) with
 | true=>simp [CS,F0]
 | false =>
  simp only [Za7,F0,Zab,Za3]
  obtain⟨x,hx⟩:=Ae9 (n:=n) (lists:=[s.records,[r]]) (fun l hl=>by
   rcases Zam.1 hl with rfl | hl
   · exact hg.rk
   · rw [Zat.1 hl]
     intro r' hr'
     rw [Zat.1 hr']; exact hk) (by simp) (fun l hl=>by
   rcases Zam.1 hl with rfl | hl
   · omega
   · rw [Zat.1 hl]; simp) (by simp; omega)
  rw [hx,Zaa]
  simp only [Oz,Zaa]
  by_cases h0:HN [s.records,[r]]=0
  · rw [h0]
    simp only [F0,decide_true,Zab,Za3]
    rw [UF (by omega)]
    simp [CS]
  · rw [Zae h0]
    simp [F0,CS,h0]
theorem Ahg (hg:Cs s) (hn:1200<n):D0 n (Ab.mk s) [a,b,c,d,e]=some (CS s (Hn s (Aa.mk a b c (IK.mk 0) d e))):=Hm _ _ _ (Aa5 hg ⟨by simp,by simp⟩ hn)
theorem Ahh (hg:Cs s) (hn:1200<n):D1 n (Ab.mk s) [a,b,c,d,e]=some (CS s (Hn s (Aa.mk a b c (IK.mk 1) d 0))):=Hm _ _ _ (Aa5 hg ⟨by simp,by simp⟩ hn)
theorem AeH (hg:Cs s) (hn:1200<n):Df n (Ab.mk s) [a,b,c,d,e]=some (CS s (Hn s (Aa.mk a b c (IK.mk 2) d e))):=Hm _ _ _ (Aa5 hg ⟨by simp,by simp⟩ hn)
def FX (w:Ai) (k off:Int):Ai:={ w with drivers:=w.drivers++[AJ.mk [k] [] [] off 0 0] }
def G8 (w:Ai) (d:AA):Ai:={ w with duties:=w.duties++[d] }
def PG (s:Ae) (k off:Int):Ae×Int:=if AP (FX s.week k off)=0 then({ s with week:=FX s.week k off },0) else(s,AP (FX s.week k off))
def PH (s:Ae) (d:AA):Ae×Int:=if AP (G8 s.week d)=0 then({ s with week:=G8 s.week d,roster:=s.roster++[-1] },0) else(s,AP (G8 s.week d))
theorem Aa6 (hg:Cs s) (hn:100<n):BK n (Ab.mk s) [a,b,c,d,e]=some (CS s (PG s a b)):=by
 have h6:=hg.drivers
 have h12:=hg.duties
 unfold BK PG
 simp only [Aj0,Aj1,Aj3,Aj2,Aj4,Zab,Zaa]
 rw [UG (by omega),Zaa]
 have hw:wkOk (FX s.week a b):=⟨hg.days,hg.rest,hg.run,hg.hours,by show s.week.duties.length≤13; omega,by simp [FX]; omega,fun d hd=>by
  rcases Zao.1 hd with hd | hd
  · exact hg.drv d hd
  · rw [Zat.1 hd]; exact⟨a,b,rfl⟩⟩
 have hc:=Kp (n:=n) hw (by omega)
 unfold FX at hc
 simp only at hc ⊢
 rw [hc,Zaa]
 simp only [Oz,Zaa]
 show _=some (CS s (if AP (FX s.week a b)=0 then _ else _))
 change (Sum.elim _ _ (F0 (decide (AP (FX s.week a b)=0)) (AP (FX s.week a b))))=_
 by_cases h0:AP (FX s.week a b)=0
 · rw [h0]; simp [F0,CS,FX]
 · rw [Zae h0,if_neg h0]
   simp [F0,CS,h0]
theorem AeI (hg:Cs s) (hn:100<n):Cj n (Ab.mk s) [a,b,c,d,e]=some (CS s (PH s (AA.mk a b (Rg.mk c d) e))):=by
 have h6:=hg.drivers
 have h12:=hg.duties
 have hr:=hg.ros
 unfold Cj PH
 simp only [Aj0,Aj1,Aj3,Aj2,Aj4,Aki,Akj,Ako,Akq,Akp,Akr,Zab,Zaa]
 rw [Ye (by omega),Zaa]
 have hw:wkOk (G8 s.week (AA.mk a b (Rg.mk c d) e)):=⟨hg.days,hg.rest,hg.run,hg.hours,by simp [G8]; omega,by show s.week.drivers.length≤7; omega,hg.drv⟩
 have hc:=Kp (n:=n) hw (by omega)
 unfold G8 at hc
 simp only at hc ⊢
 rw [hc,Zaa]
 simp only [Oz,Zaa]
 show _=some (CS s (if AP (G8 s.week (AA.mk a b (Rg.mk c d) e))=0 then _ else _))
 change (Sum.elim _ _ (F0 (decide (AP (G8 s.week (AA.mk a b (Rg.mk c d) e))=0)) (AP (G8 s.week (AA.mk a b (Rg.mk c d) e)))))=_
 by_cases h0:AP (G8 s.week (AA.mk a b (Rg.mk c d) e))=0
 · rw [h0]
   simp only [F0,decide_true,Zab,Za3]
   rw [Aav (by omega)]
   simp [CS,G8]
 · rw [Zae h0,if_neg h0]
   simp [F0,CS,h0]
def PI (s:Ae) (i k:Int):Ae×Int :=
 if BF i 0 ((s.roster.length:Int)-1) && BF k (-1) ((s.week.drivers.length:Int)-1) then
  if G7 s.week (s.roster.set i.toNat k) then({ s with roster:=s.roster.set i.toNat k },0) else(s,10)
 else(s,2)
theorem AeJ (hg:Cs s) (hn:1200<n):Cl n (Ab.mk s) [a,b,c,d,e]=some (CS s (PI s a b)):=by
 have h6:=hg.drivers
 have h12:=hg.duties
 have hr:=hg.ros
 unfold Cl PI
 simp only [Aj0,Aj1,Aj3,Aj2,Aj4,Zab,Zaa]
 rw [BG (x:=(s.roster.length:Int)-1) (by omega) (by omega),BG (x:=(s.week.drivers.length:Int)-1) (by omega) (by omega)]
 simp only [Iu,Zaa,Fe]
 cases hb1:BF a 0 ((s.roster.length:Int)-1) with
 | false=>simp [F0,CS]
 | true =>
  cases hb2:BF b (-1) ((s.week.drivers.length:Int)-1) with
  | false=>simp [F0,CS]
  | true =>
   simp only [F0,Zab,Za3,Zb0,if_true]
   obtain⟨a1,a2⟩:=Bx.1 hb1
   obtain⟨i,rfl⟩:∃ i:Nat,a=i:=⟨a.toNat,by omega⟩
   have hi:i<s.roster.length:=by omega
   have hcl:NT n s.roster=some (s.roster,()):=by unfold NT; rw [G3 (by omega)]; rfl
   rw [hcl]
   simp only [Zaa]
   rw [AO hi,Zaa,show((i:Nat):Int).toNat=i from rfl,W7 hi,Zaa,AeF hg.wkOk (by rw [List.length_set]; omega) (by omega),Zaa]
   simp only
   cases G7 s.week (s.roster.set i b) with
   | true=>simp [CS]
   | false=>simp [CS]
end
theorem Aa7 {l:List UInt8} {v:Int} (h:Lib.atoiAll l=.ok v) : -9223372036854775808≤v∧v≤9223372036854775807:=by
 unfold Lib.atoiAll at h
 simp only at h
 split at h
 · cases h
 · split at h
   · cases h
   · cases h
   · rename_i u _
     split at h
     · cases h
     · split at h
       · cases h
       · rename_i h1 h2
         cases h
         split <;> rename_i hn <;> simp only [hn,true_and,not_true,false_and,not_false_iff] at h1 h2 <;> omega
def UQ (s:ByteArray):Option Int:=I0 s.data.toList
theorem Adf {n:Nat} {s:ByteArray} (hs:s.size≤1000000):GR n s=some (match UQ s with | some v=>.inl (v,()) | none=>.inr (Az.mk 4,())):=by
 unfold GR Nk
 rw [if_pos (by omega)]
 simp only [Zaa]
 cases hw:UQ s with
 | some v =>
  obtain⟨h1,h2,h3,h4⟩:=Vn hw
  rw [h2]
  simp only [Za3]
  have hi:BV n v=some (B0 v,()):=by
   unfold BV
   rw [show(decide (-9223372036854775808≤v) && decide (v≤9223372036854775807))=true by simp; omega]; rfl
  rw [hi,Zaa]
  have hb:(B0 v).beq s=true:=by
   unfold B0
   rw [h1,← Gd s]
   show((Ep s.data.toList).data == (Ep (Ep s.data.toList).data.toList).data)=true
   simp [Ep]
  simp only [hb,Zab]
  rw [Iu,Zaa,show BF v (-999999999) 999999999=true from Bx.2 ⟨h3,h4⟩,Fe]
  rfl
 | none =>
  rcases ha:Lib.atoiAll s.data.toList with v | _ | _
  · skip
    obtain⟨b1,b2⟩:=Aa7 ha
    have hi:BV n v=some (B0 v,()):=by
     unfold BV
     rw [show(decide (-9223372036854775808≤v) && decide (v≤9223372036854775807))=true by simp; omega]; rfl
    simp only [Za3]
    rw [hi,Zaa]
    simp only
    cases hb:(B0 v).beq s with
    | false=>simp [Fe,F0]
    | true =>
     have he:Po v=s.data.toList:=by
      have:((Ep (Po v)).data == s.data)=true:=hb
      have:=eq_of_beq this
      have:=congrArg Array.toList this
      simpa [Ep] using this
     simp only [Zab,Iu,Zaa,Fe]
     by_cases hr : -999999999≤v∧v≤999999999
     · have:=Yc hr.1 hr.2
       rw [he] at this
       unfold UQ at hw
       rw [this] at hw; cases hw
     · rw [PD.2 hr]; rfl
  · simp [Fe,F0]
  · simp [Fe,F0]
def C7:List (ByteArray×DL):=[(B [102,111,117,110,100],DL.mk 4 (Fp.mk 189)),(B [104,101,108,100],DL.mk 4 (Fp.mk 190)),(B [115,105,103,110,101,100],DL.mk 4 (Fp.mk 191)),(B [99,104,101,99,107,101,100],DL.mk 3 (Fp.mk 192)),(B [111,117,116],DL.mk 2 (Fp.mk 193)),(B [105,110],DL.mk 3 (Fp.mk 194)),(B [115,97,108,101],DL.mk 5 (Fp.mk 195)),(B [115,121,110,99],DL.mk 4 (Fp.mk 196)),(B [99,108,111,115,101],DL.mk 5 (Fp.mk 197)),(B [100,114,105,118,101,114],DL.mk 2 (Fp.mk 198)),(B [100,117,116,121],DL.mk 5 (Fp.mk 199)),(B [103,105,118,101],DL.mk 2 (Fp.mk 200))]
theorem AeK (n:Nat):AgE n=some (C7,()):=by kernel_rfl
theorem I4 {α β:Type} (q:α→α→Bool) (hq:∀ a b,q a b=true→a=b):∀ (l:List (α×β))(k:α)(v:β),Dh q l k=some v→(k,v)∈l
 | [],_,_,h=>by cases h
 | p::r,k,v,h=>by
  unfold Dh at h
  cases hp:q p.1 k with
  | true =>
   rw [hp,Zab] at h
   cases h
   have:=hq _ _ hp
   subst this
   simp
  | false =>
   rw [hp,Zad] at h
   exact ZaR _ (I4 q hq r k v h)
theorem Nv {w:ByteArray} {x:DL} (h:Dh Di C7 w=some x):2≤x.many∧x.many≤5∧189≤x.do_.f∧x.do_.f≤200:=by
 have:=I4 Di (fun a b h=>(JK a b).1 h) _ _ _ h
 simp only [C7,Zam,Prod.mk.injEq,Zbd,or_false] at this
 rcases this with⟨_,rfl⟩ | ⟨_,rfl⟩ | ⟨_,rfl⟩ | ⟨_,rfl⟩ | ⟨_,rfl⟩ | ⟨_,rfl⟩ | ⟨_,rfl⟩ | ⟨_,rfl⟩ | ⟨_,rfl⟩ | ⟨_,rfl⟩ | ⟨_,rfl⟩ | ⟨_,rfl⟩ <;> simp
def ER:List ByteArray→Option (List Int)
 | []=>some []
 | s::r=>match UQ s with
  | none=>none
  | some v=>match ER r with
   | none=>none
   | some vs=>some (v::vs)
theorem Iv:∀ {l:List ByteArray} {vs:List Int},ER l=some vs→vs.length=l.length
 | [],vs,h=>by cases h; rfl
 | s::r,vs,h=>by
  unfold ER at h
  split at h
  · cases h
  · split at h
    · cases h
    · rename_i vs' hv
      cases h
      simp [Iv hv]
def Sg (i:Nat) (z vs:List Int):List Int:=z.take i++vs++z.drop (i+vs.length)
theorem AeL {z:List Int} {i:Nat} (hi:i<z.length) (v:Int) (vs:List Int):Sg (i+1) (z.set i v) vs=Sg i z (v::vs):=by
 unfold Sg
 rw [List.take_set,List.drop_set,if_pos (by omega),ZaD hi,List.set_append_right _ _ (by rw [ZaK]; omega),ZaK,Nat.min_eq_left (by omega),Nat.sub_self]
 simp only [List.set_cons_zero,Zau,Za6,List.singleton_append,ZaQ,Zax]
 rw [show i+1+vs.length=i+(vs.length+1) by omega]
theorem Vt (g:Ab) (e:Int) (x:DL) (full:List ByteArray) (hs:∀ s∈full,s.size≤1000000) (hl:full.length≤5):∀ (n i:Nat)(z:List Int),full.length-i<n→i≤full.length→z.length=5→match ER (full.drop i) with
  | some vs=>IS n g e x z full (full.length:Int) (i:Int)=some (.inl (g,((e,()),(x,(Sg i z vs,((),((),((),((),()))))))) ))
  | none=>∃ z',IS n g e x z full (full.length:Int) (i:Int)=some (.inr (g,((e,()),(x,(z',((),(Az.mk 4,())))))))
 | 0,_,_,h,_,_=>absurd h (Zal _)
 | n+1,i,z,h,hi,hz=>by
  rw [IS]
  by_cases hx:i<full.length
  · have hd:full.drop i=full[i]::full.drop (i+1):=Zai hx
    have ih:=fun z=>Vt g e x full hs hl n (i+1) z (by omega) (by omega)
    rw [show decide ((i:Int)<(full.length:Int))=true by simp; omega,Zab,AO hx,Zaa,Adf (hs _ (Zav hx)),Zaa,hd,wN i (by omega)]
    unfold ER
    cases hv:UQ full[i] with
    | none=>exact⟨z,rfl⟩
    | some v =>
     simp only [Za3]
     have h5:z.length.beq 5=true:=by rw [hz]; rfl
     rw [h5,Zab,AO (by omega),Zaa,show((i:Nat):Int).toNat=i from rfl,W7 (by omega),Zaa]
     have:=ih (z.set i v) (by simp [hz])
     cases hr:ER (full.drop (i+1)) with
     | none =>
      rw [hr] at this
      exact this
     | some vs =>
      rw [hr] at this
      simp only
      simp only at this
      rw [this,AeL (by omega)]
  · have hd:full.drop i=[]:=by simp; omega
    rw [show decide ((i:Int)<(full.length:Int))=false by simp; omega,hd]
    simp [ER,Sg]
def BC (text:ByteArray):Option (Int×List Int) :=
 match BY text with
 | []=>none
 | p::r=>match Dh Di C7 p with
  | none=>none
  | some x=>if ((r.length+1:Nat):Int)=x.many+1 then match ER r with
    | none=>none
    | some vs=>some (x.do_.f,vs++List.replicate (5-vs.length) 0)
   else none
def Bg (s:Ae) (f:Int):List Int→Ae×Int
 | [a,b,c,d,e] =>
  if f=189 then DY s (Ak.mk a b c (IK.mk 0) d 0) else
  if f=190 then DY s (Ak.mk a b c (IK.mk 1) d 0) else
  if f=191 then DY s (Ak.mk a b c (IK.mk 2) 0 d) else
  if f=192 then DY s (Ak.mk a b c (IK.mk 3) 0 0) else
  if f=193 then Nu s a b else
  if f=194 then Acb s a b c else
  if f=195 then Hn s (Aa.mk a b c (IK.mk 0) d e) else
  if f=196 then Hn s (Aa.mk a b c (IK.mk 1) d 0) else
  if f=197 then Hn s (Aa.mk a b c (IK.mk 2) d e) else
  if f=198 then PG s a b else
  if f=199 then PH s (AA.mk a b (Rg.mk c d) e) else
  PI s a b
 | _=>(s,4)
def BR (s:Ae) (text:ByteArray):Ae×Int:=match BC text with
 | none=>(s,4)
 | some (f,l)=>if (Bg s f l).2=0 then Bg s f l else(s,(Bg s f l).2)
theorem G9 (c:UInt8):∀ (l:List UInt8),∀ p∈DD c l,p.length≤l.length
 | [],p,h=>by simp [DD] at h; subst h; simp
 | b::l,p,h=>by
  unfold DD at h
  cases hb:b == c with
  | true =>
   rw [hb,Zab] at h
   rcases Zam.1 h with rfl | h
   · simp
   · have:=G9 c l p h; simp; omega
  | false =>
   rw [hb,Zad] at h
   split at h
   · rename_i hn; exact absurd hn (H3 c l)
   · rename_i q r hq
     have h1:=G9 c l q (by rw [hq]; simp)
     rcases Zam.1 h with rfl | h
     · simp; omega
     · have:=G9 c l p (by rw [hq]; simp [h]); simp; omega
theorem QE {s p:ByteArray} (h:p∈BY s):p.size≤s.size:=by
 unfold BY at h
 obtain⟨l,hl,rfl⟩:=ZaY.1 h
 rw [Fd,Lx]
 exact G9 _ _ _ hl
theorem Sh {α:Type} {l:List α} {a b:Nat} (h:a≤b) (h2:b≤l.length):Gl l (a:Int) (b:Int)=some ((l.drop a).take (b-a)):=by
 unfold Gl
 rw [if_pos ⟨by omega,by omega,by omega⟩]
 simp
def Adg (y:(Ab×(Int×Unit)×Unit×Unit) ⊕ (Ab×(Int×Unit)×Unit×Az×Unit)):Option (Ab×Int×Unit):=match y with
 | .inl a=>some (a.1,a.2.1.1,())
 | .inr a=>some (a.1,a.2.2.2.1.errno,())
theorem AiC {x:Option ((Ab×Unit) ⊕ (Ab×Az×Unit))} {s:Ae} {y:Ae×Int} (e0:Int) (h:x=some (CS s y)):((x.bind fun v8=>Sum.elim (fun v9=>some (.inl (v9.fst,((0,()),((),()))))) (fun v9=>some (.inr (v9.fst,((e0,()),((),(v9.snd.fst,())))))) v8).bind Adg)=some (Ab.mk (if y.2=0 then y else(s,y.2)).1,(if y.2=0 then y else(s,y.2)).2,()):=by
 rw [h]
 unfold CS
 by_cases h0:y.2=0
 · rw [if_pos h0,if_pos h0,h0]; rfl
 · rw [if_neg h0,if_neg h0]; rfl
theorem Gg {x:Option ((Ab×Unit) ⊕ (Ab×Az×Unit))} {s:Ae} {y z:Ae×Int} (e0:Int) (h:x=some (CS s y)) (hz:z=y):((x.bind fun v8=>Sum.elim (fun v9=>some (.inl (v9.fst,((0,()),((),()))))) (fun v9=>some (.inr (v9.fst,((e0,()),((),(v9.snd.fst,())))))) v8).bind Adg)=some (Ab.mk (if z.2=0 then z else(s,z.2)).1,(if z.2=0 then z else(s,z.2)).2,()):=by
 subst hz; exact AiC e0 h
theorem Acc:Ag3 (B [32])=true:=by decide
theorem Fg {text p:ByteArray} {r:List ByteArray} (hp:BY text=p::r):BC text=match Dh Di C7 p with
  | none=>none
  | some x=>if ((r.length+1:Nat):Int)=x.many+1 then match ER r with
    | none=>none
    | some vs=>some (x.do_.f,vs++List.replicate (5-vs.length) 0)
   else none:=by
 unfold BC
 rw [hp]
theorem AeM {n:Nat} {s:Ae} {text:ByteArray} (hg:Cs s) (hn:1300<n) (ht:text.size≤1000000):AgG n (Ab.mk s) text=some (Ab.mk (BR s text).1,(BR s text).2,()):=by
 show(Aan n (Ab.mk s) text 0).bind Adg=_
 unfold Aan BR Q6
 rw [Acc,show Nat.blt text.size 4294967281=true from Za2 (by omega),Zb0,Zab,Zaa,AeK,Zaa]
 simp only
 have hsz:∀ q∈BY text,q.size≤1000000:=fun q hq=>ZaM (QE hq) ht
 cases hp:BY text with
 | nil =>
  unfold BY at hp
  exact absurd (ZbD.1 hp) (H3 32 _)
 | cons p r =>
  rw [hp] at hsz
  rw [show Ao (p::r) 0=some p from rfl,Zaa]
  unfold Ct AG
  cases hw:Dh Di C7 p with
  | none =>
   have hpt:=Fg hp
   rw [hw] at hpt
   rw [hpt]
   simp only [Option.isSome_none,Zad,Fe]
   simp [F0,Adg]
  | some x =>
   obtain⟨m1,m2,f1,f2⟩:=Nv hw
   simp only [Option.isSome_some,Zab,Option.getD_some]
   have hwr:IntKind.i64.wrap (x.many+1)=x.many+1:=BG (by omega) (by omega)
   simp only [Fe,Zaa,hwr,Zau]
   by_cases hl:((r.length+1:Nat):Int)=x.many+1
   · have hpt:=Fg hp
     rw [hw] at hpt
     simp only [if_pos hl] at hpt
     rw [Zaf hl]
     simp only [F0,Zab,Za3]
     have hsub:Gl (p::r) 1 ((r.length+1:Nat):Int)=some r:=by
      have:=Sh (l:=p::r) (a:=1) (b:=r.length+1) (by omega) (by simp)
      rw [show((1:Nat):Int)=1 from rfl] at this
      rw [this]
      simp
     rw [hsub,Zaa]
     have hloop:=Vt (Ab.mk s) 0 x r (fun q hq=>hsz q (by simp [hq])) (by omega) n 0 [0,0,0,0,0] (by omega) (by omega) rfl
     rw [show((0:Nat):Int)=0 from rfl,Zar] at hloop
     cases hv:ER r with
     | none =>
      rw [hv] at hloop
      obtain⟨z',hz⟩:=hloop
      rw [hv] at hpt
      rw [hz,hpt]; simp [Adg]
     | some vs =>
      rw [hv] at hloop hpt
      simp only at hpt
      have hvl:=Iv hv
      rw [hpt]
      simp only
      rw [hloop,Zaa]
      simp only [Za3]
      have hlaid:Sg 0 [0,0,0,0,0] vs=vs++List.replicate (5-vs.length) 0:=by
       unfold Sg
       rw [List.take_zero,Zax,Zaw,show([0,0,0,0,0]:List Int)=List.replicate 5 0 from rfl,List.drop_replicate]
      have h5:(vs++List.replicate (5-vs.length) (0:Int)).length=5:=by rw [Zaj,List.length_replicate]; omega
      rw [hlaid]
      generalize vs++List.replicate (5-vs.length) (0:Int)=l at *
      match l,h5 with
      | [a,b,c,d,e],_ =>
       generalize x.do_.f=f at *
       rw [show([a,b,c,d,e]:List Int).length.beq 5=true from rfl,Zab]
       by_cases q0:f=189
       · subst q0; exact Gg _ (AeG hg (by omega)) (by simp [Bg])
       rw [Zae q0,Zad]
       by_cases q1:f=190
       · subst q1; exact Gg _ (Ahe hg (by omega)) (by simp [Bg])
       rw [Zae q1,Zad]
       by_cases q2:f=191
       · subst q2; exact Gg _ (Adc hg (by omega)) (by simp [Bg])
       rw [Zae q2,Zad]
       by_cases q3:f=192
       · subst q3; exact Gg _ (Yo hg (by omega)) (by simp [Bg])
       rw [Zae q3,Zad]
       by_cases q4:f=193
       · subst q4; exact Gg _ (Ahf hg (by omega)) (by simp [Bg])
       rw [Zae q4,Zad]
       by_cases q5:f=194
       · subst q5; exact Gg _ (AiB hg (by omega)) (by simp [Bg])
       rw [Zae q5,Zad]
       by_cases q6:f=195
       · subst q6; exact Gg _ (Ahg hg (by omega)) (by simp [Bg])
       rw [Zae q6,Zad]
       by_cases q7:f=196
       · subst q7; exact Gg _ (Ahh hg (by omega)) (by simp [Bg])
       rw [Zae q7,Zad]
       by_cases q8:f=197
       · subst q8; exact Gg _ (AeH hg (by omega)) (by simp [Bg])
       rw [Zae q8,Zad]
       by_cases q9:f=198
       · subst q9; exact Gg _ (Aa6 hg (by omega)) (by simp [Bg])
       rw [Zae q9,Zad]
       by_cases q10:f=199
       · subst q10; exact Gg _ (AeI hg (by omega)) (by simp [Bg])
       rw [Zae q10,Zad]
       have q11:f=200:=by omega
       subst q11
       exact Gg _ (AeJ hg (by omega)) (by simp [Bg])
   · have hpt:=Fg hp
     rw [hw] at hpt
     simp only [if_neg hl] at hpt
     rw [Zae hl,hpt]; simp [F0,Adg]
def PJ (s s':Ae):Prop:=Cs s'∧s'.outs.length≤s.outs.length+1∧s'.runs.length≤s.runs.length+1∧s'.records.length≤s.records.length+1
def AeN (s:Ae):Prop:=s.outs.length<200∧s.runs.length<200∧s.records.length<200
theorem PJ.refl {s:Ae} (h:Cs s):PJ s s:=⟨h,by omega,by omega,by omega⟩
theorem AeO {l:List Ak} (h:WC l=0):l.length≤40:=by
 unfold WC at h
 cases hr:Hg l with
 | inl e=>rw [hr] at h; have:=JI hr; simp only at h; omega
 | inr y=>exact(JH hr).1
theorem Mz {s:Ae} (hg:Cs s) {c:Ak} (hk:G4 c) (h0:(DY s c).2=0):PJ s (DY s c).1:=by
 unfold DY at h0 ⊢
 split at h0
 · cases h0
 · rename_i h1
   rw [if_neg h1]
   split at h0
   · rename_i h2
     rw [if_pos h2]
     refine⟨{ hg with kind:=fun a ha=>?_,cards:=AeO h2,chk:=h2 },by simp,by simp,by simp⟩
     rcases Zao.1 ha with ha | ha
     · exact hg.kind a ha
     · rw [Zat.1 ha]; exact hk
   · rename_i h2; exact absurd h0 h2
theorem Si {s:Ae} {a b:Int} (h0:(Nu s a b).2=0):(BF a 0 99 && BF b 0 1000000)=true∧FW s.outs a<0∧QD s.runs a b=true∧Cm s.cards a b=([],0)∧(Nu s a b).1={ s with outs:=s.outs++[MV.mk a b] }:=by
 unfold Nu at h0 ⊢
 by_cases c1:(BF a 0 99 && BF b 0 1000000)=true
 · rw [if_pos c1] at h0 ⊢
   by_cases c2:FW s.outs a<0
   · rw [if_pos c2] at h0 ⊢
     by_cases c3:QD s.runs a b=true
     · rw [if_pos c3] at h0 ⊢
       by_cases c4:(Cm s.cards a b).2=0
       · rw [if_pos c4] at h0 ⊢
         by_cases c5:(Cm s.cards a b).1=[]
         · rw [if_pos c5]
           exact⟨c1,c2,c3,Prod.ext c5 c4,rfl⟩
         · rw [if_neg c5] at h0; cases h0
       · rw [if_neg c4] at h0; exact absurd h0 c4
     · rw [if_neg c3] at h0; cases h0
   · rw [if_neg c2] at h0; cases h0
 · rw [if_neg c1] at h0; cases h0
theorem AeP {s:Ae} (hg:Cs s) (hr:AeN s) {a b:Int} (h0:(Nu s a b).2=0):PJ s (Nu s a b).1:=by
 obtain⟨r1,r2,r3⟩:=hr
 rw [(Si h0).2.2.2.2]
 exact⟨{ hg with outs:=by simp; omega },by simp,by simp,by simp⟩
theorem Acd {s:Ae} {a b c:Int} (h0:(Acb s a b c).2=0):∃ (k:Nat)(hk:k<s.outs.length),L1 s.outs a=some k∧(Acb s a b c).1={ s with outs:=s.outs.eraseIdx k,runs:=s.runs++[Ls.mk s.outs[k].bus s.outs[k].fr b c] }∧BF b s.outs[k].fr 1000000=true∧BF c 0 1000=true:=by
 unfold Acb at h0 ⊢
 cases hgo:L1 s.outs a with
 | none=>rw [hgo] at h0; cases h0
 | some k =>
  obtain⟨hk,_⟩:=Sf hgo
  rw [hgo] at h0
  simp only [Zap hk] at h0 ⊢
  by_cases c1:(BF b s.outs[k].fr 1000000 && BF c 0 1000)=true
  · rw [if_pos c1]
    rw [Zan] at c1
    exact⟨k,hk,rfl,rfl,c1.1,c1.2⟩
  · rw [if_neg c1] at h0; cases h0
theorem Ahi {s:Ae} (hg:Cs s) (hr:AeN s) {a b c:Int} (h0:(Acb s a b c).2=0):PJ s (Acb s a b c).1:=by
 obtain⟨r1,r2,r3⟩:=hr
 obtain⟨k,hk,_,e,_⟩:=Acd h0
 rw [e]
 have:=List.length_eraseIdx_le s.outs k
 exact⟨{ hg with outs:=by show(s.outs.eraseIdx k).length≤200; omega,runs:=by simp; omega },by show(s.outs.eraseIdx k).length≤_; omega,by simp,by simp⟩
theorem L2 {s:Ae} {r:Aa} (h0:(Hn s r).2=0):(Hn s r).1={ s with records:=s.records++[r] }∧s.records.any (Bv r)=false∧HN [s.records,[r]]=0:=by
 unfold Hn at h0 ⊢
 by_cases c1:s.records.any (Bv r)=true
 · rw [if_pos c1] at h0; cases h0
 · rw [if_neg c1] at h0 ⊢
   by_cases c2:HN [s.records,[r]]=0
   · rw [if_pos c2]; exact⟨rfl,by simpa using c1,c2⟩
   · rw [if_neg c2] at h0; exact absurd h0 c2
theorem Sj {s:Ae} (hg:Cs s) (hr:AeN s) {r:Aa} (hk:Lz r) (h0:(Hn s r).2=0):PJ s (Hn s r).1:=by
 obtain⟨r1,r2,r3⟩:=hr
 rw [(L2 h0).1]
 exact⟨{ hg with recs:=by simp; omega,rk:=fun a ha=>(Zao.1 ha).elim (hg.rk a) (fun ha=>by rw [Zat.1 ha]; exact hk) },by simp,by simp,by simp⟩
theorem Bs {w:Ai} (h:AP w=0):w.duties.length≤12∧w.drivers.length≤6:=by
 unfold AP at h
 by_cases c1:12<w.duties.length
 · rw [if_pos c1] at h; cases h
 · rw [if_neg c1] at h
   by_cases c2:6<w.drivers.length
   · rw [if_pos c2] at h; cases h
   · exact⟨by omega,by omega⟩
theorem AeQ {s:Ae} (hg:Cs s) {k off:Int} (h0:(PG s k off).2=0):PJ s (PG s k off).1:=by
 unfold PG at h0 ⊢
 by_cases c:AP (FX s.week k off)=0
 · rw [if_pos c]
   obtain⟨w1,w2⟩:=Bs c
   exact⟨{ hg with days:=hg.days,rest:=hg.rest,run:=hg.run,hours:=hg.hours,duties:=w1,drivers:=w2,ros:=hg.ros,wk:=c,drv:=fun d hd=>(Zao.1 hd).elim (hg.drv d) (fun hd=>⟨k,off,Zat.1 hd⟩) },by simp,by simp,by simp⟩
 · rw [if_neg c] at h0; exact absurd h0 c
theorem AeR {s:Ae} (hg:Cs s) {d:AA} (h0:(PH s d).2=0):PJ s (PH s d).1:=by
 unfold PH at h0 ⊢
 by_cases c:AP (G8 s.week d)=0
 · rw [if_pos c]
   obtain⟨w1,w2⟩:=Bs c
   exact⟨{ hg with days:=hg.days,rest:=hg.rest,run:=hg.run,hours:=hg.hours,duties:=w1,drivers:=w2,drv:=hg.drv,ros:=by simp [G8,hg.ros],wk:=c },by simp,by simp,by simp⟩
 · rw [if_neg c] at h0; exact absurd h0 c
theorem AeS {s:Ae} (hg:Cs s) {i k:Int} (h0:(PI s i k).2=0):PJ s (PI s i k).1:=by
 unfold PI at h0 ⊢
 by_cases c1:(BF i 0 ((s.roster.length:Int)-1) && BF k (-1) ((s.week.drivers.length:Int)-1))=true
 · rw [if_pos c1] at h0 ⊢
   by_cases c2:G7 s.week (s.roster.set i.toNat k)=true
   · rw [if_pos c2]
     exact⟨{ hg with ros:=by simp [hg.ros] },by simp,by simp,by simp⟩
   · rw [if_neg c2] at h0; cases h0
 · rw [if_neg c1] at h0; cases h0
theorem Adh {s:Ae} (hg:Cs s) (hr:AeN s) {f:Int} {l:List Int} (h0:(Bg s f l).2=0):PJ s (Bg s f l).1:=by
 unfold Bg at h0 ⊢
 split at h0
 · by_cases q0:f=189
   · rw [if_pos q0] at h0 ⊢; exact Mz hg ⟨by simp,by simp⟩ h0
   rw [if_neg q0] at h0 ⊢
   by_cases q0:f=190
   · rw [if_pos q0] at h0 ⊢; exact Mz hg ⟨by simp,by simp⟩ h0
   rw [if_neg q0] at h0 ⊢
   by_cases q0:f=191
   · rw [if_pos q0] at h0 ⊢; exact Mz hg ⟨by simp,by simp⟩ h0
   rw [if_neg q0] at h0 ⊢
   by_cases q0:f=192
   · rw [if_pos q0] at h0 ⊢; exact Mz hg ⟨by simp,by simp⟩ h0
   rw [if_neg q0] at h0 ⊢
   by_cases q0:f=193
   · rw [if_pos q0] at h0 ⊢; exact AeP hg hr h0
   rw [if_neg q0] at h0 ⊢
   by_cases q0:f=194
   · rw [if_pos q0] at h0 ⊢; exact Ahi hg hr h0
   rw [if_neg q0] at h0 ⊢
   by_cases q0:f=195
   · rw [if_pos q0] at h0 ⊢; exact Sj hg hr ⟨by simp,by simp⟩ h0
   rw [if_neg q0] at h0 ⊢
   by_cases q0:f=196
   · rw [if_pos q0] at h0 ⊢; exact Sj hg hr ⟨by simp,by simp⟩ h0
   rw [if_neg q0] at h0 ⊢
   by_cases q0:f=197
   · rw [if_pos q0] at h0 ⊢; exact Sj hg hr ⟨by simp,by simp⟩ h0
   rw [if_neg q0] at h0 ⊢
   by_cases q0:f=198
   · rw [if_pos q0] at h0 ⊢; exact AeQ hg h0
   rw [if_neg q0] at h0 ⊢
   by_cases q0:f=199
   · rw [if_pos q0] at h0 ⊢; exact AeR hg h0
   rw [if_neg q0] at h0 ⊢
   exact AeS hg h0
 · cases h0
theorem Adi {s:Ae} (hg:Cs s) (hr:AeN s) (t:ByteArray):PJ s (BR s t).1:=by
 unfold BR
 cases BC t with
 | none=>exact PJ.refl hg
 | some y =>
  obtain⟨f,l⟩:=y
  simp only
  by_cases h0:(Bg s f l).2=0
  · rw [if_pos h0]; exact Adh hg hr h0
  · rw [if_neg h0]; exact PJ.refl hg
theorem O4 {s:Ae} {t:ByteArray} (h:(BR s t).2≠0):(BR s t).1=s:=by
 unfold BR at h ⊢
 cases hp:BC t with
 | none=>rfl
 | some y =>
  obtain⟨f,l⟩:=y
  rw [hp] at h
  simp only at h ⊢
  by_cases h0:(Bg s f l).2=0
  · rw [if_pos h0] at h; exact absurd h0 h
  · rw [if_neg h0]
def Aq:Ae:=Ae.mk [] [] [] [] (Ai.mk 7 [] [] 600 5 3000) []
theorem Aa8:Cs Aq where
 kind:=by simp [Aq]
 cards:=by simp [Aq]
 outs:=by simp [Aq]
 runs:=by simp [Aq]
 rk:=by simp [Aq]
 recs:=by simp [Aq]
 days:=rfl
 rest:=rfl
 run:=rfl
 hours:=rfl
 duties:=by simp [Aq]
 drivers:=by simp [Aq]
 drv:=by simp [Aq]
 ros:=rfl
 wk:=rfl
 chk:=rfl
def A9 (s:Ae):List ByteArray→Ae×List Int
 | []=>(s,[])
 | t::r=>((A9 (BR s t).1 r).1,(BR s t).2::(A9 (BR s t).1 r).2)
def MP (m:Nat) (s:Ae):Prop:=Cs s∧s.outs.length+m≤200∧s.runs.length+m≤200∧s.records.length+m≤200
theorem MP.step {m:Nat} {s:Ae} (h:MP (m+1) s) (t:ByteArray):MP m (BR s t).1:=by
 obtain⟨h1,h2,h3,h4⟩:=h
 obtain⟨a,b,c,d⟩:=Adi h1 ⟨by omega,by omega,by omega⟩ t
 exact⟨a,by omega,by omega,by omega⟩
theorem MP.less {m k:Nat} {s:Ae} (h:MP m s) (hk:k≤m):MP k s:=⟨h.1,by have:=h.2.1; omega,by have:=h.2.2.1; omega,by have:=h.2.2.2; omega⟩
theorem Fh:MP 150 Aq:=⟨Aa8,by simp [Aq],by simp [Aq],by simp [Aq]⟩
theorem Ho:∀ (l:List ByteArray)(m:Nat)(s:Ae),MP (m+l.length) s→MP m (A9 s l).1
 | [],m,s,h=>h
 | t::l,m,s,h=>by
  simp only [A9]
  exact Ho l m _ (MP.step (by rw [show m+(t::l).length=m+l.length+1 by simp; omega] at h; exact h) t)
theorem M3:∀ (l:List ByteArray)(s:Ae),(A9 s l).2.length=l.length
 | [],_=>rfl
 | t::l,s=>by simp [A9,M3 l]
theorem Sk (full:List ByteArray) (hs:∀ t∈full,t.size≤1000000) (hl:full.length≤150):∀ (n i:Nat)(s:Ae)(es:List Int),1400+(full.length-i)<n→i≤full.length→MP (full.length-i) s→es.length=i→Dq n (Ab.mk s) es full (full.length:Int) (i:Int)=some (Ab.mk (A9 s (full.drop i)).1,((),(es++(A9 s (full.drop i)).2,())))
 | 0,_,_,_,h,_,_,_=>absurd h (Zal _)
 | n+1,i,s,es,h,hi,hL,he=>by
  rw [Dq]
  by_cases hx:i<full.length
  · have hd:full.drop i=full[i]::full.drop (i+1):=Zai hx
    rw [show decide ((i:Int)<(full.length:Int))=true by simp; omega,Zab,AO hx,Zaa,AeM hL.1 (by omega) (hs _ (Zav hx)),Zaa]
    simp only
    rw [A1 (by simp; omega),Zaa,wN i (by omega)]
    have hL':MP (full.length-(i+1)) (BR s full[i]).1:=MP.step (by rw [show full.length-(i+1)+1=full.length-i by omega]; exact hL) _
    rw [Sk full hs hl n (i+1) _ _ (by omega) (by omega) hL' (by simp [he]),hd]
    simp [A9]
  · have hd:full.drop i=[]:=by simp; omega
    rw [show decide ((i:Int)<(full.length:Int))=false by simp; omega,hd]
    simp [A9]
theorem Ahj {n:Nat} {lines:List ByteArray} (hs:∀ t∈lines,t.size≤1000000) (hl:lines.length≤150) (hn:1600≤n):FH n lines=some (Ab.mk (A9 Aq lines).1,((A9 Aq lines).2,())):=by
 unfold FH
 have h:=Sk lines hs hl n 0 Aq [] (by omega) (by omega) (Fh.less (by omega)) rfl
 rw [show((0:Nat):Int)=0 from rfl,Zar,Zax] at h
 show(Dq n (Ab.mk Aq) [] lines (lines.length:Int) 0).bind _=_
 rw [h]; rfl
theorem AeT {n:Nat} {lines:List ByteArray} (hbig:lines.length≤4000000000000000000) (hn:lines.length<n):∃ b,Ki n lines=some (b,()):=by
 have H:∀ (n i:Nat)(z:Int),lines.length-i<n→i≤lines.length→∃ z',Fv n lines z (i:Int)=some (lines,(z',())):=by
  intro n
  induction n with
  | zero=>intro i z h; exact absurd h (Zal _)
  | succ n ih =>
   intro i z h hi
   rw [Fv]
   by_cases hx:i<lines.length
   · rw [show decide ((i:Int)<(lines.length:Int))=true by simp; omega,Zab,AO hx,Zaa,wN i (by omega)]
     exact ih (i+1) _ (by omega) (by omega)
   · rw [show decide ((i:Int)<(lines.length:Int))=false by simp; omega,Zad]
     exact⟨z,rfl⟩
 obtain⟨z,hz⟩:=H n 0 0 (by omega) (by omega)
 rw [show((0:Nat):Int)=0 from rfl] at hz
 unfold Ki
 rw [hz]
 simp only [Zaa]
 generalize decide ((lines.length:Int)≤30)=b1
 generalize decide ((lines.length:Int)≤52)=b2
 generalize decide ((lines.length:Int)=1)=b3
 generalize decide (z≤1200)=b4
 generalize decide (z≤400)=b5
 cases b1 <;> cases b2 <;> cases b3 <;> cases b4 <;> cases b5 <;> exact⟨_,rfl⟩
theorem Sl (c:UInt8):∀ (p:List UInt8),(∀ b∈p,b≠c)→DD c p=[p]
 | [],_=>rfl
 | b::p,h=>by
  conv=>lhs; unfold DD
  have hb:(b == c)=false:=by simpa using h b (by simp)
  rw [hb,Zad,Sl c p fun x hx=>h x (by simp [hx])]
theorem Sm (c:UInt8) (q:List UInt8):∀ (p:List UInt8),(∀ b∈p,b≠c)→DD c (p++c::q)=p::DD c q
 | [],_=>by simp [DD]
 | b::p,h=>by
  rw [ZaQ]
  conv=>lhs; unfold DD
  have hb:(b == c)=false:=by simpa using h b (by simp)
  rw [hb,Zad,Sm c q p fun x hx=>h x (by simp [hx])]
theorem L3 (l:List UInt8) (hl:l.length≤1000000):∀ (n i fr:Nat)(out:List ByteArray),l.length+1-i<n→i≤l.length→fr≤i→out.length≤i→(∀ b∈(l.drop fr).take (i-fr),b≠32)→CF n (Ep l) out (fr:Int) (i:Int)=some (out++(DD 32 (l.drop fr)).map Ep,())
 | 0,_,_,_,h,_,_,_,_=>absurd h (Zal _)
 | n+1,i,fr,out,h,hi,hf,ho,hb=>by
  rw [CF,Fd,show decide ((i:Int)≤(l.length:Int))=true from Zaf (by omega),Zab]
  have hsub:HR (Ep l) (fr:Int) (i:Int)=some (Ep ((l.drop fr).take (i-fr))):=Vl hf hi
  by_cases hx:i=l.length
  · rw [show decide ((i:Int)=(l.length:Int))=true from Zaf (by omega),ZaC,Zad,hsub,Zaa,A1 (by simp; omega),Zaa,wN i (by omega)]
    have ht:(l.drop fr).take (i-fr)=l.drop fr:=Zbb (by rw [Zbc]; omega)
    rw [ht] at hb ⊢
    rw [Sl 32 _ hb]
    obtain⟨m,rfl⟩:∃ m,n=m+1:=⟨n-1,by omega⟩
    rw [CF,Fd,show decide (((i+1:Nat):Int)≤(l.length:Int))=false from Zae (by omega)]
    rfl
  · have hlt:i<l.length:=by omega
    rw [show decide ((i:Int)=(l.length:Int))=false from Zae (by omega),Za7,Zab,Oy hlt,Zaa,wN i (by omega)]
    have hd:l.drop fr=(l.drop fr).take (i-fr)++l[i]::l.drop (i+1):=by
     conv=>lhs; rw [← Zbe (i-fr) (l.drop fr)]
     rw [List.drop_drop,show fr+(i-fr)=i by omega,Zai hlt]
    by_cases h32:l[i]=32
    · rw [show decide (((l[i].toNat:Nat):Int)=32)=true by rw [h32]; rfl,Zab,hsub,Zaa,A1 (by simp; omega),Zaa]
      rw [L3 l hl n (i+1) (i+1) _ (by omega) (by omega) (by omega) (by simp; omega) (by simp)]
      conv=>rhs; rw [hd,h32,Sm 32 _ _ hb]
      simp
    · have hne : ¬ (((l[i].toNat:Nat):Int)=32):=fun h=>h32 (UInt8.toNat_inj.1 (by show l[i].toNat=32; omega))
      rw [Zae hne,Zad]
      refine L3 l hl n (i+1) fr out (by omega) (by omega) (by omega) (by omega) ?_
      intro b hb'
      have:(l.drop fr).take (i+1-fr)=(l.drop fr).take (i-fr)++[l[i]]:=by
       rw [show i+1-fr=(i-fr)+1 by omega,ZaD (by rw [Zbc]; omega)]
       simp [show fr+(i-fr)=i by omega]
      rw [this] at hb'
      rcases Zao.1 hb' with hb' | hb'
      · exact hb b hb'
      · rw [Zat.1 hb']; exact h32
theorem AeU {n:Nat} {s:ByteArray} (hs:s.size≤1000000) (hn:s.size+2≤n):KQ n s=some (BY s,()):=by
 have hl:s.data.toList.length≤1000000:=by rw [← Lx]; exact hs
 have h:=L3 s.data.toList hl n 0 0 [] (by rw [← Lx]; omega) (by omega) (by omega) (by simp) (by simp)
 rw [Gd,show((0:Nat):Int)=0 from rfl,Zar,Zax] at h
 unfold KQ
 rw [h]; rfl
theorem QF (l:List UInt8) (hl:l.length≤9) (minus:Bool):∀ (n i a:Nat),l.length-i<n→i≤l.length→a<10 ^ i→Ba n minus (Ep l) (a:Int) (i:Int)=some (match PF (a:Int) (l.drop i) with | some v=>.inl (minus,(v,())) | none=>.inr (0,(false,())))
 | 0,_,_,h,_,_=>absurd h (Zal _)
 | n+1,i,a,h,hi,ha=>by
  rw [Ba,Fd]
  by_cases hx:i<l.length
  · have hd:l.drop i=l[i]::l.drop (i+1):=Zai hx
    have h9:10 ^ i≤10 ^ 9:=Zb8 (by decide) (by omega)
    have h8:=l[i].toNat_lt
    rw [show decide ((i:Int)<(l.length:Int))=true from Zaf (by omega),Zab,Oy hx,Zaa,hd]
    unfold PF
    simp only [Zaa]
    by_cases h48:l[i].toNat<48
    · rw [show decide (((l[i].toNat:Nat):Int)<48)=true from Zaf (by omega),Ko.2 h48]; rfl
    · rw [show decide (((l[i].toNat:Nat):Int)<48)=false from Zae (by omega),HM.2 (by omega)]
      by_cases h57:57<l[i].toNat
      · rw [show decide (((l[i].toNat:Nat):Int)>57)=true from Zaf (by omega),Ko.2 h57]; rfl
      · rw [show decide (((l[i].toNat:Nat):Int)>57)=false from Zae (by omega),HM.2 (by omega)]
        simp only [Za7,Zab,Zad,Bool.or_self]
        have e1:IntKind.i64.wrap (IntKind.i64.wrap (10*(a:Int))+IntKind.i64.wrap (IntKind.u8.wrap (((l[i].toNat:Nat):Int)-48)))=((10*a+(l[i].toNat-48):Nat):Int):=by
         rw [Aii (by omega) (by omega),BG (x:=10*(a:Int)) (by omega) (by omega),BG (x:=((l[i].toNat:Nat):Int)-48) (by omega) (by omega),BG (by omega) (by omega)]
         omega
        rw [e1,wN i (by omega),QF l hl minus n (i+1) _ (by omega) (by omega) (by rw [Zb7]; omega)]
        rw [show((10*a+(l[i].toNat-48):Nat):Int)=10*(a:Int)+((l[i].toNat:Int)-48) by omega]
  · have hd:l.drop i=[]:=by simp; omega
    rw [show decide ((i:Int)<(l.length:Int))=false from Zae (by omega),hd]
    rfl
theorem Vu:∀ {l:List UInt8} {i a:Nat} {v:Int},a<10 ^ i→PF (a:Int) l=some v→0≤v∧v<10 ^ (i+l.length)
 | [],i,a,v,ha,h=>by
  have:(a:Int)=v:=Option.some.inj h
  subst this
  exact⟨by omega,by exact_mod_cast ha⟩
 | b::r,i,a,v,ha,h=>by
  unfold PF at h
  cases hb:(Nat.blt b.toNat 48 || Nat.blt 57 b.toNat) with
  | true=>rw [hb] at h; cases h
  | false =>
   rw [hb,Zad] at h
   obtain⟨h1,h2⟩:=Zbq.1 hb
   rw [HM] at h1 h2
   rw [show 10*(a:Int)+((b.toNat:Int)-48)=((10*a+(b.toNat-48):Nat):Int) by omega] at h
   have:=Vu (i:=i+1) (by rw [Zb7]; omega) h
   rwa [show i+1+r.length=i+(b::r).length by simp; omega] at this
def PK (o:Option Int):Int×Bool×Unit:=match o with | some v=>(v,true,()) | none=>(0,false,())
theorem Aa9 {n:Nat} (minus:Bool) {d:List UInt8} (hd:d.length≤9) (hn:10<n) :
  ((Ba n minus (Ep d) 0 0).bind fun v3 =>
    Sum.elim (fun v4=>bif v4.fst then(some (IntKind.i64.wrap (0-v4.snd.fst),(true,()))) else
    some (v4.snd.fst,(true,()))) (fun v4=>some (v4.fst,(v4.snd.fst,()))) (v3))=some (PK ((PF 0 d).map fun v=>bif minus then -v else v)):=by
 have h:=QF d hd minus n 0 0 (by omega) (by omega) (by simp)
 rw [show((0:Nat):Int)=0 from rfl,Zar] at h
 rw [h,Zaa]
 cases hv:PF 0 d with
 | none=>rfl
 | some v =>
  have hb:=Vu (i:=0) (a:=0) (by simp) hv
  have h10:(10:Int) ^ (0+d.length)≤10 ^ 9:=by
   have:(10:Nat) ^ (0+d.length)≤10 ^ 9:=Zb8 (by decide) (by omega)
   exact_mod_cast this
  cases minus with
  | false=>rfl
  | true =>
   simp only [Za3,Zab,Option.map_some]
   rw [BG (x:=0-v) (by omega) (by omega)]
   simp [PK]
theorem Vv {n:Nat} (minus:Bool) (d:List UInt8) (hn:10<n) :
  (bif !decide ((↑(Ep d).size:Int)=0) then(bif !decide ((↑(Ep d).size:Int)>9) then((Le (Ep d) 0).bind fun v2 =>
  bif decide (v2.n=48) then(bif !decide ((↑(Ep d).size:Int)>1) then(bif minus then(some (0,(false,()))) else
  (Ba n minus (Ep d) 0 0).bind fun v3 =>
  Sum.elim (fun v4=>bif v4.fst then(some (IntKind.i64.wrap (0-v4.snd.fst),(true,()))) else
  some (v4.snd.fst,(true,()))) (fun v4=>some (v4.fst,(v4.snd.fst,()))) (v3)) else
  some (0,(false,()))) else
  (Ba n minus (Ep d) 0 0).bind fun v3 =>
  Sum.elim (fun v4=>bif v4.fst then(some (IntKind.i64.wrap (0-v4.snd.fst),(true,()))) else
  some (v4.snd.fst,(true,()))) (fun v4=>some (v4.fst,(v4.snd.fst,()))) (v3)) else
  some (0,(false,()))) else
  some (0,(false,())))=some (PK (match d with
 | []=>none
 | b::r=>bif Nat.blt 9 d.length || (b.toNat == 48 && (Nat.blt 1 d.length || minus)) then none else(PF 0 d).map fun n=>bif minus then -n else n)):=by
 rcases d with _ | ⟨b,r⟩
 · rfl
 · rw [Fd,show decide ((((b::r).length:Nat):Int)=0)=false from Zae (by simp; omega)]
   by_cases h9:9<(b::r).length
   · rw [show decide ((((b::r).length:Nat):Int)>9)=true from Zaf (by omega),Ko.2 h9]; rfl
   · rw [show decide ((((b::r).length:Nat):Int)>9)=false from Zae (by omega),HM.2 (by omega)]
     have ht:=Aa9 (n:=n) minus (d:=b::r) (by omega) hn
     have hz:=Oy (l:=b::r) (i:=0) (by simp)
     rw [show((0:Nat):Int)=0 from rfl] at hz
     rw [hz,Zaa]
     simp only [Za7,Zab,List.getElem_cons_zero,Zbs]
     by_cases h48:b.toNat=48
     · rw [show decide (((b.toNat:Nat):Int)=48)=true from Zaf (by omega),show(b.toNat == 48)=true by simpa using h48]
       by_cases h1:1<(b::r).length
       · rw [show decide ((((b::r).length:Nat):Int)>1)=true from Zaf (by omega),Ko.2 h1]; rfl
       · rw [show decide ((((b::r).length:Nat):Int)>1)=false from Zae (by omega),HM.2 (by omega)]
         cases minus with
         | true=>rfl
         | false=>simp only [Za7,Zab,Zad,ZaF,Zbs]; exact ht
     · rw [show decide (((b.toNat:Nat):Int)=48)=false from Zae (by omega),show(b.toNat == 48)=false by simpa using h48]
       simp only [Zad,Bool.false_and]
       exact ht
theorem AeV {n:Nat} (s:ByteArray) (hn:10<n):KR n s=some (PK (I0 s.data.toList)):=by
 obtain⟨l,rfl⟩:∃ l,s=Ep l:=⟨s.data.toList,(Gd s).symm⟩
 show _=some (PK (I0 l))
 unfold KR
 rcases l with _ | ⟨b,r⟩
 · rfl
 · have hp:decide (((((Ep (b::r)).size:Nat)):Int)>0)=true:=Zaf (by rw [Fd]; simp)
   have hz:=Oy (l:=b::r) (i:=0) (by simp)
   rw [show((0:Nat):Int)=0 from rfl] at hz
   rw [hp,Zab,hz,Zaa]
   simp only [List.getElem_cons_zero]
   by_cases h45:b.toNat=45
   · have he:decide (((b.toNat:Nat):Int)=45)=true:=Zaf (by omega)
     have hs:HR (Ep (b::r)) 1 ((Ep (b::r)).size:Int)=some (Ep r):=by
      have:=Vl (l:=b::r) (a:=1) (b:=(b::r).length) (by simp) (by omega)
      rw [Fd]
      simpa using this
     rw [he,Zab,hs,Zaa,Vv true r hn]
     have hb:(b.toNat == 45)=true:=by simpa using h45
     unfold I0
     simp only [hb,Zab,ZbC,Zar]
     cases r <;> rfl
   · have he:decide (((b.toNat:Nat):Int)=45)=false:=Zae (by omega)
     have hm:=Vv false (b::r) hn
     rw [hz] at hm
     simp only [List.getElem_cons_zero] at hm
     rw [he,Zad,hm]
     have hb:(b.toNat == 45)=false:=by simpa using h45
     unfold I0
     simp only [hb,Zad]
theorem Bh {a b:ByteArray} (h:a≠b):a.beq b=false:=by
 cases hb:a.beq b with
 | false=>rfl
 | true =>
  have h2:(a.data == b.data)=true:=hb
  exact absurd (ByteArray.ext (eq_of_beq h2)) h
theorem B5 {β:Type} {a k:ByteArray} {v:β} {l:List (ByteArray×β)} (h:k≠a):Dh Di ((a,v)::l) k=Dh Di l k:=by
 have:Di a k=false:=by
  cases hb:Di a k with
  | false=>rfl
  | true=>exact absurd ((JK a k).1 hb).symm h
 conv=>lhs; unfold Dh
 simp only [this,Zad]
theorem Ahk (n:Nat) (w:ByteArray):MK n w=some ((match Dh Di C7 w with | some x=>x.many | none=>0),()):=by
 by_cases h1:w=B [102,111,117,110,100]
 · subst h1; kernel_rfl
 by_cases h2:w=B [104,101,108,100]
 · subst h2; kernel_rfl
 by_cases h3:w=B [115,105,103,110,101,100]
 · subst h3; kernel_rfl
 by_cases h4:w=B [99,104,101,99,107,101,100]
 · subst h4; kernel_rfl
 by_cases h5:w=B [111,117,116]
 · subst h5; kernel_rfl
 by_cases h6:w=B [105,110]
 · subst h6; kernel_rfl
 by_cases h7:w=B [115,97,108,101]
 · subst h7; kernel_rfl
 by_cases h8:w=B [115,121,110,99]
 · subst h8; kernel_rfl
 by_cases h9:w=B [99,108,111,115,101]
 · subst h9; kernel_rfl
 by_cases h10:w=B [100,114,105,118,101,114]
 · subst h10; kernel_rfl
 by_cases h11:w=B [100,117,116,121]
 · subst h11; kernel_rfl
 by_cases h12:w=B [103,105,118,101]
 · subst h12; kernel_rfl
 have hm:Dh Di C7 w=none:=by
  unfold C7
  rw [B5 h1,B5 h2,B5 h3,B5 h4,B5 h5,B5 h6,B5 h7,B5 h8,B5 h9,B5 h10,B5 h11,B5 h12]
  rfl
 rw [hm]
 unfold MK
 simp only [Bh h1,Bh h2,Bh h3,Bh h4,Bh h5,Bh h6,Bh h7,Bh h8,Bh h9,Bh h10,Bh h11,Bh h12,Zad]
theorem QG (full:List ByteArray) (k:Nat) (hk:full.length=k+1) (h6:k≤5):∀ (n i:Nat)(l:List Int),full.length+11-i<n→i≤full.length→l.length≤i→Gf n full (k:Int) l (i:Int)=some (match ER (full.drop i) with | some vs=>.inl (full,l++vs,()) | none=>.inr (B [],[],false,()))
 | 0,_,_,h,_,_=>absurd h (Zal _)
 | n+1,i,l,h,hi,hl=>by
  rw [Gf]
  by_cases hx:i<full.length
  · have hd:full.drop i=full[i]::full.drop (i+1):=Zai hx
    rw [show decide ((i:Int)≤(k:Int))=true from Zaf (by omega),Zab,AO hx,Zaa,AeV _ (by omega),Zaa,hd,wN i (by omega)]
    unfold ER
    rw [show I0 full[i].data.toList=UQ full[i] from rfl]
    cases hv:UQ full[i] with
    | none=>rfl
    | some v =>
     simp only [PK,ZaC,Zad]
     rw [A1 (by simp; omega),Zaa,QG full k hk h6 n (i+1) (l++[v]) (by omega) (by omega) (by simp; omega)]
     cases ER (full.drop (i+1)) with
     | none=>rfl
     | some vs=>simp
  · have hd:full.drop i=[]:=by simp; omega
    rw [show decide ((i:Int)≤(k:Int))=false from Zae (by omega),hd]
    simp [ER]
def Nw (text:ByteArray):Option (ByteArray×List Int) :=
 match BY text with
 | []=>none
 | p::r=>match Dh Di C7 p with
  | none=>none
  | some x=>if ((r.length+1:Nat):Int)=x.many+1 then(ER r).map fun vs=>(p,vs) else none
def Sn (o:Option (ByteArray×List Int)):ByteArray×List Int×Bool×Unit:=match o with | some p=>(p.1,p.2,true,()) | none=>(B [],[],false,())
theorem O5 {n:Nat} {s:ByteArray} (hs:s.size≤1000000) (hn:s.size+30≤n):Gr n s=some (Sn (Nw s)):=by
 unfold Gr
 rw [AeU hs (by omega),Zaa]
 unfold Nw
 cases hp:BY s with
 | nil=>exact absurd (ZbD.1 hp) (H3 _ _)
 | cons p r =>
  simp only
  have h0:Ao (p::r) 0=some p:=rfl
  rw [h0,Zaa,Ahk,Zaa]
  cases hw:Dh Di C7 p with
  | none=>rfl
  | some x =>
   obtain⟨h2,h5,_,_⟩:=Nv hw
   simp only
   rw [Zae (show ¬ x.many=0 by omega),Za7,Zab,BG (x:=x.many+1) (by omega) (by omega)]
   by_cases hl:((r.length+1:Nat):Int)=x.many+1
   · rw [if_pos hl,show((((p::r).length:Nat):Int) != x.many+1)=false by simpa using hl,Zad]
     have:=QG (p::r) r.length (by simp) (by omega) n 1 [] (by simp; omega) (by simp) (by simp)
     rw [show((1:Nat):Int)=1 from rfl,show(r.length:Int)=x.many by omega] at this
     rw [this,Zaa,ZbC,Zar]
     cases ER r with
     | none=>rfl
     | some vs=>rfl
   · rw [if_neg hl,show((((p::r).length:Nat):Int) != x.many+1)=true by simpa using hl,Zab]; rfl
theorem QH {t:ByteArray} {f:Int} {l:List Int} (h:BC t=some (f,l)):∃ p r x vs,BY t=p::r∧Dh Di C7 p=some x∧((r.length+1:Nat):Int)=x.many+1∧ER r=some vs∧f=x.do_.f∧l=vs++List.replicate (5-vs.length) 0:=by
 cases hp:BY t with
 | nil=>unfold BY at hp; exact absurd (ZbD.1 hp) (H3 32 _)
 | cons p r =>
  rw [Fg hp] at h
  cases hw:Dh Di C7 p with
  | none=>rw [hw] at h; cases h
  | some x =>
   rw [hw] at h
   simp only at h
   by_cases hl:((r.length+1:Nat):Int)=x.many+1
   · rw [if_pos hl] at h
     cases hv:ER r with
     | none=>rw [hv] at h; cases h
     | some vs =>
      rw [hv] at h
      cases h
      exact⟨p,r,x,vs,rfl,hw,hl,hv,rfl,rfl⟩
   · rw [if_neg hl] at h; cases h
theorem Yp {p:ByteArray} {x:DL} (h:Dh Di C7 p=some x):(p=B [111,117,116]∧x.many=2∧x.do_.f=193)∨(p≠B [111,117,116]∧x.do_.f≠193):=by
 have:=I4 Di (fun a b h=>(JK a b).1 h) _ _ _ h
 simp only [C7,Zam,Prod.mk.injEq,Zbd,or_false] at this
 rcases this with⟨rfl,rfl⟩ | ⟨rfl,rfl⟩ | ⟨rfl,rfl⟩ | ⟨rfl,rfl⟩ | ⟨rfl,rfl⟩ | ⟨rfl,rfl⟩ | ⟨rfl,rfl⟩ | ⟨rfl,rfl⟩ | ⟨rfl,rfl⟩ | ⟨rfl,rfl⟩ | ⟨rfl,rfl⟩ | ⟨rfl,rfl⟩ <;> first | exact .inl ⟨rfl,rfl,rfl⟩ | exact .inr ⟨by decide,by decide⟩
def KX (cards:List Ak) (t:ByteArray):Bool:=match BC t with
 | some (f,a::b::_)=>decide (f=193) && decide ((((Cm cards a b).1.length:Nat):Int)>0)
 | _=>false
theorem Vw {s:ByteArray} (hs:s.size≤1000000) {v:Int} (h:UQ s=some v):Nk s=some (.inl v):=by
 unfold Nk
 obtain⟨_,h2,_,_⟩:=Vn h
 rw [if_pos (by omega),h2]
theorem AiD {a b:ByteArray} (h:a≠b):a.beq b=false:=by
 cases hb:a.beq b with
 | false=>rfl
 | true =>
  have h2:(a.data == b.data)=true:=hb
  exact absurd (ByteArray.ext (eq_of_beq h2)) h
theorem Adj {n:Nat} {t:ByteArray} {g:Ab} (hg:Cs g.state) (hn:300<n) (ht:t.size≤1000000) {y:Int×List Int} (hy:BC t=some y):Ha n t g=some ((g,()),((),(KX g.state.cards t,()))):=by
 obtain⟨f,l⟩:=y
 obtain⟨p,r,x,vs,hp,hw,hl,hv,rfl,rfl⟩:=QH hy
 have hsz:∀ q∈BY t,q.size≤1000000:=fun q hq=>ZaM (QE hq) ht
 unfold Ha Q6 KX
 rw [Acc,show Nat.blt t.size 4294967281=true from Za2 (by omega),Zb0,Zab,Zaa,hp,hy]
 simp only
 rw [show Ao (p::r) 0=some p from rfl,Zaa]
 rw [hp] at hsz
 rcases Yp hw with⟨rfl,hm,hf⟩ | ⟨hne,hf⟩
 · rw [hm] at hl
   obtain⟨r1,r2,rfl⟩:∃ r1 r2,r=[r1,r2]:=by
    rcases r with _ | ⟨r1,_ | ⟨r2,_ | ⟨r3,r4⟩⟩⟩
    · simp at hl
    · simp at hl
    · exact⟨_,_,rfl⟩
    · simp at hl; omega
   have hs1:=hsz r1 (by simp)
   have hs2:=hsz r2 (by simp)
   unfold ER at hv
   cases h1:UQ r1 with
   | none=>rw [h1] at hv; cases hv
   | some a =>
    rw [h1] at hv
    unfold ER at hv
    cases h2:UQ r2 with
    | none=>rw [h2] at hv; cases hv
    | some b =>
     rw [h2] at hv
     unfold ER at hv
     cases hv
     have hb:(B [111,117,116]).beq (B [111,117,116])=true:=by decide
     have ho:=WD (n:=n) (bus:=a) (at_:=b) hg.kind (ZaM hg.cards (by decide)) (by have:=hg.cards; omega)
     rw [hb,ZaC,Zad,show Ao [B [111,117,116],r1,r2] 1=some r1 from rfl,Zaa,Vw hs1 h1,Zaa,Za3,show Ao [B [111,117,116],r1,r2] 2=some r2 from rfl,Zaa,Vw hs2 h2,Zaa,Za3,ho,Zaa,hf]
     rfl
 · rw [AiD hne,Za7,Zab]
   rcases vs++List.replicate (5-vs.length) 0 with _ | ⟨a,_ | ⟨b,c⟩⟩
   · rfl
   · rfl
   · show _=some ((g,()),((),(decide (x.do_.f=193) && decide ((((Cm g.state.cards a b).1.length:Nat):Int)>0),())))
     rw [Zae hf]; rfl
theorem JN {s:Ae} {t:ByteArray} (h:(BR s t).2=0):∃ y,BC t=some y∧(Bg s y.1 y.2).2=0∧(BR s t).1=(Bg s y.1 y.2).1:=by
 unfold BR at h ⊢
 cases hp:BC t with
 | none=>rw [hp] at h; cases h
 | some y =>
  obtain⟨f,l⟩:=y
  rw [hp] at h
  simp only at h ⊢
  by_cases h0:(Bg s f l).2=0
  · rw [if_pos h0]; exact⟨_,rfl,h0,rfl⟩
  · rw [if_neg h0] at h; exact absurd h h0
def Hi (cards:List Ak):List ByteArray→List Int→Nat→List Int
 | t::l,e::es,i=>bif decide (e=0) && KX cards t then(i:Int)::Hi cards l es (i+1) else Hi cards l es (i+1)
 | _,_,_=>[]
theorem Kr (full:List ByteArray) (errs:List Int) (g:Ab) (hg:Cs g.state) (hs:∀ t∈full,t.size≤1000000) (hl:full.length≤1000) (he:errs.length=full.length) (hacc:∀ (i:Nat)(h:i<full.length),errs[i]'(by omega)=0→∃ y,BC full[i]=some y):∀ (n i:Nat)(out:List Int),300+(full.length-i)<n→i≤full.length→out.length≤i→Cw n errs out g full (full.length:Int) (i:Int)=some ((g,()),((),(out++Hi g.state.cards (full.drop i) (errs.drop i) i,())))
 | 0,_,_,h,_,_=>absurd h (Zal _)
 | n+1,i,out,h,hi,ho=>by
  rw [Cw]
  by_cases hx:i<full.length
  · have hd:full.drop i=full[i]::full.drop (i+1):=Zai hx
    have hxe:i<errs.length:=by omega
    have hde:errs.drop i=errs[i]::errs.drop (i+1):=Zai hxe
    rw [show decide ((i:Int)<(full.length:Int))=true by simp; omega,Zab,AO hx,Zaa,AO hxe,Zaa,wN i (by omega),hd,hde]
    unfold Hi
    by_cases h0:errs[i]=0
    · obtain⟨y,hy⟩:=hacc i hx h0
      rw [Zaf h0,Zab,Adj hg (by omega) (hs _ (Zav hx)) hy,Zaa,ZaF]
      simp only
      cases hb:KX g.state.cards full[i] with
      | false =>
       simp only [Zad]
       exact Kr full errs g hg hs hl he hacc n (i+1) out (by omega) (by omega) (by omega)
      | true =>
       simp only [Zab]
       rw [A1 (by simp; omega),Zaa,Kr full errs g hg hs hl he hacc n (i+1) _ (by omega) (by omega) (by simp; omega)]
       simp
    · rw [Zae h0,Zad,Bool.false_and,Zad]
      exact Kr full errs g hg hs hl he hacc n (i+1) out (by omega) (by omega) (by omega)
  · have hd:full.drop i=[]:=by simp; omega
    rw [show decide ((i:Int)<(full.length:Int))=false by simp; omega,hd]
    simp [Hi]
theorem Vx:∀ (l:List ByteArray)(s:Ae)(i:Nat)(h:i<l.length),((A9 s l).2[i]'(by rw [M3]; exact h))=0→∃ y,BC l[i]=some y
 | t::l,s,0,h,h0=>by
  obtain⟨y,hy,_⟩:=JN (s:=s) (t:=t) (by simpa [A9] using h0)
  exact⟨y,by simpa using hy⟩
 | t::l,s,i+1,h,h0=>by
  have:=Vx l (BR s t).1 i (by simpa using h) (by simpa [A9] using h0)
  simpa using this
def Ace (t:ByteArray):Bool:=match BC t with
 | some (f,_)=>decide (f≤192)
 | none=>false
theorem Adk {p:ByteArray} {x:DL} (h:Dh Di C7 p=some x):(p=B [102,111,117,110,100]∧x.do_.f=189∧x.many=4)∨(p=B [104,101,108,100]∧x.do_.f=190∧x.many=4)∨(p=B [115,105,103,110,101,100]∧x.do_.f=191∧x.many=4)∨(p=B [99,104,101,99,107,101,100]∧x.do_.f=192∧x.many=3)∨(p≠B [102,111,117,110,100]∧p≠B [104,101,108,100]∧p≠B [115,105,103,110,101,100]∧p≠B [99,104,101,99,107,101,100]∧¬ x.do_.f≤192):=by
 have:=I4 Di (fun a b h=>(JK a b).1 h) _ _ _ h
 simp only [C7,Zam,Prod.mk.injEq,Zbd,or_false] at this
 rcases this with⟨rfl,rfl⟩ | ⟨rfl,rfl⟩ | ⟨rfl,rfl⟩ | ⟨rfl,rfl⟩ | ⟨rfl,rfl⟩ | ⟨rfl,rfl⟩ | ⟨rfl,rfl⟩ | ⟨rfl,rfl⟩ | ⟨rfl,rfl⟩ | ⟨rfl,rfl⟩ | ⟨rfl,rfl⟩ | ⟨rfl,rfl⟩ <;> first | exact .inl ⟨rfl,rfl,rfl⟩ | exact .inr (.inl ⟨rfl,rfl,rfl⟩) | exact .inr (.inr (.inl ⟨rfl,rfl,rfl⟩)) | exact .inr (.inr (.inr (.inl ⟨rfl,rfl,rfl⟩))) | exact .inr (.inr (.inr (.inr ⟨by decide,by decide,by decide,by decide,by decide⟩)))
theorem Vy (t:ByteArray):(Nw t=none∧BC t=none)∨∃ p x vs,Nw t=some (p,vs)∧Dh Di C7 p=some x∧(vs.length:Int)=x.many∧BC t=some (x.do_.f,vs++List.replicate (5-vs.length) 0):=by
 unfold Nw
 cases hp:BY t with
 | nil=>unfold BY at hp; exact absurd (ZbD.1 hp) (H3 32 _)
 | cons p r =>
  rw [Fg hp]
  simp only
  cases hw:Dh Di C7 p with
  | none=>exact .inl ⟨rfl,rfl⟩
  | some x =>
   simp only
   by_cases hl:((r.length+1:Nat):Int)=x.many+1
   · rw [if_pos hl,if_pos hl]
     cases hv:ER r with
     | none=>exact .inl ⟨rfl,rfl⟩
     | some vs =>
      have:=Iv hv
      exact .inr ⟨p,x,vs,rfl,hw,by omega,rfl⟩
   · rw [if_neg hl,if_neg hl]; exact .inl ⟨rfl,rfl⟩
def GB:List Ls→Int
 | []=>0
 | r::l=>r.miles+GB l
def Du (bus:Int) (l:List Ls):List Ls:=l.filter fun r=>decide (r.bus=bus)
def Yq (r:Ls):Prop:=0≤r.bus∧r.bus≤99∧0≤r.miles∧r.miles≤1000
structure HV (s:Ae):Prop where
 outs:∀ o∈s.outs,0≤o.bus∧o.bus≤99
 runs:∀ r∈s.runs,Yq r
theorem Yr:∀ a b:List Ls,GB (a++b)=GB a+GB b
 | [],b=>by simp [GB]
 | r::a,b=>by simp only [ZaQ,GB]; rw [Yr a b]; omega
theorem Nx:∀ l:List Ls,(∀ r∈l,Yq r)→0≤GB l∧GB l≤1000*(l.length:Int)
 | [],_=>by simp [GB]
 | r::l,h=>by
  have h1:=h r (by simp)
  have h2:=Nx l fun x hx=>h x (by simp [hx])
  obtain⟨_,_,a,b⟩:=h1
  simp only [GB,Zau]
  omega
theorem Vz (bus:Int) (l:List Ls):(Du bus l).length≤l.length:=Zbf _ _
theorem Ks (bus:Int) (full:List Ls) (hr:∀ r∈full,Yq r) (hl:full.length≤1000):∀ (n i:Nat)(a c:Nat),full.length-i<n→i≤full.length→a≤1000*i→c≤i→AZ n bus (a:Int) (c:Int) full (full.length:Int) (i:Int)=some ((a:Int)+GB (Du bus (full.drop i)),((c:Int)+((Du bus (full.drop i)).length:Int),()))
 | 0,_,_,_,h,_,_,_=>absurd h (Zal _)
 | n+1,i,a,c,h,hi,ha,hc=>by
  rw [AZ]
  by_cases hx:i<full.length
  · have hd:full.drop i=full[i]::full.drop (i+1):=Zai hx
    obtain⟨_,_,m0,m1⟩:=hr _ (Zav hx)
    obtain⟨m,hm⟩:∃ m:Nat,full[i].miles=m:=⟨full[i].miles.toNat,by omega⟩
    rw [show decide ((i:Int)<(full.length:Int))=true by simp; omega,Zab,AO hx,Zaa,hd,wN i (by omega)]
    unfold Du
    by_cases hb:full[i].bus=bus
    · rw [Zaf hb,Zab,hm,BG (x:=(a:Int)+(m:Int)) (by omega) (by omega),wN c (by omega),ZaZ (by simpa using hb)]
      have:=Ks bus full hr hl n (i+1) (a+m) (c+1) (by omega) (by omega) (by omega) (by omega)
      rw [show((a+m:Nat):Int)=(a:Int)+(m:Int) by omega] at this
      rw [this]
      unfold Du
      simp only [GB,Zau,hm]
      congr 2
      · omega
      · congr 1; omega
    · rw [Zae hb,Zad,ZaU (by simpa using hb)]
      exact Ks bus full hr hl n (i+1) a c (by omega) (by omega) (by omega) (by omega)
  · have hd:full.drop i=[]:=by simp; omega
    rw [show decide ((i:Int)<(full.length:Int))=false by simp; omega,hd]
    simp [Du,GB]
theorem QI:HV Aq:=⟨by simp [Aq],by simp [Aq]⟩
theorem AaA {s:Ae} (hm:HV s) {f:Int} {l:List Int} (h0:(Bg s f l).2=0):HV (Bg s f l).1∧(f≠194→(Bg s f l).1.runs=s.runs)∧(f=194→∀ a b c r,l=a::b::c::r→GB (Bg s f l).1.runs=GB s.runs+c):=by
 unfold Bg at h0 ⊢
 split at h0
 · rename_i a b c d e
   by_cases q0:f=189
   · rw [if_pos q0] at h0 ⊢; unfold DY; split
     · exact⟨hm,fun _=>rfl,fun q=>by omega⟩
     · split
       · exact⟨⟨hm.outs,hm.runs⟩,fun _=>rfl,fun q=>by omega⟩
       · exact⟨hm,fun _=>rfl,fun q=>by omega⟩
   rw [if_neg q0] at h0 ⊢
   by_cases q0:f=190
   · rw [if_pos q0] at h0 ⊢; unfold DY; split
     · exact⟨hm,fun _=>rfl,fun q=>by omega⟩
     · split
       · exact⟨⟨hm.outs,hm.runs⟩,fun _=>rfl,fun q=>by omega⟩
       · exact⟨hm,fun _=>rfl,fun q=>by omega⟩
   rw [if_neg q0] at h0 ⊢
   by_cases q0:f=191
   · rw [if_pos q0] at h0 ⊢; unfold DY; split
     · exact⟨hm,fun _=>rfl,fun q=>by omega⟩
     · split
       · exact⟨⟨hm.outs,hm.runs⟩,fun _=>rfl,fun q=>by omega⟩
       · exact⟨hm,fun _=>rfl,fun q=>by omega⟩
   rw [if_neg q0] at h0 ⊢
   by_cases q0:f=192
   · rw [if_pos q0] at h0 ⊢; unfold DY; split
     · exact⟨hm,fun _=>rfl,fun q=>by omega⟩
     · split
       · exact⟨⟨hm.outs,hm.runs⟩,fun _=>rfl,fun q=>by omega⟩
       · exact⟨hm,fun _=>rfl,fun q=>by omega⟩
   rw [if_neg q0] at h0 ⊢
   by_cases q0:f=193
   · rw [if_pos q0] at h0 ⊢
     obtain⟨h1,_,_,_,e⟩:=Si h0
     rw [e]
     rw [Zan,Bx,Bx] at h1
     refine⟨⟨fun o ho=>?_,hm.runs⟩,fun _=>rfl,fun q=>by omega⟩
     rcases Zao.1 ho with ho | ho
     · exact hm.outs o ho
     · rw [Zat.1 ho]; exact h1.1
   rw [if_neg q0] at h0 ⊢
   by_cases q0:f=194
   · rw [if_pos q0] at h0 ⊢
     obtain⟨k,hk,_,e,h1,h2⟩:=Acd h0
     rw [e]
     rw [Bx] at h2
     have ho:=hm.outs _ (Zav hk)
     refine⟨⟨fun o ho=>hm.outs o (List.mem_of_mem_eraseIdx ho),fun r hr=>?_⟩,fun q=>absurd q0 q,fun _ a' b' c' r hl=>?_⟩
     · rcases Zao.1 hr with hr | hr
       · exact hm.runs r hr
       · rw [Zat.1 hr]; exact⟨ho.1,ho.2,h2.1,h2.2⟩
     · cases hl
       show GB (s.runs++[_])=_
       rw [Yr]; simp [GB]
   rw [if_neg q0] at h0 ⊢
   have key:∀ s':Ae,s'.outs=s.outs→s'.runs=s.runs→HV s'∧(f≠194→s'.runs=s.runs)∧(f=194→∀ a' b' c' r,[a,b,c,d,e]=a'::b'::c'::r→GB s'.runs=GB s.runs+c'):=fun s' h1 h2=>⟨⟨by rw [h1]; exact hm.outs,by rw [h2]; exact hm.runs⟩,fun _=>h2,fun q=>absurd q q0⟩
   by_cases q1:f=195
   · rw [if_pos q1] at h0 ⊢; rw [(L2 h0).1]; exact key _ rfl rfl
   rw [if_neg q1] at h0 ⊢
   by_cases q1:f=196
   · rw [if_pos q1] at h0 ⊢; rw [(L2 h0).1]; exact key _ rfl rfl
   rw [if_neg q1] at h0 ⊢
   by_cases q1:f=197
   · rw [if_pos q1] at h0 ⊢; rw [(L2 h0).1]; exact key _ rfl rfl
   rw [if_neg q1] at h0 ⊢
   by_cases q1:f=198
   · rw [if_pos q1]; unfold PG; split <;> exact key _ rfl rfl
   rw [if_neg q1] at h0 ⊢
   by_cases q1:f=199
   · rw [if_pos q1]; unfold PH; split <;> exact key _ rfl rfl
   rw [if_neg q1] at h0 ⊢
   unfold PI
   split
   · split <;> exact key _ rfl rfl
   · exact key _ rfl rfl
 · cases h0
theorem AaB {s:Ae} (hm:HV s) (t:ByteArray):HV (BR s t).1:=by
 by_cases h0:(BR s t).2=0
 · obtain⟨y,_,hw,e⟩:=JN h0
   rw [e]; exact(AaA hm hw).1
 · rw [O4 h0]; exact hm
theorem Ny:∀ (l:List ByteArray)(s:Ae),HV s→HV (A9 s l).1
 | [],_,h=>h
 | t::l,s,h=>by simp only [A9]; exact Ny l _ (AaB h t)
theorem Ys {α β:Type} (q:α→α→Bool):∀ (m:List (α×β))(k:α)(v:β)(p:α×β),p∈FY q m k v→p∈m∨p=(k,v)
 | [],k,v,p,h=>.inr (Zat.1 h)
 | x::r,k,v,p,h=>by
  unfold FY at h
  cases hq:q x.1 k with
  | true =>
   rw [hq,Zab] at h
   rcases Zam.1 h with h | h
   · exact .inr h
   · exact .inl (ZaR _ h)
  | false =>
   rw [hq,Zad] at h
   rcases Zam.1 h with h | h
   · exact .inl (by rw [h]; simp)
   · rcases Ys q r k v p h with h | h
     · exact .inl (ZaR _ h)
     · exact .inr h
theorem O6:∀ (l:List Ak)(m:List (Int×Ak))(o:List Int)(m':List (Int×Ak))(o':List Int),WB m o l=some (m',o')→(∀ k c,Dh BE m k=some c→Dh BE m' k=some c)∧(∀ c∈l,Dh BE m' c.number=some c)∧(∀ p∈m',p∈m∨p.2∈l)∧(∀ v∈o',v∈o∨∃ c∈l,c.number=v)∧(∀ v∈o,v∈o')∧(∀ c∈l,Ct BE m c.number=false→c.number∈o')
 | [],m,o,m',o',h=>by
  cases h
  exact⟨fun _ _ h=>h,by simp,fun p hp=>.inl hp,fun v hv=>.inl hv,fun _ h=>h,by simp⟩
 | x::l,m,o,m',o',h=>by
  unfold WB at h
  cases hm:Ct BE m x.number with
  | true =>
   rw [hm,Zab] at h
   cases hs:CP (AG BE m x.number zC) x with
   | false=>rw [hs] at h; cases h
   | true =>
    rw [hs,Zab] at h
    obtain⟨a,b,c,d,e,f⟩:=O6 l m o m' o' h
    have hx:Dh BE m x.number=some x:=by
     have h1:=JF.1 hs
     unfold Ct at hm
     unfold AG at h1
     cases hg:Dh BE m x.number with
     | none=>rw [hg] at hm; cases hm
     | some y=>rw [hg] at h1; exact congrArg some h1
    refine⟨a,fun z hz=>?_,fun p hp=>(c p hp).imp id fun h=>ZaR _ h,fun v hv=>(d v hv).imp id fun⟨z,h1,h2⟩=>⟨z,ZaR _ h1,h2⟩,e,fun z hz hn=>?_⟩
    · rcases Zam.1 hz with rfl | hz
      · exact a _ _ hx
      · exact b z hz
    · rcases Zam.1 hz with rfl | hz
      · rw [hm] at hn; cases hn
      · exact f z hz hn
  | false =>
   rw [hm,Zad] at h
   obtain⟨a,b,c,d,e,f⟩:=O6 l _ _ m' o' h
   have hx:Dh BE m' x.number=some x:=a _ _ (by rw [Gt I2,if_pos rfl])
   have hmo:x.number∈o':=e _ (by simp)
   refine⟨fun k y hy=>a _ _ ?_,fun z hz=>?_,fun p hp=>?_,fun v hv=>?_,fun v hv=>e v (ZaL _ hv),fun z hz hn=>?_⟩
   · rw [Gt I2,if_neg ?_]
     · exact hy
     · rintro rfl
       unfold Ct at hm; rw [hy] at hm; cases hm
   · rcases Zam.1 hz with rfl | hz
     · exact hx
     · exact b z hz
   · rcases c p hp with h | h
     · rcases Ys _ _ _ _ _ h with h | h
       · exact .inl h
       · exact .inr (by rw [h]; simp)
     · exact .inr (ZaR _ h)
   · rcases d v hv with h | ⟨z,h1,h2⟩
     · rcases Zao.1 h with h | h
       · exact .inl h
       · exact .inr ⟨x,by simp,(Zat.1 h).symm⟩
     · exact .inr ⟨z,ZaR _ h1,h2⟩
   · rcases Zam.1 hz with rfl | hz
     · exact hmo
     · by_cases hk:z.number=x.number
       · rw [hk]; exact hmo
       · refine f z hz ?_
         cases hb:Ct BE (FY BE m x.number x) z.number with
         | false=>rfl
         | true =>
          rcases(JJ I2 _ _ _ _).1 hb with h | h
          · exact absurd h.symm hk
          · rw [hn] at h; cases h
theorem V0 {l:List Ak} {y:List (Int×Ak)×List Int} (h:Hg l=.inr y):(∀ c∈l,Dh BE y.1 c.number=some c)∧(∀ p∈y.1,p.2∈l)∧(∀ v,v∈y.2↔∃ c∈l,c.number=v):=by
 obtain⟨_,_,o,h1,h2⟩:=JH h
 obtain⟨a,b,c,d,e,f⟩:=O6 l _ _ _ _ h1
 refine⟨b,fun p hp=>?_,fun v=>?_⟩
 · rcases c p hp with h | h
   · cases h
   · exact h
 · rw [h2,Yh]
   constructor
   · intro hv
     rcases d v hv with h | h
     · cases h
     · exact h
   · rintro⟨c,hc,rfl⟩
     exact f c hc rfl
def Yt (l:List Ak) (bus at_:Int) (c:Ak):Bool:=decide (c.bus=bus) && ((decide (c.kind.n=0) || decide (c.kind.n=1)) && (!decide (at_<c.minute) && l.all fun d=>!(decide (d.minute≤at_) && Nm d c)))
theorem Yu {l:List Ak} {y:List (Int×Ak)×List Int} (h:Hg l=.inr y) (c:Ak) (at_:Int):Pu y.1 c at_=(!decide (at_<c.minute) && l.all fun d=>!(decide (d.minute≤at_) && Nm d c)):=by
 obtain⟨a,b,_⟩:=V0 h
 unfold Pu
 congr 1
 rw [Bool.eq_iff_iff,Za9,Za9]
 constructor
 · intro hh d hd
   exact hh (d.number,d) (I4 BE (fun a b h=>(I2 a b).1 h) _ _ _ (a d hd))
 · intro hh p hp
   exact hh p.2 (b p hp)
theorem AeW {l:List Ak} {bus at_ x:Int} (h:WC l=0) (hb:(BF bus 0 99 && BF at_ 0 1000000)=true):x∈(Cm l bus at_).1↔∃ c∈l,c.number=x∧Yt l bus at_ c=true:=by
 unfold WC at h
 unfold Cm
 cases hr:Hg l with
 | inl e=>rw [hr] at h; have:=JI hr; simp only at h; omega
 | inr y =>
  simp only
  rw [if_pos hb]
  obtain⟨a,b,c⟩:=V0 hr
  unfold Ae7
  simp only [ZaY,Zbp]
  constructor
  · rintro⟨v,⟨hv,hq⟩,rfl⟩
    obtain⟨d,hd,rfl⟩:=(c v).1 hv
    have hg:AG BE y.1 d.number zC=d:=by unfold AG; rw [a d hd]; rfl
    unfold Ajk at hq
    rw [hg] at hq ⊢
    rw [Yu hr] at hq
    exact⟨d,hd,rfl,hq⟩
  · rintro⟨d,hd,rfl,hq⟩
    have hg:AG BE y.1 d.number zC=d:=by unfold AG; rw [a d hd]; rfl
    refine⟨d.number,⟨(c _).2 ⟨d,hd,rfl⟩,?_⟩,by rw [hg]⟩
    unfold Ajk
    rw [hg,Yu hr]
    exact hq
def KY (f:Int):List Int→Ak
 | [a,b,c,d,_]=>if f=189 then Ak.mk a b c (IK.mk 0) d 0 else if f=190 then Ak.mk a b c (IK.mk 1) d 0 else if f=191 then Ak.mk a b c (IK.mk 2) 0 d else Ak.mk a b c (IK.mk 3) 0 0
 | _=>zC
def Yv (t:ByteArray):Ak:=match BC t with
 | some (f,l)=>if f≤192 then KY f l else zC
 | none=>zC
theorem Ahl {n:Nat} {t:ByteArray} (ht:t.size≤1000000) (hn:t.size+30≤n):MM n t=some (Yv t,Ace t,()):=by
 unfold MM
 rw [O5 ht hn,Zaa]
 unfold Nw Ace Yv
 cases hp:BY t with
 | nil=>unfold BY at hp; exact absurd (ZbD.1 hp) (H3 32 _)
 | cons p r =>
  rw [Fg hp]
  simp only
  cases hw:Dh Di C7 p with
  | none=>rfl
  | some x =>
   simp only
   by_cases hl:((r.length+1:Nat):Int)=x.many+1
   · rw [if_pos hl,if_pos hl]
     cases hv:ER r with
     | none=>rfl
     | some vs =>
      have hlen:=Iv hv
      simp only [Sn,Option.map_some,ZaC,Zad]
      rcases Adk hw with⟨rfl,hf,hm⟩ | ⟨rfl,hf,hm⟩ | ⟨rfl,hf,hm⟩ | ⟨rfl,hf,hm⟩ | ⟨h1,h2,h3,h4,hf⟩
      · rw [hm] at hl
        obtain⟨a,b,c,d,rfl⟩:∃ a b c d,vs=[a,b,c,d]:=by
         rcases vs with _ | ⟨a,_ | ⟨b,_ | ⟨c,_ | ⟨d,_ | ⟨e,f⟩⟩⟩⟩⟩ <;> first | exact⟨_,_,_,_,rfl⟩ | (simp at hlen; omega)
        rw [hf]; rfl
      · rw [hm] at hl
        obtain⟨a,b,c,d,rfl⟩:∃ a b c d,vs=[a,b,c,d]:=by
         rcases vs with _ | ⟨a,_ | ⟨b,_ | ⟨c,_ | ⟨d,_ | ⟨e,f⟩⟩⟩⟩⟩ <;> first | exact⟨_,_,_,_,rfl⟩ | (simp at hlen; omega)
        rw [hf]; rfl
      · rw [hm] at hl
        obtain⟨a,b,c,d,rfl⟩:∃ a b c d,vs=[a,b,c,d]:=by
         rcases vs with _ | ⟨a,_ | ⟨b,_ | ⟨c,_ | ⟨d,_ | ⟨e,f⟩⟩⟩⟩⟩ <;> first | exact⟨_,_,_,_,rfl⟩ | (simp at hlen; omega)
        rw [hf]; rfl
      · rw [hm] at hl
        obtain⟨a,b,c,rfl⟩:∃ a b c,vs=[a,b,c]:=by
         rcases vs with _ | ⟨a,_ | ⟨b,_ | ⟨c,_ | ⟨d,e⟩⟩⟩⟩ <;> first | exact⟨_,_,_,rfl⟩ | (simp at hlen; omega)
        rw [hf]; rfl
      · rw [Bh h1,Bh h2,Bh h3,Bh h4,Zae hf,if_neg hf]; rfl
   · rw [if_neg hl,if_neg hl]; rfl
theorem Jc {s:Ae} {c:Ak} (h0:(DY s c).2=0):(DY s c).1={ s with cards:=s.cards++[c] }:=by
 unfold DY at h0 ⊢
 split at h0
 · cases h0
 · rename_i h1
   rw [if_neg h1]
   split at h0
   · rename_i h2; rw [if_pos h2]
   · rename_i h2; exact absurd h0 h2
theorem AeX {t:ByteArray} {f:Int} {l:List Int} (h:BC t=some (f,l)):189≤f∧f≤200∧l.length=5:=by
 obtain⟨p,r,x,vs,_,hw,hl,hv,rfl,rfl⟩:=QH h
 obtain⟨m1,m2,f1,f2⟩:=Nv hw
 have:=Iv hv
 exact⟨f1,f2,by rw [Zaj,List.length_replicate]; omega⟩
theorem PL (cards:List Ak):∀ (l:List ByteArray)(es:List Int)(i:Nat),(Hi cards l es i).length≤l.length
 | [],_,_=>by simp [Hi]
 | _::_,[],_=>by simp [Hi]
 | t::l,e::es,i=>by
  have:=PL cards l es (i+1)
  unfold Hi
  cases decide (e=0) && KX cards t
  · simp; omega
  · simp; omega
def Lj (cur:Int) (s:Aj):Prop:=-1≤s.day∧s.day≤cur∧0≤s.row∧s.row≤5∧0≤s.used∧s.used≤1440*(s.day+1)∧-20000≤s.free∧s.free≤20000
def AjV (a b:Aj):Prop:=a.free≤b.free∧a.used≤b.used∧((a.day=b.day∧a.row≤b.row)∨a.day<b.day)
theorem BO {d:AA} (h:G5 d=true):0≤d.day∧d.day≤6∧0≤d.on∧d.on≤1439∧d.on≤d.off.lo∧d.off.lo≤d.off.hi∧d.off.hi≤d.on+1440:=by
 unfold G5 at h
 simp only [Zan,Bx,decide_eq_true_eq] at h
 omega
theorem So {cur:Int} {s:Aj} {d:AA} {e:Int} (hs:Lj cur s) (hd:G5 d=true) (hc:cur≤6) (hne:s.day≠d.day) (h1:d.on≤e) (h2:e≤d.on+1440):Hh s d e=Aj.mk (d.day*1440+e) (if s.day=d.day-1 then s.row+1 else 1) (s.used+(e-d.on)) d.day:=by
 obtain⟨d1,d2,d3,d4,d5,d6,d7⟩:=BO hd
 obtain⟨s1,s2,s3,s4,s5,s6,s7,s8⟩:=hs
 unfold Hh R2
 rw [Zae hne,Zad,BG (x:=d.day-1) (by omega) (by omega),BG (x:=d.day*1440) (by omega) (by omega),BG (x:=e-d.on) (by omega) (by omega),BG (x:=d.day*1440+e) (by omega) (by omega),BG (x:=s.used+(e-d.on)) (by omega) (by omega),BG (x:=s.row+1) (by omega) (by omega),BG (x:=0+1) (by omega) (by omega)]
 by_cases h:s.day=d.day-1
 · rw [show(s.day != d.day-1)=false by simp [h],Zad,if_pos h]
 · rw [show(s.day != d.day-1)=true by simp [h],Zab,if_neg h]; rfl
theorem Ahm {w:Ai} {k i:Int} {d:AA} {s:Aj} {j:Nat}:RK w k i d s j=[]↔Ff w k d s j=true:=by
 unfold RK
 cases Ff w k d s j <;> simp
theorem Sp {w:Ai} {k i:Int} {d:AA} {s:Aj}:Jz w k i d s=[]↔Ff w k d s 0=true∧Ff w k d s 1=true∧Ff w k d s 2=true∧Ff w k d s 3=true∧Ff w k d s 4=true:=by
 unfold Jz
 simp only [Zbz,Ahm]
theorem V1 {w:Ai} {k cur:Int} {s:Aj} {d:AA} (hw:wkOk w) (hs:Lj cur s) (hd:G5 d=true) (hc:cur≤6):(Ff w k d s 1=true∧Ff w k d s 2=true∧Ff w k d s 3=true∧Ff w k d s 4=true)↔s.day≠d.day∧d.day*1440+d.on-s.free≥600∧(if s.day=d.day-1 then s.row+1 else 1)≤5:=by
 obtain⟨d1,d2,d3,d4,d5,d6,d7⟩:=BO hd
 have hs':=hs
 obtain⟨s1,s2,s3,s4,s5,s6,s7,s8⟩:=hs'
 show(true=true∧(s.day != d.day)=true∧(bif !decide (s.day=d.day) then decide (R2 (R2 (R2 (d.day*1440)+d.on)-s.free)≥w.rest) else true)=true∧(bif !decide (s.day=d.day) then decide ((Hh s d d.on).row≤w.run) else true)=true)↔_
 by_cases hne:s.day=d.day
 · simp [hne]
 · rw [So hs hd hc hne (by omega) (by omega),Zae hne,hw.2.1,hw.2.2.1]
   unfold R2
   rw [BG (x:=d.day*1440) (by omega) (by omega),BG (x:=d.day*1440+d.on) (by omega) (by omega),BG (x:=d.day*1440+d.on-s.free) (by omega) (by omega)]
   simp [hne]
theorem AaC (w:Ai) (k:Int) (d:AA) (s s':Aj):Ff w k d s 0=Ff w k d s' 0:=rfl
theorem AeY {w:Ai} {k i cur:Int} {s:Aj} {d:AA} (hw:wkOk w) (hs:Lj cur s) (hd:G5 d=true) (hc:cur≤6) (hday:d.day=cur) (hb:Jz w k i d s=[]):Lj cur (Hh s d d.off.hi):=by
 obtain⟨d1,d2,d3,d4,d5,d6,d7⟩:=BO hd
 obtain⟨r0,r1⟩:=Sp.1 hb
 obtain⟨q1,q2,q3⟩:=(V1 hw hs hd hc).1 r1
 rw [So hs hd hc q1 (by omega) (by omega)]
 obtain⟨s1,s2,s3,s4,s5,s6,s7,s8⟩:=hs
 unfold Lj
 simp only
 refine⟨by omega,by omega,?_,q3,by omega,by omega,by omega,by omega⟩
 split <;> omega
theorem O7 {α:Type} (l:List α) (i k:Nat) (x z:α):(l.set i x).getD k z=if i=k∧i<l.length then x else l.getD k z:=by
 simp only [ZaT,List.getElem?_set]
 by_cases h:i=k
 · subst h
   by_cases h2:i<l.length
   · simp [h2]
   · simp [h2]
 · simp [h]
def AiE (cur:Int) (a b:List Aj):Prop:=a.length=6∧b.length=6∧∀ k:Nat,k<6→Lj cur (a.getD k Ie)∧Lj cur (b.getD k Ie)∧AjV (a.getD k Ie) (b.getD k Ie)
theorem Lj.up {a b:Int} {s:Aj} (h:Lj a s) (hab:a≤b):Lj b s:=⟨h.1,by have:=h.2.1; omega,h.2.2⟩
theorem Adl (w:Ai) (r:List Int) (day:Int) (st:List Ah×List Aj) (i:Nat) (d:AA):∃ e,(CQ w r day st i d).1=st.1++e:=by
 unfold CQ
 cases decide (d.day=day)
 · exact⟨[],by simp⟩
 · cases decide (r.getD i (-1)=-1)
   · exact⟨_,rfl⟩
   · exact⟨[],by simp⟩
theorem Sq (w:Ai) (r:List Int) (day:Int):∀ (l:List AA)(i:Nat)(st:List Ah×List Aj),∃ e,(CH w r day i st l).1=st.1++e
 | [],i,st=>⟨[],by simp [CH]⟩
 | d::l,i,st=>by
  obtain⟨e,he⟩:=Sq w r day l (i+1) (CQ w r day st i d)
  obtain⟨e2,he2⟩:=Adl w r day st i d
  exact⟨e2++e,by simp only [CH]; rw [he,he2,Za6]⟩
theorem V2 (w:Ai) (r:List Int):∀ (k day:Nat)(st:List Ah×List Aj),∃ e,(Cx w r k day st).1=st.1++e
 | 0,_,st=>⟨[],by simp [Cx]⟩
 | k+1,day,st=>by
  obtain⟨e,he⟩:=V2 w r k (day+1) (CH w r (day:Int) 0 st w.duties)
  obtain⟨e2,he2⟩:=Sq w r (day:Int) w.duties 0 st
  exact⟨e2++e,by simp only [Cx]; rw [he,he2,Za6]⟩
theorem Sr {a b e:List Ah} (h:b=a++e) (hb:b=[]):a=[]:=by
 rw [hb] at h
 exact(Zbz.1 h.symm).1
theorem AiE.up {a b:Int} {x y:List Aj} (h:AiE a x y) (hab:a≤b):AiE b x y:=⟨h.1,h.2.1,fun k hk=>by
 obtain⟨p,q,s⟩:=h.2.2 k hk
 exact⟨p.up hab,q.up hab,s⟩⟩
theorem Ss {w:Ai} {now:List Aj}:∀ (k i:Nat),G6 w now k i=[]↔∀ j,i≤j→j<i+k→¬ (now.getD j Ie).used>w.hours
 | 0,i=>⟨fun _ j h1 h2=>by omega,fun _=>rfl⟩
 | k+1,i=>by
  unfold G6
  rw [Zbz,Ss k (i+1)]
  by_cases h:(now.getD i Ie).used>w.hours
  · rw [Zaf h]
    constructor
    · rintro⟨h1,_⟩; cases h1
    · intro hh; exact absurd h (hh i (by omega) (by omega))
  · rw [Zae h]
    constructor
    · rintro⟨_,h2⟩ j h3 h4
      by_cases hj:j=i
      · subst hj; exact h
      · exact h2 j (by omega) (by omega)
    · intro hh
      exact⟨rfl,fun j h3 h4=>hh j (by omega) (by omega)⟩
theorem PM {w:Ai} (h:AP w=0):(∀ d∈w.duties,G5 d=true)∧∀ d∈w.drivers,Nt d=true:=by
 obtain⟨h1,h2⟩:=Bs h
 unfold AP at h
 rw [if_neg (by omega),if_neg (by omega)] at h
 cases ha:w.duties.all G5 with
 | false=>rw [ha] at h; cases h
 | true =>
  cases hb:w.drivers.all Nt with
  | false=>rw [ha,hb] at h; cases h
  | true=>exact⟨Za9.1 ha,Za9.1 hb⟩
theorem Yw {α:Type} (l:List α) (k:Nat) (z:α):l.getD k z∈l∨l.getD k z=z:=by
 by_cases h:k<l.length
 · left
   rw [ZaT,Zap h]
   exact Zav h
 · right
   rw [ZaT,Za5 (by omega)]; rfl
theorem Acf:Lj 0 Ie:=by unfold Lj Ie; decide
theorem AaD {w:Ai} (hw:wkOk w) (h:AP w=0) (k:Nat):Lj 0 ((AI w).getD k Ie):=by
 rcases Yw (AI w) k Ie with hm | hm
 · unfold AI at hm
   rcases Zao.1 hm with hm | hm
   · obtain⟨d,hd,he⟩:=ZaY.1 hm
     obtain⟨x,off,rfl⟩:=hw.2.2.2.2.2.2 d hd
     have hr:=(PM h).2 _ hd
     unfold Nt at hr
     rw [Zan,Bx] at hr
     have hr2:=hr.2
     simp only at hr2
     unfold AI
     rw [← he]
     unfold Lj
     simp only
     omega
   · unfold AI
     rw [List.eq_of_mem_replicate hm]
     exact Acf
 · rw [hm]; exact Acf
theorem I5 {w:Ai} {r:List Int}:Eu w r=[]↔(Cx w r 7 0 ([],AI w)).1=[]∧∀ j,j<w.drivers.length→¬ ((Cx w r 7 0 ([],AI w)).2.getD j Ie).used>w.hours:=by
 unfold Eu
 rw [Zbz,Ss]
 constructor
 · rintro⟨a,b⟩; exact⟨a,fun j hj=>b j (by omega) (by omega)⟩
 · rintro⟨a,b⟩; exact⟨a,fun j _ hj=>b j (by omega)⟩
theorem Hp {w:Ai} {r:List Int}:G7 w r=true↔AP w=0∧Dr w r∧Eu w r=[]:=by
 unfold G7
 rw [Zan,Zan,Sc,decide_eq_true_eq,decide_eq_true_eq]
theorem O8 {w:Ai} {r:List Int} (h:Dr w r) (i:Nat) : -1≤r.getD i (-1)∧(r.getD i (-1)<(w.drivers.length:Int)∨r.getD i (-1)=-1):=by
 rcases Yw r i (-1) with hm | hm
 · have:=h.2 _ hm; omega
 · omega
theorem V3 (w:Ai) (r:List Int) (day:Int) (d:AA):∀ (l:List AA)(i:Nat)(st:List Ah×List Aj),CH w r day i st (l++[d])=CQ w r day (CH w r day i st l) (i+l.length) d
 | [],i,st=>by simp [CH]
 | x::l,i,st=>by
  simp only [ZaQ,CH]
  rw [V3 w r day d l (i+1)]
  rw [show i+1+l.length=i+(x::l).length by simp; omega]
theorem WH {w:Ai} {r:List Int} {day:Int} {st:List Ah×List Aj} {i:Nat} {d:AA} (h:r.getD i (-1)=-1):CQ w r day st i d=st:=by
 unfold CQ
 rw [h]
 cases decide (d.day=day) <;> rfl
theorem V4 {w w':Ai} (h1:w'.rest=w.rest) (h2:w'.run=w.run) {k i:Int} (h3:Ao w'.drivers k=Ao w.drivers k) (d:AA) (s:Aj):Jz w' k i d s=Jz w k i d s:=by
 have hr:∀ j,Ff w' k d s j=Ff w k d s j:=fun j=>by
  match j with
  | 0=>show(match Ao w'.drivers k with | some v=>_ | none=>true)=(match Ao w.drivers k with | some v=>_ | none=>true); rw [h3]
  | 1=>rfl
  | 2=>rfl
  | 3=>show(bif !decide (s.day=d.day) then decide (_≥w'.rest) else true)=(bif !decide (s.day=d.day) then decide (_≥w.rest) else true); rw [h1]
  | j+4=>show(bif !decide (s.day=d.day) then decide (_≤w'.run) else true)=(bif !decide (s.day=d.day) then decide (_≤w.run) else true); rw [h2]
 unfold Jz RK
 simp only [hr]
theorem AaE {w w':Ai} (h1:w'.rest=w.rest) (h2:w'.run=w.run) (h3:w'.drivers=w.drivers) {r r':List Int} {i:Nat} (hr:r'.getD i (-1)=r.getD i (-1)) (day:Int) (st:List Ah×List Aj) (d:AA):CQ w' r' day st i d=CQ w r day st i d:=by
 unfold CQ
 rw [hr,V4 h1 h2 (by rw [h3])]
theorem V5 {w w':Ai} (h1:w'.rest=w.rest) (h2:w'.run=w.run) (h3:w'.drivers=w.drivers) {r r':List Int} (hr:∀ i,r'.getD i (-1)=r.getD i (-1)) (day:Int):∀ (l:List AA)(i:Nat)(st:List Ah×List Aj),CH w' r' day i st l=CH w r day i st l
 | [],_,_=>rfl
 | d::l,i,st=>by
  simp only [CH]
  rw [AaE h1 h2 h3 (hr i),V5 h1 h2 h3 hr day l]
theorem V6 (r:List Int) (i:Nat):(r++[-1]).getD i (-1)=r.getD i (-1):=by
 simp only [ZaT]
 by_cases h:i<r.length
 · rw [Zay h]
 · rw [Zbg (by omega),Za5 (by omega:r.length≤i)]
   cases h2:i-r.length with
   | zero=>rfl
   | succ m=>rfl
theorem Su {w:Ai} (d:AA) {r:List Int} (hl:r.length=w.duties.length):∀ (k day:Nat)(st:List Ah×List Aj),Cx (G8 w d) (r++[-1]) k day st=Cx w r k day st
 | 0,_,_=>rfl
 | k+1,day,st=>by
  simp only [Cx]
  have:CH (G8 w d) (r++[-1]) (day:Int) 0 st (G8 w d).duties=CH w r (day:Int) 0 st w.duties:=by
   show CH (G8 w d) (r++[-1]) (day:Int) 0 st (w.duties++[d])=_
   rw [V3,WH (by rw [V6,ZaT,Za5 (by omega)]; rfl)]
   exact V5 (w:=w) (w':=G8 w d) rfl rfl rfl (V6 r) _ _ _ _
  rw [this,Su d hl k]
theorem AaF {w:Ai} {d:AA} {r:List Int} (h:G7 w r=true) (hw:AP (G8 w d)=0):G7 (G8 w d) (r++[-1])=true:=by
 obtain⟨h1,h2,h3⟩:=Hp.1 h
 refine Hp.2 ⟨hw,⟨by simp [G8,h2.1],fun x hx=>?_⟩,?_⟩
 · rcases Zao.1 hx with hx | hx
   · exact h2.2 x hx
   · rw [Zat.1 hx]; exact⟨by omega,by omega⟩
 · obtain⟨b1,b2⟩:=I5.1 h3
   have e:=Su d h2.1 7 0 ([],AI w)
   refine I5.2 ?_
   show(Cx (G8 w d) (r++[-1]) 7 0 ([],AI w)).1=[]∧_
   rw [show AI (G8 w d)=AI w from rfl,e]
   exact⟨b1,b2⟩
def Sv (n:Nat) (a b:List Aj):Prop:=a.length=6∧b.length=6∧(∀ k:Nat,k<n→a.getD k Ie=b.getD k Ie)∧(a.getD n Ie).used=0
theorem Adm {w w':Ai} (h1:w'.rest=w.rest) (h2:w'.run=w.run) {x:AJ} (h3:w'.drivers=w.drivers++[x]) {r:List Int} (hr:∀ i:Nat,-1≤r.getD i (-1)∧r.getD i (-1)<(w.drivers.length:Int)) (day:Int) {st st':List Ah×List Aj} (hs:Sv w.drivers.length st'.2 st.2) (he:st'.1=st.1) (i:Nat) (d:AA):(CQ w' r day st' i d).1=(CQ w r day st i d).1∧Sv w.drivers.length (CQ w' r day st' i d).2 (CQ w r day st i d).2:=by
 unfold CQ
 cases decide (d.day=day) with
 | false=>exact⟨he,hs⟩
 | true =>
  obtain⟨b0,b1⟩:=hr i
  by_cases hn:r.getD i (-1)=-1
  · rw [Zaf hn]; exact⟨he,hs⟩
  · rw [Zae hn]
    simp only [Zab,Zad]
    obtain⟨k,hk⟩:∃ k:Nat,r.getD i (-1)=k:=⟨(r.getD i (-1)).toNat,by omega⟩
    rw [hk]
    rw [hk] at b1
    rw [show((k:Int)).toNat=k from rfl]
    have hkn:k<w.drivers.length:=by omega
    obtain⟨l1,l2,hall,hu⟩:=hs
    have hi:Ao w'.drivers (k:Int)=Ao w.drivers (k:Int):=by
     show w'.drivers[k]? = w.drivers[k]?
     rw [h3,Zay hkn]
    rw [hall k hkn,V4 h1 h2 hi,he]
    refine⟨rfl,by simp [l1],by simp [l2],fun j hj=>?_,?_⟩
    · rw [O7,O7]
      by_cases hjk:k=j
      · by_cases hk6:k<6
        · rw [if_pos ⟨hjk,by omega⟩,if_pos ⟨hjk,by omega⟩]
        · rw [if_neg fun h=>hk6 (by omega),if_neg fun h=>hk6 (by omega)]
          exact hall j hj
      · rw [if_neg fun h=>hjk h.1,if_neg fun h=>hjk h.1]
        exact hall j hj
    · rw [O7,if_neg fun h=>by omega]
      exact hu
theorem Yx {w w':Ai} (h1:w'.rest=w.rest) (h2:w'.run=w.run) {x:AJ} (h3:w'.drivers=w.drivers++[x]) {r:List Int} (hr:∀ i:Nat,-1≤r.getD i (-1)∧r.getD i (-1)<(w.drivers.length:Int)) (day:Int):∀ (l:List AA)(i:Nat)(st st':List Ah×List Aj),Sv w.drivers.length st'.2 st.2→st'.1=st.1→(CH w' r day i st' l).1=(CH w r day i st l).1∧Sv w.drivers.length (CH w' r day i st' l).2 (CH w r day i st l).2
 | [],i,st,st',hs,he=>⟨he,hs⟩
 | d::l,i,st,st',hs,he=>by
  obtain⟨a,b⟩:=Adm h1 h2 h3 hr day hs he i d
  exact Yx h1 h2 h3 hr day l (i+1) _ _ b a
theorem V7 {w:Ai} {k0 off:Int} {r:List Int} (hr:∀ i:Nat,-1≤r.getD i (-1)∧r.getD i (-1)<(w.drivers.length:Int)):∀ (k day:Nat)(st st':List Ah×List Aj),Sv w.drivers.length st'.2 st.2→st'.1=st.1→(Cx (FX w k0 off) r k day st').1=(Cx w r k day st).1∧Sv w.drivers.length (Cx (FX w k0 off) r k day st').2 (Cx w r k day st).2
 | 0,_,_,_,hs,he=>⟨he,hs⟩
 | k+1,day,st,st',hs,he=>by
  simp only [Cx]
  obtain⟨a,b⟩:=Yx (w:=w) (w':=FX w k0 off) rfl rfl rfl hr (day:Int) w.duties 0 st st' hs he
  exact V7 hr k (day+1) _ _ b a
theorem AaG {w:Ai} {k0 off:Int} (h:w.drivers.length<6):Sv w.drivers.length (AI (FX w k0 off)) (AI w):=by
 refine⟨Jb (by simp [FX]; omega),Jb (by omega),fun k hk=>?_,?_⟩
 · unfold AI FX
   simp only [ZaT]
   rw [Zay (by simp; omega),Zay (by simp; omega),List.map_append,Zay (by simp; omega)]
 · unfold AI FX
   simp only [ZaT]
   rw [Zay (by simp),List.map_append,Zbg (by simp)]
   simp
theorem WI {w:Ai} {k0 off:Int} {r:List Int} (h:G7 w r=true) (hw:AP (FX w k0 off)=0) (hh:w.hours=3000):G7 (FX w k0 off) r=true:=by
 obtain⟨h1,h2,h3⟩:=Hp.1 h
 have hl:w.drivers.length<6:=by
  have:=(Bs hw).2
  simp [FX] at this
  omega
 by_cases hr:∀ i:Nat,-1≤r.getD i (-1)∧r.getD i (-1)<(w.drivers.length:Int)
 · refine Hp.2 ⟨hw,⟨h2.1,fun x hx=>by have:=h2.2 x hx; refine⟨this.1,?_⟩; simp [FX]; omega⟩,?_⟩
   obtain⟨b1,b2⟩:=I5.1 h3
   obtain⟨e1,e2⟩:=V7 (k0:=k0) (off:=off) hr 7 0 ([],AI w) ([],AI (FX w k0 off)) (AaG hl) rfl
   refine I5.2 ⟨by rw [e1]; exact b1,fun j hj=>?_⟩
   have hj':j<w.drivers.length+1:=by simpa [FX] using hj
   by_cases hjn:j<w.drivers.length
   · rw [e2.2.2.1 j hjn]; exact b2 j hjn
   · have:j=w.drivers.length:=by omega
     rw [this,e2.2.2.2,show(FX w k0 off).hours=3000 from hh]; omega
 · exact absurd (fun i=>by have:=O8 h2 i; exact⟨this.1,by omega⟩) hr
def I6 (s:Ae):Prop:=G7 s.week s.roster=true
theorem O9:I6 Aq:=by unfold I6; decide
theorem Yy {s:Ae} (hg:Cs s) (h:I6 s) {f:Int} {l:List Int} (h0:(Bg s f l).2=0):I6 (Bg s f l).1:=by
 unfold Bg at h0 ⊢
 split at h0
 · by_cases q0:f=189
   · rw [if_pos q0] at h0 ⊢; rw [Jc h0]; exact h
   rw [if_neg q0] at h0 ⊢
   by_cases q0:f=190
   · rw [if_pos q0] at h0 ⊢; rw [Jc h0]; exact h
   rw [if_neg q0] at h0 ⊢
   by_cases q0:f=191
   · rw [if_pos q0] at h0 ⊢; rw [Jc h0]; exact h
   rw [if_neg q0] at h0 ⊢
   by_cases q0:f=192
   · rw [if_pos q0] at h0 ⊢; rw [Jc h0]; exact h
   rw [if_neg q0] at h0 ⊢
   by_cases q0:f=193
   · rw [if_pos q0] at h0 ⊢; rw [(Si h0).2.2.2.2]; exact h
   rw [if_neg q0] at h0 ⊢
   by_cases q0:f=194
   · rw [if_pos q0] at h0 ⊢; obtain⟨_,_,_,e,_⟩:=Acd h0; rw [e]; exact h
   rw [if_neg q0] at h0 ⊢
   by_cases q0:f=195
   · rw [if_pos q0] at h0 ⊢; rw [(L2 h0).1]; exact h
   rw [if_neg q0] at h0 ⊢
   by_cases q0:f=196
   · rw [if_pos q0] at h0 ⊢; rw [(L2 h0).1]; exact h
   rw [if_neg q0] at h0 ⊢
   by_cases q0:f=197
   · rw [if_pos q0] at h0 ⊢; rw [(L2 h0).1]; exact h
   rw [if_neg q0] at h0 ⊢
   by_cases q0:f=198
   · rw [if_pos q0] at h0 ⊢
     unfold PG at h0 ⊢
     split at h0
     · rename_i c
       rw [if_pos c]
       exact WI h c hg.hours
     · rename_i c; exact absurd h0 c
   rw [if_neg q0] at h0 ⊢
   by_cases q0:f=199
   · rw [if_pos q0] at h0 ⊢
     unfold PH at h0 ⊢
     split at h0
     · rename_i c
       rw [if_pos c]
       exact AaF h c
     · rename_i c; exact absurd h0 c
   rw [if_neg q0] at h0 ⊢
   unfold PI at h0 ⊢
   split at h0
   · rename_i c1
     rw [if_pos c1]
     split at h0
     · rename_i c2
       rw [if_pos c2]
       exact c2
     · cases h0
   · cases h0
 · cases h0
theorem QJ {s:Ae} (hg:Cs s) (h:I6 s) (t:ByteArray):I6 (BR s t).1:=by
 by_cases h0:(BR s t).2=0
 · obtain⟨y,_,hw,e⟩:=JN h0
   rw [e]; exact Yy hg h hw
 · rw [O4 h0]; exact h
theorem QK:∀ (l:List ByteArray)(m:Nat)(s:Ae),MP (m+l.length) s→I6 s→I6 (A9 s l).1
 | [],_,_,_,h=>h
 | t::l,m,s,hL,h=>by
  simp only [A9]
  have hL':MP (m+l.length+1) s:=by rw [show m+l.length+1=m+(t::l).length by simp; omega]; exact hL
  exact QK l m _ (hL'.step t) (QJ hL.1 h t)
def Yz (a b:Aa):Prop:=BH a≠BH b∧(a.machine=b.machine→(a.seq<b.seq→a.minute≤b.minute)∧(b.seq<a.seq→b.minute≤a.minute))
theorem Yz.symm {a b:Aa} (h:Yz a b):Yz b a:=⟨fun e=>h.1 e.symm,fun e=>⟨(h.2 e.symm).2,(h.2 e.symm).1⟩⟩
theorem Sw {a b:Aa}:BH a≠BH b↔¬ (a.machine=b.machine∧a.seq=b.seq):=by simp [BH]
abbrev Sx (l:List Aa):Prop:=l.Pairwise fun a b=>BH a≠BH b
theorem Adn {m:List (HD×Aa)} {k:HD}:Ct A3 m k=false↔Dh A3 m k=none:=by
 unfold Ct
 cases Dh A3 m k <;> simp
theorem AaH:∀ (l:List Aa)(m:List (HD×Aa))(o:List Aa),Sx l→(∀ a∈l,Ct A3 m (BH a)=false)→UB m o l=some (o++l)
 | [],m,o,_,_=>by simp [UB]
 | r::l,m,o,hd,hm=>by
  obtain⟨h1,h2⟩:=ZaG.1 hd
  unfold UB
  rw [hm r (by simp),Zad,AaH l _ _ h2 fun a ha=>?_]
  · simp
  · cases hb:Ct A3 (FY A3 m (BH r) r) (BH a) with
    | false=>rfl
    | true =>
     rcases(JJ I3 _ _ _ _).1 hb with h | h
     · exact absurd h (h1 a ha)
     · rw [hm a (by simp [ha])] at h; cases h
theorem Acg:∀ (l:List Aa)(m:List (HD×Aa))(o:List Aa)(r:Aa),Sx l→(∀ a∈l,Ct A3 m (BH a)=false)→((∃ d,Dh A3 m (BH r)=some d∧d≠r)∨∃ a∈l,BH a=BH r∧a≠r)→UB m o (l++[r])=none
 | [],m,o,r,_,_,h=>by
  rcases h with⟨d,h1,h2⟩ | ⟨a,h,_⟩
  · have hh:Ct A3 m (BH r)=true:=by unfold Ct; rw [h1]; rfl
    have hs:Bv (AG A3 m (BH r) zR) r=false:=by
     have e:AG A3 m (BH r) zR=d:=by unfold AG; rw [h1]; rfl
     rw [e]
     cases hb:Bv d r with
     | false=>rfl
     | true=>exact absurd (F5.1 hb) h2
    show UB m o [r]=none
    unfold UB
    rw [hh,Zab,hs]; rfl
  · simp at h
 | x::l,m,o,r,hd,hm,h=>by
  obtain⟨h1,h2⟩:=ZaG.1 hd
  show UB m o (x::(l++[r]))=none
  unfold UB
  rw [hm x (by simp),Zad]
  refine Acg l _ _ r h2 (fun a ha=>?_) ?_
  · cases hb:Ct A3 (FY A3 m (BH x) x) (BH a) with
    | false=>rfl
    | true =>
     rcases(JJ I3 _ _ _ _).1 hb with h | h
     · exact absurd h (h1 a ha)
     · rw [hm a (by simp [ha])] at h; cases h
  · rcases h with⟨d,e1,e2⟩ | ⟨a,ha,e1,e2⟩
    · left
      refine⟨d,?_,e2⟩
      rw [Gt I3,if_neg ?_]
      · exact e1
      · intro hx
        have:=hm x (by simp)
        rw [hx] at this
        rw [Adn.1 this] at e1; cases e1
    · rcases Zam.1 ha with rfl | ha
      · left
        exact⟨a,by rw [Gt I3,if_pos e1],e2⟩
      · exact .inr ⟨a,ha,e1,e2⟩
theorem UR {a b:Aa}:HL a b=true↔a.machine<b.machine∨(a.machine=b.machine∧a.seq≤b.seq):=by simp [HL]
theorem V8 (a b c:Aa) (h1:HL a b=true) (h2:HL b c=true):HL a c=true:=by
 rw [UR] at *; omega
theorem Ado (a b:Aa) (h:HL a b=false):HL b a=true:=by
 have : ¬ HL a b=true:=by rw [h]; simp
 rw [UR] at *; omega
theorem WJ (l:List Aa):(Eo HL l).Pairwise fun a b=>HL a b=true:=Jn V8 Ado l
theorem Y0:∀ {l:List Aa},l.Pairwise (fun a b=>HL a b=true)→(Ns l=true↔l.Pairwise fun a b=>a.machine=b.machine→a.minute≤b.minute)
 | [],_=>by simp [Ns]
 | [a],_=>by simp [Ns]
 | a::b::r,hs=>by
  obtain⟨h1,h2⟩:=ZaG.1 hs
  have ih:=Y0 h2
  have hb:(!Ae8 a b)=true↔(a.machine=b.machine→a.minute≤b.minute):=by
   unfold Ae8
   simp only [Bool.not_eq_true',Bool.and_eq_false_iff,decide_eq_false_iff_not]
   constructor
   · rintro(h | h) e
     · exact absurd e h
     · omega
   · intro h
     by_cases e:a.machine=b.machine
     · right; have:=h e; omega
     · exact .inl e
  show(!Ae8 a b && Ns (b::r))=true↔_
  rw [Zan,hb,ih]
  constructor
  · rintro⟨p,q⟩
    refine ZaG.2 ⟨fun c hc=>?_,q⟩
    rcases Zam.1 hc with rfl | hc
    · exact p
    · intro e
      have hab:=UR.1 (h1 b (by simp))
      have hbc:=UR.1 ((ZaG.1 h2).1 c hc)
      have e2:a.machine=b.machine:=by omega
      have:=p e2
      have:=(ZaG.1 q).1 c hc (by omega)
      omega
  · intro h
    obtain⟨p,q⟩:=ZaG.1 h
    exact⟨p b (by simp),q⟩
theorem Ach {l:List Aa} (hd:Sx l):Ns (Eo HL l)=true↔l.Pairwise Yz:=by
 have hp:=FB (le:=HL) l
 have hs:=WJ l
 have hd':Sx (Eo HL l):=(List.Perm.pairwise_iff (fun {a b} (h:BH a≠BH b)=>h.symm) hp).2 hd
 rw [Y0 hs,← List.Perm.pairwise_iff (fun {a b} (h:Yz a b)=>h.symm) hp]
 constructor
 · intro h
   refine(hs.and (hd'.and h)).imp ?_
   rintro a b ⟨p,q,s⟩
   refine⟨q,fun e=>⟨fun _=>s e,fun hlt=>?_⟩⟩
   rw [UR] at p
   omega
 · intro h
   refine(hs.and (hd'.and h)).imp ?_
   rintro a b ⟨p,q,s⟩ e
   rw [UR] at p
   rw [Sw] at q
   exact(s.2 e).1 (by omega)
structure HW (l:List Aa):Prop where
 cmp:l.Pairwise Yz
 right:∀ r∈l,A2 r=true
 len:l.length≤60
theorem HW.dist {l:List Aa} (h:HW l):Sx l:=h.cmp.imp fun h=>h.1
theorem OA {α:Type} {R:α→α→Prop} {l:List α} {x:α}:(l++[x]).Pairwise R↔l.Pairwise R∧∀ a∈l,R a x:=by
 rw [List.pairwise_append]
 simp
open Classical in
theorem V9 {l:List Aa} (h:HW l) {r:Aa} (hn:l.any (Bv r)=false):HN [l,[r]]=if A2 r=false then 1 else if ¬ ∀ a∈l,Yz a r then 6 else if 60≤l.length then 3 else 0:=by
 have hl:=h.len
 have hne:∀ a∈l,a≠r:=fun a ha e=>by
  have:l.any (Bv r)=true:=ZaW.2 ⟨a,ha,F5.2 e.symm⟩
  rw [this] at hn; cases hn
 have hc:JL [l,[r]]=if A2 r=false then 1 else 0:=by
  unfold JL
  have e1:l.all A2=true:=Za9.2 h.right
  rw [if_neg (by simp)]
  simp only [ZaP,List.all_nil,Zb1,Zau,ZaV,e1,ZaF]
  rw [Zaf hl]
  cases A2 r <;> rfl
 unfold HN Ic
 rw [hc]
 cases hr:A2 r with
 | false=>simp
 | true =>
  simp only [Bool.true_eq_false,if_false,ne_eq,not_true_eq_false]
  have hf:([l,[r]]:List (List Aa)).flatten=l++[r]:=by simp
  rw [hf]
  by_cases hw:∀ a∈l,BH a≠BH r
  · have hd:Sx (l++[r]):=OA.2 ⟨h.dist,hw⟩
    rw [AaH _ _ _ hd (fun a _=>rfl)]
    simp only [Zax]
    have hoc:=Ach hd
    by_cases hcm:∀ a∈l,Yz a r
    · rw [hoc.2 (OA.2 ⟨h.cmp,hcm⟩),Zab]
      have e6:(if ¬ ∀ a∈l,Yz a r then(6:Int) else if 60≤l.length then 3 else 0)=if 60≤l.length then 3 else 0:=if_neg fun h=>h hcm
      rw [e6]
      simp only [JG,Zaj,Zau,ZaV]
      by_cases h60:60≤l.length
      · rw [if_pos h60,if_pos (by omega)]
      · rw [if_neg h60,if_neg (by omega)]
    · have:Ns (Eo HL (l++[r]))=false:=by
       cases ho:Ns (Eo HL (l++[r])) with
       | false=>rfl
       | true=>exact absurd (OA.1 (hoc.1 ho)).2 hcm
      rw [this,Zad,if_pos hcm]
  · have hcm : ¬ ∀ a∈l,Yz a r:=fun hh=>hw fun a ha=>(hh a ha).1
    rw [if_pos hcm]
    have:∃ a∈l,BH a=BH r:=by
     refine Classical.byContradiction fun hh=>hw fun a ha e=>hh ⟨a,ha,e⟩
    obtain⟨a,ha,e⟩:=this
    rw [Acg l [] [] r h.dist (fun a _=>rfl) (.inr ⟨a,ha,e,hne a ha⟩)]
theorem Ahn {s:Ae} (h:HW s.records) {r:Aa}:(Hn s r).2=0↔A2 r=true∧(∀ a∈s.records,Yz a r)∧s.records.length<60:=by
 unfold Hn
 cases hs:s.records.any (Bv r) with
 | true =>
  simp only [if_true]
  constructor
  · intro h; cases h
  · rintro⟨_,h2,_⟩
    obtain⟨a,ha,e⟩:=ZaW.1 hs
    exact absurd rfl ((F5.1 e▸h2 a ha).1)
 | false =>
  have hm:=V9 h hs
  simp only [Za4,if_false]
  constructor
  · intro h0
    have hz:HN [s.records,[r]]=0:=by
     by_cases c:HN [s.records,[r]]=0
     · exact c
     · rw [if_neg c] at h0; exact absurd h0 c
    rw [hm] at hz
    by_cases c1:A2 r=false
    · rw [if_pos c1] at hz; cases hz
    · rw [if_neg c1] at hz
      by_cases c2:∀ a∈s.records,Yz a r
      · rw [if_neg (fun h=>h c2)] at hz
        by_cases c3:60≤s.records.length
        · rw [if_pos c3] at hz; cases hz
        · exact⟨by simpa using c1,c2,by omega⟩
      · rw [if_pos c2] at hz; cases hz
  · rintro⟨p,q,t⟩
    have hz:HN [s.records,[r]]=0:=by
     rw [hm,if_neg (by simp [p]),if_neg (fun h=>h q),if_neg (by omega)]
    rw [if_pos hz]
theorem AiF {s:Ae} (h:HW s.records) {r:Aa} (h0:(Hn s r).2=0):HW (s.records++[r]):=by
 obtain⟨p,q,t⟩:=(Ahn h).1 h0
 refine⟨OA.2 ⟨h.cmp,q⟩,fun a ha=>?_,by simp; omega⟩
 rcases Zao.1 ha with ha | ha
 · exact h.right a ha
 · rw [Zat.1 ha]; exact p
def PN (f:Int):List Int→Aa
 | [a,b,c,d,e]=>if f=195 then Aa.mk a b c (IK.mk 0) d e else if f=196 then Aa.mk a b c (IK.mk 1) d 0 else Aa.mk a b c (IK.mk 2) d e
 | _=>zR
def OB (t:ByteArray):Bool:=match BC t with
 | some (f,_)=>decide (195≤f) && decide (f≤197)
 | none=>false
def Y1 (t:ByteArray):Aa:=match BC t with
 | some (f,l)=>if 195≤f∧f≤197 then PN f l else zR
 | none=>zR
theorem AeZ {s:Ae} {t:ByteArray} (hc:OB t=true):((BR s t).2=(Hn s (Y1 t)).2)∧((BR s t).2=0→(BR s t).1={ s with records:=s.records++[Y1 t] }):=by
 unfold OB at hc
 unfold BR Y1
 cases hp:BC t with
 | none=>rw [hp] at hc; cases hc
 | some y =>
  obtain⟨f,l⟩:=y
  rw [hp] at hc
  simp only at hc ⊢
  have hf:195≤f∧f≤197:=by simpa using hc
  obtain⟨_,_,h5⟩:=AeX hp
  rw [if_pos hf]
  have hw:Bg s f l=Hn s (PN f l):=by
   match l,h5 with
   | [a,b,c,d,e],_ =>
    unfold Bg PN
    simp only
    rw [if_neg (by omega),if_neg (by omega),if_neg (by omega),if_neg (by omega),if_neg (by omega),if_neg (by omega)]
    by_cases q:f=195
    · rw [if_pos q,if_pos q]
    rw [if_neg q,if_neg q]
    by_cases q:f=196
    · rw [if_pos q,if_pos q]
    rw [if_neg q,if_neg q,if_pos (show f=197 by omega)]
  rw [hw]
  by_cases h0:(Hn s (PN f l)).2=0
  · rw [if_pos h0]
    exact⟨rfl,fun _=>(L2 h0).1⟩
  · rw [if_neg h0]
    exact⟨rfl,fun h=>absurd h h0⟩
theorem Adp {s:Ae} {f:Int} {l:List Int} (hf : ¬ (195≤f∧f≤197)) (h0:(Bg s f l).2=0):(Bg s f l).1.records=s.records:=by
 unfold Bg at h0 ⊢
 split at h0
 · by_cases q0:f=189
   · rw [if_pos q0] at h0 ⊢; rw [Jc h0]
   rw [if_neg q0] at h0 ⊢
   by_cases q0:f=190
   · rw [if_pos q0] at h0 ⊢; rw [Jc h0]
   rw [if_neg q0] at h0 ⊢
   by_cases q0:f=191
   · rw [if_pos q0] at h0 ⊢; rw [Jc h0]
   rw [if_neg q0] at h0 ⊢
   by_cases q0:f=192
   · rw [if_pos q0] at h0 ⊢; rw [Jc h0]
   rw [if_neg q0] at h0 ⊢
   by_cases q0:f=193
   · rw [if_pos q0] at h0 ⊢; rw [(Si h0).2.2.2.2]
   rw [if_neg q0] at h0 ⊢
   by_cases q0:f=194
   · rw [if_pos q0] at h0 ⊢; obtain⟨_,_,_,e,_⟩:=Acd h0; rw [e]
   rw [if_neg q0,if_neg (by omega),if_neg (by omega),if_neg (by omega)]
   rw [if_neg q0,if_neg (by omega),if_neg (by omega),if_neg (by omega)] at h0
   by_cases q0:f=198
   · rw [if_pos q0]; unfold PG; split <;> rfl
   rw [if_neg q0]
   by_cases q0:f=199
   · rw [if_pos q0]; unfold PH; split <;> rfl
   rw [if_neg q0]
   unfold PI
   split
   · split <;> rfl
   · rfl
 · cases h0
theorem AaI {s:Ae} {t:ByteArray} (h:OB t=false):(BR s t).1.records=s.records:=by
 by_cases h0:(BR s t).2=0
 · obtain⟨y,hy,hw,e⟩:=JN h0
   unfold OB at h
   rw [hy] at h
   rw [e]
   exact Adp (fun hc=>by simp [hc.1,hc.2] at h) hw
 · rw [O4 h0]
theorem Sy {s:Ae} (h:HW s.records) (t:ByteArray):HW (BR s t).1.records:=by
 cases hb:OB t with
 | false=>rw [AaI hb]; exact h
 | true =>
  obtain⟨e1,e2⟩:=AeZ (s:=s) hb
  by_cases h0:(BR s t).2=0
  · rw [e2 h0]
    exact AiF h (by rw [← e1]; exact h0)
  · rw [O4 h0]; exact h
theorem Kt:∀ (l:List ByteArray)(s:Ae),HW s.records→HW (A9 s l).1.records
 | [],_,h=>h
 | t::l,s,h=>by simp only [A9]; exact Kt l _ (Sy h t)
theorem Jd:HW Aq.records:=⟨List.Pairwise.nil,by simp [Aq],by simp [Aq]⟩
theorem Afa {p:ByteArray} {x:DL} (h:Dh Di C7 p=some x):(p=B [115,97,108,101]∧x.do_.f=195∧x.many=5)∨(p=B [115,121,110,99]∧x.do_.f=196∧x.many=4)∨(p=B [99,108,111,115,101]∧x.do_.f=197∧x.many=5)∨(p≠B [115,97,108,101]∧p≠B [115,121,110,99]∧p≠B [99,108,111,115,101]∧¬ (195≤x.do_.f∧x.do_.f≤197)):=by
 have:=I4 Di (fun a b h=>(JK a b).1 h) _ _ _ h
 simp only [C7,Zam,Prod.mk.injEq,Zbd,or_false] at this
 rcases this with⟨rfl,rfl⟩ | ⟨rfl,rfl⟩ | ⟨rfl,rfl⟩ | ⟨rfl,rfl⟩ | ⟨rfl,rfl⟩ | ⟨rfl,rfl⟩ | ⟨rfl,rfl⟩ | ⟨rfl,rfl⟩ | ⟨rfl,rfl⟩ | ⟨rfl,rfl⟩ | ⟨rfl,rfl⟩ | ⟨rfl,rfl⟩ <;> first | exact .inl ⟨rfl,rfl,rfl⟩ | exact .inr (.inl ⟨rfl,rfl,rfl⟩) | exact .inr (.inr (.inl ⟨rfl,rfl,rfl⟩)) | exact .inr (.inr (.inr ⟨by decide,by decide,by decide,by decide⟩))
theorem Adq {n:Nat} {t:ByteArray} (ht:t.size≤1000000) (hn:t.size+30≤n):Jv n t=some (Y1 t,OB t,()):=by
 unfold Jv
 rw [O5 ht hn,Zaa]
 unfold Nw OB Y1
 cases hp:BY t with
 | nil=>unfold BY at hp; exact absurd (ZbD.1 hp) (H3 32 _)
 | cons p r =>
  rw [Fg hp]
  simp only
  cases hw:Dh Di C7 p with
  | none=>rfl
  | some x =>
   simp only
   by_cases hl:((r.length+1:Nat):Int)=x.many+1
   · rw [if_pos hl,if_pos hl]
     cases hv:ER r with
     | none=>rfl
     | some vs =>
      have hlen:=Iv hv
      simp only [Sn,Option.map_some,ZaC,Zad]
      rcases Afa hw with⟨rfl,hf,hm⟩ | ⟨rfl,hf,hm⟩ | ⟨rfl,hf,hm⟩ | ⟨h1,h2,h3,hf⟩
      · rw [hm] at hl
        obtain⟨a,b,c,d,e,rfl⟩:∃ a b c d e,vs=[a,b,c,d,e]:=by
         rcases vs with _ | ⟨a,_ | ⟨b,_ | ⟨c,_ | ⟨d,_ | ⟨e,_ | ⟨f,g⟩⟩⟩⟩⟩⟩ <;> first | exact⟨_,_,_,_,_,rfl⟩ | (simp at hlen; omega)
        rw [hf]; rfl
      · rw [hm] at hl
        obtain⟨a,b,c,d,rfl⟩:∃ a b c d,vs=[a,b,c,d]:=by
         rcases vs with _ | ⟨a,_ | ⟨b,_ | ⟨c,_ | ⟨d,_ | ⟨e,f⟩⟩⟩⟩⟩ <;> first | exact⟨_,_,_,_,rfl⟩ | (simp at hlen; omega)
        rw [hf]; rfl
      · rw [hm] at hl
        obtain⟨a,b,c,d,e,rfl⟩:∃ a b c d e,vs=[a,b,c,d,e]:=by
         rcases vs with _ | ⟨a,_ | ⟨b,_ | ⟨c,_ | ⟨d,_ | ⟨e,_ | ⟨f,g⟩⟩⟩⟩⟩⟩ <;> first | exact⟨_,_,_,_,_,rfl⟩ | (simp at hlen; omega)
        rw [hf]; rfl
      · have hb:(decide (195≤x.do_.f) && decide (x.do_.f≤197))=false:=by
         cases hc:(decide (195≤x.do_.f) && decide (x.do_.f≤197)) with
         | false=>rfl
         | true=>exact absurd (by simpa using hc) hf
        rw [Bh h1,Bh h2,Bh h3,hb,if_neg hf]; rfl
   · rw [if_neg hl,if_neg hl]; rfl
theorem Sz:∀ {a b:List Aa},a.Perm b→Sx a→a.Pairwise (fun x y=>HL x y=true)→b.Pairwise (fun x y=>HL x y=true)→a=b
 | [],b,hp,_,_,_=>(List.Perm.nil_eq hp)
 | x::a,[],hp,_,_,_=>by simpa using hp.length_eq
 | x::a,y::b,hp,hd,ha,hb=>by
  obtain⟨a1,a2⟩:=ZaG.1 ha
  obtain⟨b1,b2⟩:=ZaG.1 hb
  obtain⟨d1,d2⟩:=ZaG.1 hd
  have hxy:x=y:=by
   have hy:y∈x::a:=hp.mem_iff.2 (by simp)
   have hx:x∈y::b:=hp.mem_iff.1 (by simp)
   rcases Zam.1 hy with e | hy
   · exact e.symm
   · rcases Zam.1 hx with e | hx
     · exact e
     · have p:=UR.1 (a1 y hy)
       have q:=UR.1 (b1 x hx)
       exact absurd (by omega) (Sw.1 (d1 y hy))
  subst hxy
  rw [Sz (List.Perm.cons_inv hp) d2 a2 b2]
theorem AaJ {l:List Aa} (h:HW l):Ic [l]=.inr (Eo HL l):=by
 have hc:JL [l]=0:=by
  unfold JL
  have e1:l.all A2=true:=Za9.2 h.right
  rw [if_neg (by simp)]
  simp only [ZaP,List.all_nil,Zb1,e1]
  rw [Zaf h.len]; rfl
 unfold Ic
 rw [hc,if_neg (by simp),show([l]:List (List Aa)).flatten=l by simp,AaH l [] [] h.dist (fun a _=>rfl)]
 simp only [Zax]
 rw [(Ach h.dist).2 h.cmp]; rfl
theorem WK (n:Nat) (x lo hi:Int):Eg n x lo hi=some (BF x lo hi,()):=by
 unfold Eg BF
 show(bif decide (lo≤x) then _ else _)=_
 cases decide (lo≤x) <;> rfl
theorem OC (n:Nat) (x lo hi:Int):AK n x lo hi=some (BF x lo hi,()):=by
 unfold AK BF
 show(bif decide (lo≤x) then _ else _)=_
 cases decide (lo≤x) <;> rfl
theorem WL (n:Nat) (x lo hi:Int):CL n x lo hi=some (BF x lo hi,()):=by
 unfold CL BF
 show(bif decide (lo≤x) then _ else _)=_
 cases decide (lo≤x) <;> rfl
theorem AaK (n:Nat) (c:Ak) (hk:G4 c):GU n c=some (FK c,()):=by
 obtain⟨k0,k3⟩:=hk
 have h4:c.kind.n=0∨c.kind.n=1∨c.kind.n=2∨c.kind.n=3:=by omega
 unfold GU FK Aaw
 simp only [WK,Zaa]
 cases BF c.bus 0 99 with
 | false=>rfl
 | true =>
 cases BF c.number 1 999 with
 | false=>rfl
 | true =>
 cases BF c.minute 0 1000000 with
 | false=>rfl
 | true =>
 rcases h4 with h | h | h | h <;> rw [h]
 · cases BF c.part 0 15 <;> rfl
 · cases BF c.part 0 15 <;> rfl
 · cases decide (c.part=0) <;> cases BF c.sg 1 999 <;> rfl
 · cases decide (c.part=0) with
   | false=>rfl
   | true=>cases hs:decide (c.sg=0) <;> simp
def Gh (a b:Ak):Bool:=decide (a.number=b.number) && !CP a b
def Hj {α:Type} (bad:α→α→Bool):List α→List α→Bool
 | _,[]=>false
 | pre,c::r=>pre.any (bad c) || Hj bad (pre++[c]) r
theorem M4 {α:Type} {l:List α} {i k:Nat} (hi:i≤l.length) (hk:k<i):(l.take i).drop k=l[k]::(l.take i).drop (k+1):=by
 have h:k<(l.take i).length:=by rw [ZaK]; omega
 rw [Zai h,List.getElem_take]
theorem S0 {l:List Ak} {i:Nat} (hi:i<l.length) (hl:l.length≤1000):∀ (n k:Nat),i-k<n→k≤i→Dk n l (i:Int) (k:Int)=some (bif ((l.take i).drop k).any (Gh l[i]) then .inr (6,()) else .inl (l,((i:Int),())))
 | 0,_,h,_=>absurd h (Zal _)
 | n+1,k,h,hk=>by
  rw [Dk]
  by_cases hx:k<i
  · have ih:=S0 hi hl n (k+1) (by omega) (by omega)
    rw [Zaf (show(k:Int)<(i:Int) by omega),Zab,AO hi,Zaa,AO (show k<l.length by omega),Zaa,wN k (by omega),M4 (by omega) hx,Zbx,ih]
    show(bif decide (l[i].number=l[k].number) then(bif !CP l[i] l[k] then(some (.inr (6,())):Option ((List Ak×Int×Unit) ⊕ (Int×Unit))) else _) else _)=some (bif (decide (l[i].number=l[k].number) && !CP l[i] l[k]) || _ then _ else _)
    cases decide (l[i].number=l[k].number) <;> cases CP l[i] l[k] <;> rfl
  · have hd:(l.take i).drop k=[]:=by simp; omega
    rw [Zae (show ¬ (k:Int)<(i:Int) by omega),hd]; rfl
theorem S1 (l:List Ak) (hl:l.length≤1000):∀ (n i:Nat),l.length+(l.length-i)<n→i≤l.length→EB n l (i:Int)=some (bif Hj Gh (l.take i) (l.drop i) then .inr (6,()) else .inl ())
 | 0,_,h,_=>absurd h (Zal _)
 | n+1,i,h,hi=>by
  rw [EB]
  by_cases hx:i<l.length
  · have hd:l.drop i=l[i]::l.drop (i+1):=Zai hx
    have h3:=S0 hx hl n 0 (by omega) (by omega)
    rw [show((0:Nat):Int)=0 from rfl,Zar] at h3
    rw [show decide ((i:Int)<(l.length:Int))=true by simp; omega,Zab,h3,Zaa,hd]
    unfold Hj
    cases (l.take i).any (Gh l[i]) with
    | true=>rfl
    | false =>
     simp only [Zad,Za3,Zbs]
     rw [wN i (by omega),S1 l hl n (i+1) (by omega) (by omega),ZaD hx]
  · have hd:l.drop i=[]:=by simp; omega
    rw [show decide ((i:Int)<(l.length:Int))=false by simp; omega,hd]; rfl
theorem S2:∀ (l pre:List Ak)(m:List (Int×Ak))(o:List Int),(∀ c∈pre,Dh BE m c.number=some c)→(∀ k d,Dh BE m k=some d→d∈pre∧d.number=k)→(WB m o l=none↔Hj Gh pre l=true)
 | [],_,_,_,_,_=>by simp [WB,Hj]
 | c::l,pre,m,o,h1,h2=>by
  unfold WB Hj
  cases hm:Ct BE m c.number with
  | true =>
   simp only [Zab]
   obtain⟨d,hd⟩:∃ d,Dh BE m c.number=some d:=by
    unfold Ct at hm
    exact Option.isSome_iff_exists.1 hm
   obtain⟨hdp,hdn⟩:=h2 _ _ hd
   have hg:AG BE m c.number zC=d:=by unfold AG; rw [hd]; rfl
   rw [hg]
   cases hs:CP d c with
   | true =>
    have:=JF.1 hs
    subst this
    have hno:pre.any (Gh d)=false:=by
     rw [Zb9]
     intro x hx hb
     unfold Gh at hb
     rw [Zan] at hb
     have hn:d.number=x.number:=by simpa using hb.1
     have:=h1 x hx
     rw [← hn,hd] at this
     cases this
     rw [JF.2 rfl] at hb
     simp at hb
    simp only [Zab]
    rw [hno,Zbs]
    refine S2 l (pre++[d]) m o (fun x hx=>?_) (fun k x hx=>?_)
    · rcases Zao.1 hx with hx | hx
      · exact h1 x hx
      · rw [Zat.1 hx]; exact hd
    · obtain⟨p,q⟩:=h2 k x hx
      exact⟨ZaL _ p,q⟩
   | false =>
    have hyes:pre.any (Gh c)=true:=by
     rw [ZaW]
     refine⟨d,hdp,?_⟩
     unfold Gh
     rw [Zaf hdn.symm]
     cases hc:CP c d with
     | false=>rfl
     | true =>
      have:=JF.1 hc
      subst this
      rw [JF.2 rfl] at hs; cases hs
    rw [hyes]
    simp
  | false =>
   simp only [Zad]
   have hno:pre.any (Gh c)=false:=by
    rw [Zb9]
    intro x hx hb
    unfold Gh at hb
    rw [Zan] at hb
    have hn:c.number=x.number:=by simpa using hb.1
    unfold Ct at hm
    rw [hn,h1 x hx] at hm; cases hm
   rw [hno,Zbs]
   refine S2 l (pre++[c]) _ _ (fun x hx=>?_) (fun k x hx=>?_)
   · rw [Gt I2]
     rcases Zao.1 hx with hx | hx
     · rw [if_neg ?_]
       · exact h1 x hx
       · intro e
         unfold Ct at hm
         rw [e,h1 x hx] at hm; cases hm
     · rw [Zat.1 hx,if_pos rfl]
   · rw [Gt I2] at hx
     by_cases e:c.number=k
     · rw [if_pos e] at hx
       cases hx
       exact⟨by simp,e⟩
     · rw [if_neg e] at hx
       obtain⟨p,q⟩:=h2 k x hx
       exact⟨ZaL _ p,q⟩
theorem AaL {n:Nat} {l:List Ak} (hk:∀ c∈l,G4 c) (hl:l.length≤1000) (hn:2100<n∨2*l.length+1<n):Ip n l=some (WC l,()):=by
 unfold Ip WC Hg
 by_cases h40:40<l.length
 · rw [show decide ((l.length:Int)>40)=true by simp; omega,Zab,if_pos h40]
 · rw [show decide ((l.length:Int)>40)=false by simp; omega,Zad,if_neg h40]
   obtain⟨s1,s2⟩:=Et (F:=fun n i=>EA n l i) (G:=fun n i v0=>(GU n v0).bind fun v1=>bif !v1.fst then(some (.inr (1,()))) else EA n l (IntKind.i64.wrap (i+1))) l FK (l,()) (fun _=>(1,())) 0 (by omega) (fun _ _=>rfl) (fun n i hi _=>by
    rw [AaK n _ (hk _ (Zav hi)),Zaa]
    cases FK l[i] <;> rfl) (n:=n) (by omega)
   cases ha:l.all FK with
   | false =>
    obtain⟨k,hk⟩:=s2 ha
    rw [hk,if_pos rfl]; rfl
   | true =>
    have s1:=s1 ha
    rw [s1,if_neg (by simp),Zaa]
    simp only [Za3]
    have h2:=S1 l hl n 0 (by omega) (by omega)
    rw [show((0:Nat):Int)=0 from rfl,List.take_zero,Zar] at h2
    rw [h2,Zaa]
    have hp:=S2 l [] [] [] (fun c hc=>by cases hc) (fun k d h=>by cases h)
    cases hr:WB [] [] l with
    | none=>rw [hp.1 hr]; rfl
    | some y =>
     have:Hj Gh [] l=false:=by
      cases hb:Hj Gh [] l with
      | false=>rfl
      | true=>rw [hp.2 hb] at hr; cases hr
     rw [this]; rfl
theorem Adr {n:Nat} {l:List Ak} {d:Ak} {at_:Int} (hl:l.length≤1000) (hn:l.length<n):Js n l d at_=some (!decide (at_<d.minute) && l.all fun p=>!(decide (p.minute≤at_) && Nm p d),()):=by
 unfold Js
 show(bif decide (at_<d.minute) then _ else _)=_
 cases decide (at_<d.minute) with
 | true=>rfl
 | false =>
  simp only [Zad,Za7,ZaF]
  obtain⟨s1,s2⟩:=Et (F:=fun n i=>A4 n l at_ d i) (G:=fun n i v0=>bif !v0.bus != d.bus then(bif !decide (v0.minute<d.minute) then(bif decide (v0.minute>at_) then(A4 n l at_ d (IntKind.i64.wrap (i+1))) else bif decide (v0.kind.n=2) then(bif !decide (v0.sg=d.number) then(bif decide (v0.kind.n=3) then(bif decide (d.kind.n=0) then(some (.inr (d,(false,())))) else A4 n l at_ d (IntKind.i64.wrap (i+1))) else A4 n l at_ d (IntKind.i64.wrap (i+1))) else some (.inr (d,(false,())))) else bif decide (v0.kind.n=3) then(bif decide (d.kind.n=0) then(some (.inr (d,(false,())))) else A4 n l at_ d (IntKind.i64.wrap (i+1))) else A4 n l at_ d (IntKind.i64.wrap (i+1))) else A4 n l at_ d (IntKind.i64.wrap (i+1))) else A4 n l at_ d (IntKind.i64.wrap (i+1))) l (fun p=>!(decide (p.minute≤at_) && Nm p d)) (d,()) (fun _=>(d,(false,()))) 0 (by omega) (fun _ _=>rfl) (fun n i hi _=>by
   generalize l[i]=v
   unfold Nm
   by_cases hm:v.minute≤at_
   · rw [Zaf hm,Zae (show ¬ v.minute>at_ by omega)]
     rw [show(v.kind.n == 2)=decide (v.kind.n=2) from rfl,show(v.sg == d.number)=decide (v.sg=d.number) from rfl,show(v.kind.n == 3)=decide (v.kind.n=3) from rfl,show(d.kind.n == 0)=decide (d.kind.n=0) from rfl]
     cases v.bus != d.bus <;> cases decide (v.minute<d.minute) <;> cases decide (v.kind.n=2) <;> cases decide (v.sg=d.number) <;> cases decide (v.kind.n=3) <;> cases decide (d.kind.n=0) <;> rfl
   · rw [Zae hm,Zaf (show v.minute>at_ by omega)]
     cases v.bus != d.bus <;> cases decide (v.minute<d.minute) <;> rfl) (n:=n) (by omega)
  cases ha:l.all fun p=>!(decide (p.minute≤at_) && Nm p d) with
  | true =>
   have s1:=s1 ha
   rw [s1]; rfl
  | false =>
   obtain⟨k,hk⟩:=s2 ha
   rw [hk]; rfl
theorem S3 (l:List Ak) (hk:∀ c∈l,G4 c) (hl:l.length≤1000) (bus at_:Int) (out:List Int) (m:Int):∀ (n i:Nat)(is:Bool),l.length+(l.length-i)<n→i≤l.length→B6 n l bus at_ out m is (i:Int)=some (l,(bus,(at_,(out,(m,(is || (l.drop i).any (fun c=>decide (c.number=m) && Yt l bus at_ c),()))))))
 | 0,_,_,h,_=>absurd h (Zal _)
 | n+1,i,is,h,hi=>by
  rw [B6]
  by_cases hx:i<l.length
  · have hd:l.drop i=l[i]::l.drop (i+1):=Zai hx
    have ih:=fun is=>S3 l hk hl bus at_ out m n (i+1) is (by omega) (by omega)
    have hkd:=hk _ (Zav hx)
    rw [show decide ((i:Int)<(l.length:Int))=true by simp; omega,Zab,AO hx,Zaa,wN i (by omega),hd,Zbx]
    simp only [Zaa]
    rw [Adr hl (by omega)]
    unfold J7
    simp only [Zaa,ih]
    have hdef:(decide (l[i].kind.n=0) || decide (l[i].kind.n=1))=decide (l[i].kind.n<2):=by
     rw [Bool.eq_iff_iff]
     simp only [ZaS,decide_eq_true_eq]
     have:=hkd.1
     omega
    unfold Yt
    rw [hdef]
    cases is with
    | true=>simp
    | false =>
     cases decide (l[i].number=m) <;> cases decide (l[i].bus=bus) <;> cases decide (l[i].kind.n<2) <;> simp
  · have hd:l.drop i=[]:=by simp; omega
    rw [show decide ((i:Int)<(l.length:Int))=false by simp; omega,hd]
    simp
def Afb (q:Int→Bool):Nat→Nat→List Int
 | 0,_=>[]
 | k+1,s=>(bif q (s:Int) then [(s:Int)] else [])++Afb q k (s+1)
theorem WM {q:Int→Bool} {x:Int}:∀ (k s:Nat),x∈Afb q k s↔(s:Int)≤x∧x<(s:Int)+(k:Int)∧q x=true
 | 0,s=>by simp [Afb]; omega
 | k+1,s=>by
  unfold Afb
  rw [Zao,WM k (s+1)]
  have h1:x∈(bif q (s:Int) then [(s:Int)] else [])↔x=(s:Int)∧q x=true:=by
   cases hq:q (s:Int) with
   | true=>simp; rintro rfl; exact hq
   | false =>
    simp
    rintro rfl
    exact hq
  rw [h1]
  constructor
  · rintro(⟨rfl,h⟩ | ⟨a,b,c⟩)
    · exact⟨by omega,by omega,h⟩
    · exact⟨by omega,by omega,c⟩
  · rintro⟨a,b,c⟩
    by_cases e:x=(s:Int)
    · exact .inl ⟨e,c⟩
    · exact .inr ⟨by omega,by omega,c⟩
def S4 (l:List Ak) (bus at_:Int) (m:Int):Bool:=l.any fun c=>decide (c.number=m) && Yt l bus at_ c
theorem Nz (l:List Ak) (hk:∀ c∈l,G4 c) (hl:l.length≤40) (bus at_:Int):∀ (n k s:Nat)(out:List Int),s+k=1000→100+k<n→out.length≤s→Dl n l bus at_ out (s:Int)=some (out++Afb (S4 l bus at_) k s,())
 | 0,_,_,_,_,h,_=>absurd h (Zal _)
 | n+1,k,s,out,hsk,h,ho=>by
  rw [Dl]
  cases k with
  | zero =>
   rw [Zae (show ¬ (s:Int)≤999 by omega)]
   simp [Afb]
  | succ k =>
   have h2:=S3 l hk (by omega) bus at_ out (s:Int) n 0 false (by omega) (by omega)
   rw [show((0:Nat):Int)=0 from rfl,Zar,Zbs] at h2
   rw [show(l.any fun c=>decide (c.number=(s:Int)) && Yt l bus at_ c)=S4 l bus at_ (s:Int) from rfl] at h2
   rw [Zaf (show(s:Int)≤999 by omega),Zab,h2,Zaa]
   simp only
   rw [wN s (by omega),Afb]
   cases S4 l bus at_ (s:Int) with
   | true =>
    simp only [Zab]
    rw [A1 (by simp; omega),Zaa,Nz l hk hl bus at_ n k (s+1) _ (by omega) (by omega) (by simp; omega),Za6]
   | false =>
    simp only [Zad]
    rw [Nz l hk hl bus at_ n k (s+1) _ (by omega) (by omega) (by omega),Zax]
def HO (l:List Ak) (bus at_:Int):List Int:=Afb (S4 l bus at_) 999 1
theorem S5 {n:Nat} {l:List Ak} (hk:∀ c∈l,G4 c) (hl:l.length≤40) (hn:1200<n) (bus at_:Int):D7 n l bus at_=some (HO l bus at_,()):=by
 unfold D7 HO
 have h:=Nz l hk hl bus at_ n 999 1 [] (by omega) (by omega) (by simp)
 rw [show((1:Nat):Int)=1 from rfl,Zax] at h
 rw [h]; rfl
theorem VA {l:List Ak} {bus at_:Int} (h:WC l=0) (hb:(BF bus 0 99 && BF at_ 0 1000000)=true) (x:Int):x∈HO l bus at_↔x∈(Cm l bus at_).1:=by
 have hall:∀ c∈l,1≤c.number∧c.number≤999:=fun c hc=>by
  unfold WC at h
  cases hr:Hg l with
  | inl e=>rw [hr] at h; have:=JI hr; simp only at h; omega
  | inr y =>
   obtain⟨_,ha,_⟩:=JH hr
   have:=Za9.1 ha c hc
   unfold FK at this
   simp only [Zan,Bx] at this
   exact this.2.1
 unfold HO
 rw [WM,AeW h hb]
 unfold S4
 rw [ZaW]
 constructor
 · rintro⟨_,_,c,hc,hq⟩
   rw [Zan,decide_eq_true_eq] at hq
   exact⟨c,hc,hq.1,hq.2⟩
 · rintro⟨c,hc,hn,hq⟩
   have:=hall c hc
   exact⟨by omega,by omega,c,hc,by rw [Zan,decide_eq_true_eq]; exact⟨hn,hq⟩⟩
theorem VB {l:List Ak} {bus at_:Int} (h:WC l=0) (hb:(BF bus 0 99 && BF at_ 0 1000000)=true):HO l bus at_=[]↔(Cm l bus at_).1=[]:=by
 rw [List.eq_nil_iff_forall_not_mem,List.eq_nil_iff_forall_not_mem]
 exact forall_congr' fun x=>not_congr (VA h hb x)
theorem AaM (n:Nat) (r:Aa) (hk:Lz r):Io n r=some (A2 r,()):=by
 obtain⟨k0,k2⟩:=hk
 have h4:r.kind.n=0∨r.kind.n=1∨r.kind.n=2:=by omega
 unfold Io A2
 simp only [WL,Zaa]
 cases BF r.machine 0 999 with
 | false=>rfl
 | true =>
 cases BF r.seq 1 9999 with
 | false=>rfl
 | true =>
 cases BF r.minute 0 1000000 with
 | false=>rfl
 | true =>
 rcases h4 with h | h | h <;> rw [h]
 · cases BF r.a 0 99 <;> cases BF r.b 0 10000 <;> rfl
 · cases BF r.a 0 1000000 <;> rfl
 · cases BF r.a 0 9999 <;> cases BF r.b 0 10000000 <;> rfl
theorem S6 {lists:List (List Aa)} (hk:∀ l∈lists,∀ r∈l,Lz r) {i:Nat} (hi:i<lists.length) (hl:lists[i].length≤1000):∀ (n k:Nat),lists[i].length-k<n→k≤lists[i].length→ED n lists (i:Int) (k:Int)=some (bif (lists[i].drop k).all A2 then .inl (lists,((i:Int),())) else .inr (1,()))
 | 0,_,h,_=>absurd h (Zal _)
 | n+1,k,h,hkk=>by
  rw [ED,AO hi,Zaa]
  by_cases hx:k<lists[i].length
  · have hd:lists[i].drop k=lists[i][k]::lists[i].drop (k+1):=Zai hx
    rw [show decide ((k:Int)<(lists[i].length:Int))=true by simp; omega,Zab,Zaa,AO hx,Zaa,AaM n _ (hk _ (Zav hi) _ (Zav hx)),Zaa,hd,ZaP,wN k (by omega),S6 hk hi hl n (k+1) (by omega) (by omega)]
    cases A2 lists[i][k] <;> rfl
  · have hd:lists[i].drop k=[]:=by simp; omega
    rw [show decide ((k:Int)<(lists[i].length:Int))=false by simp; omega,hd]; rfl
theorem S7 {lists:List (List Aa)} (hk:∀ l∈lists,∀ r∈l,Lz r) (hl:lists.length≤1000) (hl2:∀ l∈lists,l.length≤1000):∀ (n i:Nat),1001+(lists.length-i)<n→i≤lists.length→EE n lists (i:Int)=some (bif (lists.drop i).all (fun l=>l.all A2) then .inl () else .inr (1,()))
 | 0,_,h,_=>absurd h (Zal _)
 | n+1,i,h,hi=>by
  rw [EE]
  by_cases hx:i<lists.length
  · have hd:lists.drop i=lists[i]::lists.drop (i+1):=Zai hx
    have h2:=hl2 _ (Zav hx)
    have h3:=S6 hk hx h2 n 0 (by omega) (by omega)
    rw [show((0:Nat):Int)=0 from rfl,Zar] at h3
    rw [show decide ((i:Int)<(lists.length:Int))=true by simp; omega,Zab,h3,Zaa,hd,ZaP]
    cases lists[i].all A2 with
    | false=>rfl
    | true =>
     simp only [Zab,Za3,ZaF]
     rw [wN i (by omega),S7 hk hl hl2 n (i+1) (by omega) (by omega)]
  · have hd:lists.drop i=[]:=by simp; omega
    rw [show decide ((i:Int)<(lists.length:Int))=false by simp; omega,hd]; rfl
theorem AaN {n:Nat} {lists:List (List Aa)} (hk:∀ l∈lists,∀ r∈l,Lz r) (hl:lists.length≤100) (hl2:∀ l∈lists,l.length≤1000) (hn:1200<n):Iq n lists=some (JL lists,()):=by
 unfold Iq JL
 by_cases h6:6<lists.length
 · rw [show decide ((lists.length:Int)>6)=true by simp; omega,if_pos h6]; rfl
 · rw [show decide ((lists.length:Int)>6)=false by simp; omega,if_neg h6,Zad]
   obtain⟨s1,s2⟩:=Et (F:=fun n i=>EC n lists i) (G:=fun n i v0=>bif decide ((↑v0.length:Int)>60) then(some (.inr (3,()))) else EC n lists (IntKind.i64.wrap (i+1))) lists (fun l=>decide (l.length≤60)) (lists,()) (fun _=>(3,())) 0 (by omega) (fun _ _=>rfl) (fun n i hi _=>by
    by_cases hc:lists[i].length≤60
    · rw [Zaf hc,Zae (show ¬ ((lists[i].length:Int)>60) by omega)]; rfl
    · rw [Zae hc,Zaf (show((lists[i].length:Int)>60) by omega)]; rfl) (n:=n) (by omega)
   cases ha:lists.all fun l=>decide (l.length≤60) with
   | false =>
    obtain⟨k,hk⟩:=s2 ha
    rw [hk]; rfl
   | true =>
    rw [s1 ha,Zaa]
    have h2:=S7 hk (by omega) hl2 n 0 (by omega) (by omega)
    rw [show((0:Nat):Int)=0 from rfl,Zar] at h2
    simp only [Za3]
    rw [h2]
    cases lists.all fun l=>l.all A2 <;> rfl
def Ads (a b:Aa):Bool:=!Bv a b && (decide (a.machine=b.machine) && (decide (a.seq=b.seq) || (decide (a.seq>b.seq) && decide (a.minute<b.minute) || decide (a.seq<b.seq) && decide (a.minute>b.minute))))
theorem US (n:Nat) (a b:Aa):GT n a b=some (Ads a b,()):=by
 show(bif !Bv a b then _ else _)=_
 unfold Ads
 rw [show(a.machine != b.machine)=!decide (a.machine=b.machine) from rfl]
 cases Bv a b <;> cases decide (a.machine=b.machine) <;> cases decide (a.seq=b.seq) <;> cases decide (a.seq>b.seq) <;> cases decide (a.minute<b.minute) <;> cases decide (a.seq<b.seq) <;> cases decide (a.minute>b.minute) <;> rfl
theorem Y2 {l:List Aa} {i:Nat} (hi:i<l.length) (hl:l.length≤1000):∀ (n k:Nat),i-k<n→k≤i→B9 n l (i:Int) (k:Int)=some (bif ((l.take i).drop k).any (Ads l[i]) then .inr (true,()) else .inl (l,((i:Int),())))
 | 0,_,h,_=>absurd h (Zal _)
 | n+1,k,h,hk=>by
  rw [B9]
  by_cases hx:k<i
  · rw [Zaf (show(k:Int)<(i:Int) by omega),Zab,AO hi,Zaa,AO (show k<l.length by omega),Zaa,US,Zaa,wN k (by omega),M4 (by omega) hx,Zbx,Y2 hi hl n (k+1) (by omega) (by omega)]
    cases Ads l[i] l[k] <;> rfl
  · have hd:(l.take i).drop k=[]:=by simp; omega
    rw [Zae (show ¬ (k:Int)<(i:Int) by omega),hd]; rfl
theorem Y3 (l:List Aa) (hl:l.length≤1000):∀ (n i:Nat),l.length+(l.length-i)<n→i≤l.length→BA n l (i:Int)=some (bif Hj Ads (l.take i) (l.drop i) then .inr (true,()) else .inl ())
 | 0,_,h,_=>absurd h (Zal _)
 | n+1,i,h,hi=>by
  rw [BA]
  by_cases hx:i<l.length
  · have hd:l.drop i=l[i]::l.drop (i+1):=Zai hx
    have h3:=Y2 hx hl n 0 (by omega) (by omega)
    rw [show((0:Nat):Int)=0 from rfl,Zar] at h3
    rw [show decide ((i:Int)<(l.length:Int))=true by simp; omega,Zab,h3,Zaa,hd]
    unfold Hj
    cases (l.take i).any (Ads l[i]) with
    | true=>rfl
    | false =>
     simp only [Zad,Za3,Zbs]
     rw [wN i (by omega),Y3 l hl n (i+1) (by omega) (by omega),ZaD hx]
  · have hd:l.drop i=[]:=by simp; omega
    rw [show decide ((i:Int)<(l.length:Int))=false by simp; omega,hd]; rfl
theorem PO {n:Nat} {l:List Aa} (hl:l.length≤500) (hn:1100<n):D6 n l=some (Hj Ads [] l,()):=by
 unfold D6
 have h:=Y3 l (by omega) n 0 (by omega) (by omega)
 rw [show((0:Nat):Int)=0 from rfl,List.take_zero,Zar] at h
 rw [h]
 cases Hj Ads [] l <;> rfl
theorem QL {α:Type} {bad:α→α→Bool}:∀ {l pre:List α},Hj bad pre l=false↔(∀ c∈l,∀ a∈pre,bad c a=false)∧l.Pairwise fun a c=>bad c a=false
 | [],pre=>by simp [Hj]
 | x::l,pre=>by
  unfold Hj
  rw [Zbq,Zb9,QL,ZaG]
  constructor
  · rintro⟨h1,h2,h3⟩
    refine⟨fun c hc a ha=>?_,fun c hc=>h2 c hc x (by simp),h3⟩
    rcases Zam.1 hc with rfl | hc
    · simpa using h1 a ha
    · exact h2 c hc a (ZaL _ ha)
  · rintro⟨h1,h2,h3⟩
    refine⟨fun a ha=>by simpa using h1 x (by simp) a ha,fun c hc a ha=>?_,h3⟩
    rcases Zao.1 ha with ha | ha
    · exact h1 c (by simp [hc]) a ha
    · rw [Zat.1 ha]; exact h2 c hc
theorem WN {a c:Aa} (hne:a≠c):Ads c a=false↔Yz a c:=by
 have hs:Bv c a=false:=by
  cases hb:Bv c a with
  | false=>rfl
  | true=>exact absurd (F5.1 hb).symm hne
 unfold Ads Yz
 rw [hs,Sw]
 simp only [Za7,ZaF,Bool.and_eq_false_iff,Zbq,decide_eq_false_iff_not]
 constructor
 · rintro(h | ⟨h1,h2,h3⟩)
   · exact⟨fun e=>h e.1.symm,fun e=>absurd e.symm h⟩
   · exact⟨fun e=>h1 e.2.symm,fun e=>⟨fun hlt=>by omega,fun hlt=>by omega⟩⟩
 · rintro⟨h1,h2⟩
   by_cases e:c.machine=a.machine
   · right
     have:=h2 e.symm
     refine⟨fun e2=>h1 ⟨e.symm,e2.symm⟩,?_,?_⟩
     · by_cases q:c.seq>a.seq
       · right; have:=this.1 q; omega
       · exact .inl q
     · by_cases q:c.seq<a.seq
       · right; have:=this.2 q; omega
       · exact .inl q
   · exact .inl e
open Classical in
theorem AaO {n:Nat} {s:Ae} (hr:HW s.records) (hk:∀ r∈s.records,Lz r) {r:Aa} (hkr:Lz r) (hn:1300<n):HH n s r=some ((Hn s r).1,((Hn s r).2,())):=by
 have h60:=hr.len
 unfold HH
 obtain⟨s1,s2⟩:=Et (F:=fun n i=>Fw n s r (Ae.mk [] [] [] [] (Ai.mk 0 [] [] 0 0 0) []) i) (G:=fun n i v0=>bif Bv v0 r then(some (.inr (s,(r,(s,((),(6,()))))))) else Fw n s r (Ae.mk [] [] [] [] (Ai.mk 0 [] [] 0 0 0) []) (IntKind.i64.wrap (i+1))) s.records (fun v0=>!Bv v0 r) (s,(r,(Ae.mk [] [] [] [] (Ai.mk 0 [] [] 0 0 0) [],((),((),((),())))))) (fun _=>(s,(r,(s,((),(6,())))))) 0 (by omega) (fun _ _=>rfl) (fun n i hi _=>by
  cases Bv s.records[i] r <;> rfl) (n:=n) (by omega)
 cases hs:s.records.any (Bv r) with
 | true =>
  have ha:(s.records.all fun v0=>!Bv v0 r)=false:=by
   rw [List.all_eq_false]
   obtain⟨x,hx,e⟩:=ZaW.1 hs
   exact⟨x,hx,by rw [F5.2 (F5.1 e).symm]; simp⟩
  obtain⟨k,hk2⟩:=s2 ha
  rw [hk2]
  unfold Hn
  rw [hs]; rfl
 | false =>
  have ha:(s.records.all fun v0=>!Bv v0 r)=true:=by
   rw [Za9]
   intro x hx
   cases hb:Bv x r with
   | false=>rfl
   | true =>
    have:s.records.any (Bv r)=true:=ZaW.2 ⟨x,hx,F5.2 (F5.1 hb).symm⟩
    rw [this] at hs; cases hs
  rw [s1 ha,Zaa]
  simp only [Za3]
  have hne:∀ a∈s.records,a≠r:=fun a ha e=>by
   have:s.records.any (Bv r)=true:=ZaW.2 ⟨a,ha,F5.2 e.symm⟩
   rw [this] at hs; cases hs
  have hF:=AaN (n:=n) (lists:=[s.records,[r]]) (fun l hl=>by
   rcases Zam.1 hl with rfl | hl
   · exact hk
   · rw [Zat.1 hl]
     intro r' hr'
     rw [Zat.1 hr']; exact hkr) (by simp) (fun l hl=>by
   rcases Zam.1 hl with rfl | hl
   · omega
   · rw [Zat.1 hl]; simp) (by omega)
  have hchk:JL [s.records,[r]]=if A2 r=false then 1 else 0:=by
   unfold JL
   have e1:s.records.all A2=true:=Za9.2 hr.right
   rw [if_neg (by simp)]
   simp only [ZaP,List.all_nil,Zb1,Zau,ZaV,e1,ZaF]
   rw [Zaf h60]
   cases A2 r <;> rfl
  have hA:app [] s.records=some s.records:=by rw [A1 (by simp; omega)]; rfl
  have hB:app s.records [r]=some (s.records++[r]):=A1 (by simp; omega)
  have hC:=PO (n:=n) (l:=s.records++[r]) (by simp; omega) (by omega)
  have hm:=V9 hr hs
  rw [hF,hchk,Zaa]
  unfold Hn
  simp only [hs,Za4,if_false]
  rw [hm]
  cases hrr:A2 r with
  | false=>rfl
  | true =>
   simp only [Bool.true_eq_false,if_false]
   rw [show((0:Int) != 0)=false from rfl,Zad,hA,Zaa,hB,Zaa,hC,Zaa]
   have hp:Hj Ads [] (s.records++[r])=false↔∀ a∈s.records,Yz a r:=by
    rw [QL,OA]
    constructor
    · rintro⟨_,_,h⟩ a ha
      exact(WN (hne a ha)).1 (h a ha)
    · intro h
      refine⟨fun c _ a ha=>by simp at ha,hr.cmp.imp (fun {a b} hab=>?_),fun a ha=>(WN (hne a ha)).2 (h a ha)⟩
      exact(WN (fun e=>hab.1 (by rw [e]))).2 hab
   by_cases hcm:∀ a∈s.records,Yz a r
   · rw [hp.2 hcm]
     have e6:(if ¬ ∀ a∈s.records,Yz a r then(6:Int) else if 60≤s.records.length then 3 else 0)=if 60≤s.records.length then 3 else 0:=if_neg fun h=>h hcm
     rw [e6]
     simp only [Zad]
     by_cases h6:60≤s.records.length
     · rw [if_pos h6,Zaf (show(((s.records++[r]).length:Nat):Int)>60 by simp; omega)]; rfl
     · rw [if_neg h6,Zae (show ¬ (((s.records++[r]).length:Nat):Int)>60 by simp; omega)]; rfl
   · have hb:Hj Ads [] (s.records++[r])=true:=by
      cases h:Hj Ads [] (s.records++[r]) with
      | true=>rfl
      | false=>exact absurd (hp.1 h) hcm
     rw [hb,if_pos hcm]; rfl
theorem Afc {n:Nat} {s:Ae} (hg:Cs s) {c:Ak} (hk:G4 c) (hn:300<n):Kj n s c=some ((DY s c).1,((DY s c).2,())):=by
 have h40:=hg.cards
 unfold Kj
 obtain⟨s1,s2⟩:=Et (F:=fun n i=>GW n s c (Ae.mk [] [] [] [] (Ai.mk 0 [] [] 0 0 0) []) i) (G:=fun n i v0=>bif CP v0 c then(some (.inr (s,(c,(s,((),(6,()))))))) else GW n s c (Ae.mk [] [] [] [] (Ai.mk 0 [] [] 0 0 0) []) (IntKind.i64.wrap (i+1))) s.cards (fun v0=>!CP v0 c) (s,(c,(Ae.mk [] [] [] [] (Ai.mk 0 [] [] 0 0 0) [],((),((),((),())))))) (fun _=>(s,(c,(s,((),(6,())))))) 0 (by omega) (fun _ _=>rfl) (fun n i hi _=>by
  cases CP s.cards[i] c <;> rfl) (n:=n) (by omega)
 unfold DY
 cases hs:s.cards.any (fun a=>CP a c) with
 | true =>
  have ha:(s.cards.all fun v0=>!CP v0 c)=false:=by
   rw [List.all_eq_false]
   obtain⟨x,hx,e⟩:=ZaW.1 hs
   exact⟨x,hx,by rw [e]; simp⟩
  obtain⟨k,hk2⟩:=s2 ha
  rw [hk2]; rfl
 | false =>
  have ha:(s.cards.all fun v0=>!CP v0 c)=true:=by
   rw [Za9]
   intro x hx
   have:=Zb9.1 hs x hx
   simpa using this
  rw [s1 ha,Zaa]
  simp only [Za3]
  rw [A1 (by simp; omega),Zaa,Zax,A1 (by simp; omega),Zaa,AaL (fun a ha=>by
   rcases Zao.1 ha with ha | ha
   · exact hg.kind a ha
   · rw [Zat.1 ha]; exact hk) (by simp; omega) (.inr (by simp; omega)),Zaa]
  by_cases h0:WC (s.cards++[c])=0
  · rw [h0]; rfl
  · rw [show(WC (s.cards++[c]) != 0)=true by simpa using h0,if_neg (by simp),if_neg h0]; rfl
theorem S8 (s:Ae) (bus:Int) (hl:s.outs.length≤1000):∀ (n i:Nat),s.outs.length-i<n→i≤s.outs.length→GV n bus s (i:Int)=some (match (s.outs.drop i).findIdx? (fun o=>decide (o.bus=bus)) with | some k=>.inr (s,(((i+k:Nat):Int),())) | none=>.inl (s,()))
 | 0,_,h,_=>absurd h (Zal _)
 | n+1,i,h,hi=>by
  rw [GV]
  by_cases hx:i<s.outs.length
  · have hd:s.outs.drop i=s.outs[i]::s.outs.drop (i+1):=Zai hx
    rw [show decide ((i:Int)<(s.outs.length:Int))=true by simp; omega,Zab,AO hx,Zaa,hd,wN i (by omega),List.findIdx?_cons]
    cases decide (s.outs[i].bus=bus) with
    | true=>simp
    | false =>
     rw [Zad,S8 s bus hl n (i+1) (by omega) (by omega)]
     cases (s.outs.drop (i+1)).findIdx? (fun o=>decide (o.bus=bus)) with
     | none=>rfl
     | some k =>
      show(some (.inr (s,(((i+1+k:Nat):Int),()))):Option ((Ae×Unit) ⊕ (Ae×Int×Unit)))=some (.inr (s,(((i+(k+1):Nat):Int),())))
      rw [show i+1+k=i+(k+1) by omega]
  · have hd:s.outs.drop i=[]:=by simp; omega
    rw [show decide ((i:Int)<(s.outs.length:Int))=false by simp; omega,hd]
    rfl
theorem OD {n:Nat} {s:Ae} (hl:s.outs.length≤1000) (bus:Int) (hn:s.outs.length<n):Gy n s bus=some (FW s.outs bus,()):=by
 unfold Gy FW L1
 have h:=S8 s bus hl n 0 (by omega) (by omega)
 rw [show((0:Nat):Int)=0 from rfl,Zar] at h
 rw [h]
 cases s.outs.findIdx? (fun o=>decide (o.bus=bus)) <;> simp
theorem AiG {n:Nat} {s:Ae} (hg:Cs s) {a b c:Int} (hn:300<n):E4 n s (B [105,110]) [a,b,c]=some ((Acb s a b c).1,((Acb s a b c).2,())):=by
 have h1:=hg.outs
 have h2:=hg.runs
 have i0:Ao [a,b,c] 0=some a:=rfl
 have i1:Ao [a,b,c] 1=some b:=rfl
 have i2:Ao [a,b,c] 2=some c:=rfl
 unfold E4 Acb
 rw [i0,Zaa,OD (by omega) a (by omega),Zaa,show(B [105,110]).beq (B [105,110])=true by decide,Zab,i1,i2]
 simp only [Zaa,WK]
 unfold FW
 cases hgo:L1 s.outs a with
 | none=>rfl
 | some k =>
  obtain⟨hk,_⟩:=Sf hgo
  simp only
  rw [Zae (show ¬ ((k:Int)<0) by omega),Zad,AO hk,Zaa,Zap hk,AgX (by omega),Zaa,wN k (by omega),Sh (by omega) (Zas _),A1 (by rw [ZaK]; simp; omega),Zaa,Zax,Zaa,A1 (by simp only [ZaK,Zbc]; omega),Zaa,A1 (by simp; omega),Zaa,Zax,A1 (by simp; omega),Zaa]
  have he:s.outs.take k++(s.outs.drop (k+1)).take (s.outs.length-(k+1))=s.outs.eraseIdx k:=by
   rw [Zbb (l:=s.outs.drop (k+1)) (by rw [Zbc]; omega),List.eraseIdx_eq_take_drop_succ]
  rw [he]
  simp only
  by_cases c1:b<s.outs[k].fr
  · rw [Zaf c1,show BF b s.outs[k].fr 1000000=false from PD.2 (by omega)]; rfl
  · by_cases c2:b>1000000
    · rw [Zae c1,Zaf c2,show BF b s.outs[k].fr 1000000=false from PD.2 (by omega)]; rfl
    · rw [Zae c1,Zae c2,show BF b s.outs[k].fr 1000000=true from Bx.2 (by omega)]
      cases BF c 0 1000 <;> rfl
theorem Aho {n:Nat} {s:Ae} (hg:Cs s) {a b:Int} (hn:1300<n):E4 n s (B [111,117,116]) [a,b]=some ((Nu s a b).1,((Nu s a b).2,())):=by
 have h1:=hg.outs
 have h2:=hg.runs
 have h3:=hg.cards
 have i0:Ao [a,b] 0=some a:=rfl
 have i1:Ao [a,b] 1=some b:=rfl
 unfold E4
 rw [i0,Zaa,OD (by omega) a (by omega),Zaa,show(B [111,117,116]).beq (B [105,110])=false by decide,Zad,i1,Zaa]
 simp only [Zaa,WK]
 unfold Nu
 cases hb1:BF a 0 99 with
 | false=>rfl
 | true =>
  cases hb2:BF b 0 1000000 with
  | false=>rfl
  | true =>
   simp only [ZaC,Za7,Zab,Zad,Zb0,if_true]
   by_cases hgo:FW s.outs a<0
   · rw [Zae (show ¬ FW s.outs a≥0 by omega),if_pos hgo,Zad]
     obtain⟨s1,s2⟩:=Et (F:=fun n i=>Ch n [a,b] s (Ae.mk [] [] [] [] (Ai.mk 0 [] [] 0 0 0) []) i) (G:=fun n i v0=>bif decide (v0.bus=a) then((Ao s.runs i).bind fun v2=>bif decide (v2.to_>b) then(some (.inr (s,(s,((),(8,())))))) else Ch n [a,b] s (Ae.mk [] [] [] [] (Ai.mk 0 [] [] 0 0 0) []) (IntKind.i64.wrap (i+1))) else Ch n [a,b] s (Ae.mk [] [] [] [] (Ai.mk 0 [] [] 0 0 0) []) (IntKind.i64.wrap (i+1))) s.runs (fun r=>!decide (r.bus=a) || decide (r.to_≤b)) (s,(Ae.mk [] [] [] [] (Ai.mk 0 [] [] 0 0 0) [],([a,b],((),((),()))))) (fun _=>(s,(s,((),(8,()))))) 0 (by omega) (fun n i=>by
       show Ch (n+1) [a,b] s _ i=_
       rw [Ch,i0,i1]
       rfl) (fun n i hi _=>by
      rw [AO hi,Zaa]
      by_cases c1:s.runs[i].bus=a
      · by_cases c2:s.runs[i].to_>b
        · rw [Zaf c1,Zaf c2,Zae (show ¬ s.runs[i].to_≤b by omega)]; rfl
        · rw [Zaf c1,Zae c2,Zaf (show s.runs[i].to_≤b by omega)]; rfl
      · rw [Zae c1]; rfl) (n:=n) (by omega)
     unfold QD
     cases hr:s.runs.all fun r=>!decide (r.bus=a) || decide (r.to_≤b) with
     | false =>
      obtain⟨k,hk⟩:=s2 hr
      rw [hk]; rfl
     | true =>
      rw [s1 hr,Zaa]
      simp only [Za3]
      have hz:(Cm s.cards a b).2=0:=by
       have hc:=hg.chk
       unfold WC at hc
       unfold Cm
       cases hr:Hg s.cards with
       | inl e=>rw [hr] at hc; have:=JI hr; simp only at hc; omega
       | inr y=>simp only; rw [hb1,hb2]; rfl
      have hnil:=VB (bus:=a) (at_:=b) hg.chk (by rw [hb1,hb2]; rfl)
      rw [i0,Zaa,i1,Zaa,S5 hg.kind h3 (by omega),Zaa]
      simp only [if_true,if_pos hz,Zaa]
      by_cases hl:(Cm s.cards a b).1=[]
      · rw [hnil.2 hl,if_pos hl]
        rw [A1 (by simp; omega),Zaa,Zax,A1 (by simp; omega),Zaa]
        rfl
      · have:HO s.cards a b≠[]:=fun h=>hl (hnil.1 h)
        rw [if_neg hl,Zaf (show(((HO s.cards a b).length:Nat):Int)>0 by have:=List.length_pos_iff.2 this; omega)]
        rfl
   · rw [Zaf (show FW s.outs a≥0 by omega),if_neg hgo]; rfl
end Go.Proofs.YtkpgggfibljflaaGreatDoor
