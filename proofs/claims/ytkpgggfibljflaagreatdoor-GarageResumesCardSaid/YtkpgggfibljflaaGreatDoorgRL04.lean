/- The plain law. -/
import Derived.Test.YtkpgggfibljflaaGreatDoorgRL03
set_option linter.all false
set_option maxRecDepth 100000
namespace Go.Proofs.YtkpgggfibljflaaGreatDoor
open Go Go.RowKit Go.Proofs
def IH (b:Bool) (e:Int):Unit ⊕ (AG×Unit):=bif b then .inl () else .inr (AG.mk e,())
theorem Ii (n:Nat) (b:Bool) (e:Int):AD n b e=some (IH b e):=by cases b <;> rfl
theorem Aay (n:Nat) (e:Int):Dm n e=some (IH (decide (e=0)) e):=by
 unfold Dm
 rw [Ii]
 cases decide (e=0) <;> rfl
theorem OL (n:Nat) (x lo hi:Int):AZ n x lo hi=some (Cp x lo hi,()):=by
 unfold AZ Cp
 cases decide (lo≤x) <;> rfl
theorem KJ {α:Type} {l:List α} (h:l.length≤1000000000):app [] l=some l:=AH (a:=[]) (by simpa using h)
theorem AlP {n:Nat} {l:List A1} {x:A1} (h:l.length<1000000000):HD n l x=some (l++[x],()):=by
 unfold HD AhW
 rw [KJ (by omega)]
 simp only [Zaa]
 rw [AH (by simp; omega)]; rfl
theorem AnU {n:Nat} {l:List Xy} {x:Xy} (h:l.length<1000000000):FZ n l x=some (l++[x],()):=by
 unfold FZ T0
 rw [KJ (by omega)]
 simp only [Zaa]
 rw [AH (by simp; omega)]; rfl
theorem AnV {n:Nat} {l:List AcQ} {x:AcQ} (h:l.length<1000000000):Ga n l x=some (l++[x],()):=by
 unfold Ga Alw
 rw [KJ (by omega)]
 simp only [Zaa]
 rw [AH (by simp; omega)]; rfl
theorem Ai3 {n:Nat} {l:List Ag} {x:Ag} (h:l.length<1000000000):FB n l x=some (l++[x],()):=by
 unfold FB Alx
 rw [KJ (by omega)]
 simp only [Zaa]
 rw [AH (by simp; omega)]; rfl
theorem Ai4 {n:Nat} {l:List AT} {x:AT} (h:l.length<1000000000):FC n l x=some (l++[x],()):=by
 unfold FC AhS
 rw [KJ (by omega)]
 simp only [Zaa]
 rw [AH (by simp; omega)]; rfl
theorem AlQ {n:Nat} {l:List AO} {x:AO} (h:l.length<1000000000):HJ n l x=some (l++[x],()):=by
 unfold HJ AhU
 rw [KJ (by omega)]
 simp only [Zaa]
 rw [AH (by simp; omega)]; rfl
theorem AnW {n:Nat} {l:List Int} {x:Int} (h:l.length<1000000000):IU n l x=some (l++[x],()):=by
 unfold IU Zc
 rw [KJ (by omega)]
 simp only [Zaa]
 rw [AH (by simp; omega)]; rfl
def AnX (c:A1):Bool:=bif decide (c.kind.n<2) then Cp c.part 0 15 && decide (c.sg=0) else decide (c.part=0) && (decide (c.kind.n=2) && Cp c.sg 1 999 || decide (c.kind.n=3) && decide (c.sg=0))
def Jo (c:A1):Bool:=Cp c.bus 0 99 && (Cp c.number 1 999 && (Cp c.minute 0 1000000 && AnX c))
theorem Ast (n:Nat) (c:A1) (hk:0≤c.kind.n∧c.kind.n≤3):GW n c=some (Jo c,()):=by
 have h4:c.kind.n=0∨c.kind.n=1∨c.kind.n=2∨c.kind.n=3:=by omega
 unfold GW Jo AnX Cp
 obtain⟨bus,number,minute,⟨k⟩,part,sg⟩:=c
 simp only at h4 ⊢
 cases decide (0≤bus) with
 | false=>rfl
 | true =>
 cases decide (bus≤99) with
 | false=>rfl
 | true =>
 cases decide (1≤number) with
 | false=>rfl
 | true =>
 cases decide (number≤999) with
 | false=>rfl
 | true =>
 cases decide (0≤minute) with
 | false=>rfl
 | true =>
 cases decide (minute≤1000000) with
 | false=>rfl
 | true =>
 rcases h4 with rfl | rfl | rfl | rfl
 · show(bif decide (0≤part) then(bif decide (part≤15) then(some (decide (sg=0),())) else some (false,())) else some (false,()))=_
   cases decide (0≤part) <;> cases decide (part≤15) <;> simp
 · show(bif decide (0≤part) then(bif decide (part≤15) then(some (decide (sg=0),())) else some (false,())) else some (false,()))=_
   cases decide (0≤part) <;> cases decide (part≤15) <;> simp
 · show(bif decide (part=0) then(bif decide (1≤sg) then(some (decide (sg≤999),())) else some (false,())) else some (false,()))=_
   cases decide (part=0) <;> cases decide (1≤sg) <;> simp
 · show(bif decide (part=0) then(some (decide (sg=0),())) else some (false,()))=_
   cases decide (part=0) <;> simp
def Ej (a c:A1):Bool:=decide (a.bus=c.bus) && (decide (a.number=c.number) && (decide (a.minute=c.minute) && (decide (a.kind.n=c.kind.n) && (decide (a.part=c.part) && (decide (a.sg=c.sg) && true)))))
theorem RM {a c:A1}:Ej a c=true↔a=c:=by
 obtain⟨a1,a2,a3,⟨a4⟩,a5,a6⟩:=a
 obtain⟨c1,c2,c3,⟨c4⟩,c5,c6⟩:=c
 simp [Ej]
theorem AnY {n:Nat} (g:Aj) (c:A1) (l:List A1) (hl:l.length≤4000000000000000000) (h:l.length+1≤n):Bo n g c l (l.length:Int) 0=some (bif l.any (fun a=>Ej a c) then .inr (g,(c,(AG.mk 6,()))) else .inl (g,(c,((),((),()))))):=by
 have key:=Ajm (F:=fun n (_:Unit) i=>Bo n g c l (l.length:Int) i) (l:=l) (N:=0) (T:=fun s i a=>bif Ej a c then .inr (.inr (g,(c,(AG.mk 6,())))) else .inl s) (E:=fun _=>.inl (g,(c,((),((),())))))
  (B:=fun n _ i v0=>(AD n (!Ej v0 c) 6).bind fun v1=>Sum.elim (fun v2=>Bo n g c l (l.length:Int) (IntKind.i64.wrap (i+1))) (fun v2=>some (.inr (g,(c,(v2.fst,()))))) (v1)) (fun _ _=>True)
  (fun _ _ _=>rfl) (fun n s i hi _ _=>by
   rw [Ii]
   cases Ej l[i] c
   · exact⟨rfl,trivial⟩
   · rfl) hl l.length () 0 n (by simp) (by omega) trivial
 rw [show((0:Nat):Int)=0 from rfl,Zar] at key
 rw [key]
 congr 1
 suffices H:∀ (l:List A1)(i:Nat),ArS (fun(s:Unit)(i:Nat) a=>bif Ej a c then .inr (.inr (g,(c,(AG.mk 6,())))) else .inl s) (fun _=>(.inl (g,(c,((),((),())))):(Aj×A1×Unit×Unit×Unit) ⊕ ((Aj×A1×AG×Unit)))) i () l=(bif l.any (fun a=>Ej a c) then .inr (g,(c,(AG.mk 6,()))) else .inl (g,(c,((),((),()))))) from H l 0
 intro l
 induction l with
 | nil=>intro i; rfl
 | cons a l ih =>
  intro i
  unfold ArS
  rw [Zb1]
  cases Ej a c
  · exact ih (i+1)
  · rfl
def KM (c:A1):Prop:=0≤c.kind.n∧c.kind.n≤3
theorem Ak0 {α R:Type} (p:α→Bool) (r:Nat→R) (E:R):∀ (l:List α)(i:Nat),(l.all p=true→ArS (fun(s:Unit) i a=>bif p a then .inl s else .inr (r i)) (fun _=>E) i () l=E)∧(l.all p=false→∃ k,ArS (fun(s:Unit) i a=>bif p a then .inl s else .inr (r i)) (fun _=>E) i () l=r k)
 | [],i=>⟨fun _=>rfl,fun h=>by cases h⟩
 | a::l,i=>by
  obtain⟨h1,h2⟩:=Ak0 p r E l (i+1)
  unfold ArS
  rw [ZaU]
  cases hp:p a with
  | false=>exact⟨(fun h=>by cases h),fun _=>⟨i,rfl⟩⟩
  | true =>
   simp only [ZaJ,Zab]
   exact⟨h1,h2⟩
theorem AnZ {n:Nat} {l:List A1} (hk:∀ c∈l,KM c) (hl:l.length≤1000) (h:l.length<n):(l.all Jo=true→Gy n l (l.length:Int) 0=some (.inl ((((),()),()),())))∧(l.all Jo=false→∃ k:Nat,Gy n l (l.length:Int) 0=some (.inr ((((),()),()),((k:Int),())))):=by
 have key:=Ajm (F:=fun n (_:Unit) i=>Gy n l (l.length:Int) i) (l:=l) (N:=0) (T:=fun s i a=>bif Jo a then .inl s else .inr (.inr ((((),()),()),((i:Int),())))) (E:=fun _=>.inl ((((),()),()),()))
  (B:=fun n _ i v0=>(GW n v0).bind fun v1=>bif !v1.fst then(some (.inr ((((),()),()),(i,())))) else Gy n l (l.length:Int) (IntKind.i64.wrap (i+1))) (fun _ _=>True)
  (fun _ _ _=>rfl) (fun n s i hi _ _=>by
   rw [Ast n _ (hk _ (Za1 hi))]
   cases Jo l[i]
   · rfl
   · exact⟨rfl,trivial⟩) (by omega) l.length () 0 n (by simp) (by omega) trivial
 rw [show((0:Nat):Int)=0 from rfl,Zar] at key
 obtain⟨h1,h2⟩:=Ak0 (R:=((((Unit×Unit)×Unit)×Unit) ⊕ ((((Unit×Unit)×Unit)×Int×Unit)))) Jo (fun i=>.inr ((((),()),()),((i:Int),()))) (.inl ((((),()),()),())) l 0
 exact⟨fun h=>by rw [key,h1 h],fun h=>by obtain⟨k,hk⟩:=h2 h; exact⟨k,by rw [key,hk]⟩⟩
def zC:A1:=A1.mk 0 0 0 (IK.mk 0) 0 0
def AnN:List (Int×A1)→List Int→List A1→Option (List (Int×A1)×List Int)
 | m,o,[]=>some (m,o)
 | m,o,c::l=>bif Dl Ce m c.number then(bif Ej (AV Ce m c.number zC) c then AnN m o l else none) else AnN (JA Ce m c.number c) (o++[c.number]) l
theorem AfQ (full:List A1) (hl:full.length≤1000):∀ (n i:Nat)(m:List (Int×A1))(o:List Int),full.length-i<n→i≤full.length→o.length≤i→match AnN m o (full.drop i) with
  | some (m',o')=>Ct n m o full (full.length:Int) (i:Int)=some (.inl ((m',(o',())),((),((),()))))
  | none=>∃ m' o',Ct n m o full (full.length:Int) (i:Int)=some (.inr ((m',(o',())),((),((),(6,())))))
 | 0,_,_,_,h,_,_=>absurd h (Zam _)
 | n+1,i,m,o,h,hi,ho=>by
  rw [Ct]
  by_cases hx:i<full.length
  · have hd:full.drop i=full[i]::full.drop (i+1):=Zaj hx
    rw [show decide ((i:Int)<(full.length:Int))=true by simp; omega,Zab,BS hx,Zaa,hd,wN i (by omega)]
    have ih:=fun m o=>AfQ full hl n (i+1) m o (by omega) (by omega)
    have happ:app o [full[i].number]=some (o++[full[i].number]):=AH (by simp; omega)
    unfold AnN
    cases hm:Dl Ce m full[i].number with
    | true =>
     simp only [Zab,ZaB,Zad]
     show(match (bif Ej (AV Ce m full[i].number zC) full[i] then AnN m o (full.drop (i+1)) else none) with | some (m',o')=>(bif !Ej (AV Ce m full[i].number zC) full[i] then _ else _)=_ | none=>∃ m' o',(bif !Ej (AV Ce m full[i].number zC) full[i] then _ else _)=_)
     cases Ej (AV Ce m full[i].number zC) full[i] with
     | true =>
      simp only [Zab,ZaB,Zad]
      exact ih m o (by omega)
     | false=>exact⟨m,o,rfl⟩
    | false =>
     simp only [Zab,Za4,Zad]
     rw [happ,Zaa]
     exact ih _ _ (by simp; omega)
  · have hd:full.drop i=[]:=by simp; omega
    rw [show decide ((i:Int)<(full.length:Int))=false by simp; omega,hd]
    rfl
theorem Af9:∀ (l:List A1)(m:List (Int×A1))(o:List Int)(m':List (Int×A1))(o':List Int),AnN m o l=some (m',o')→o'.length≤o.length+l.length
 | [],m,o,m',o',h=>by cases h; simp
 | c::l,m,o,m',o',h=>by
  unfold AnN at h
  cases hm:Dl Ce m c.number with
  | true =>
   rw [hm,Zab] at h
   cases hs:Ej (AV Ce m c.number zC) c with
   | true =>
    rw [hs,Zab] at h
    have:=Af9 l m o m' o' h
    simp; omega
   | false=>rw [hs] at h; cases h
  | false =>
   rw [hm,Zad] at h
   have:=Af9 l _ _ m' o' h
   simp at this ⊢; omega
theorem Au9 {o:List Int} (h:o.length≤1000000):Apc o=some (KG (fun a b=>decide (a≤b)) o):=by
 unfold Apc
 have hl:∀ (l:List Int),BJ l=l.length:=fun l=>by induction l with
  | nil=>rfl
  | cons a l ih=>simp [BJ,ih]
 rw [show Nat.blt (BJ o) 4611686018427387904=true by rw [hl]; exact Za7 (by omega)]
 rfl
def Mq (l:List A1):Int ⊕ (List (Int×A1)×List Int) :=
 if 40<l.length then .inl 3 else if l.all Jo=false then .inl 1 else match AnN [] [] l with
  | none=>.inl 6
  | some (m,o)=>.inr (m,KG (fun a b=>decide (a≤b)) o)
theorem ApC {n:Nat} {l:List A1} (hk:∀ c∈l,KM c) (hl:l.length≤1000) (h:l.length<n):Sd n l=some (match Mq l with | .inl e=>.inl ((),(e,())) | .inr y=>.inr ((y.1,(y.2,())),(0,()))):=by
 unfold Sd Mq
 by_cases h40:40<l.length
 · rw [show decide ((l.length:Int)>40)=true by simp; omega,Zab,if_pos h40]
 · rw [show decide ((l.length:Int)>40)=false by simp; omega,Zad,if_neg h40]
   obtain⟨r1,r2⟩:=AnZ hk hl h
   have r3:=AfQ l hl n 0 [] [] (by omega) (by omega) (by simp)
   rw [show((0:Nat):Int)=0 from rfl,Zar] at r3
   cases ha:l.all Jo with
   | false =>
    obtain⟨k,hk⟩:=r2 ha
    rw [hk,if_pos rfl]
    simp only [Zaa,Sum.elim_inr]
    rw [show decide ((k:Int)≥0)=true by simp]
    rfl
   | true =>
    rw [r1 ha,if_neg (by simp)]
    simp only [Zaa,Za3]
    cases hr:AnN [] [] l with
    | none =>
     rw [hr] at r3
     obtain⟨m',o',e⟩:=r3
     rw [e]; rfl
    | some y =>
     rw [hr] at r3
     have hlen:=Af9 l [] [] y.1 y.2 hr
     rw [r3]
     simp only [Zaa,Za3]
     rw [Au9 (by simp at hlen; omega)]; rfl
def AlG (l:List A1):Int:=match Mq l with
 | .inl e=>e
 | .inr _=>0
theorem Ai5 {n:Nat} {l:List A1} (hk:∀ c∈l,KM c) (hl:l.length≤1000) (h:l.length<n):JQ n l=some (AlG l,()):=by
 unfold JQ AlG
 rw [ApC hk hl h]
 cases Mq l <;> rfl
def AwF (m:List (Int×A1)) (bus at_:Int) (v:Int):Bool:=decide ((AV Ce m v zC).bus=bus) && ((decide ((AV Ce m v zC).kind.n=0) || decide ((AV Ce m v zC).kind.n=1)) && Abp m (AV Ce m v zC) at_)
def AvI (m:List (Int×A1)) (o:List Int) (bus at_:Int):List Int:=(o.filter (AwF m bus at_)).map fun v=>(AV Ce m v zC).number
theorem AdJ (m:List (Int×A1)) (cl full:List Int) (bus at_:Int) (hl:full.length≤1000):∀ (n i:Nat)(acc:List Int),full.length-i<n→i≤full.length→acc.length≤i→AW n at_ acc m cl bus full (full.length:Int) (i:Int)=some (.inl (((at_,()),((acc++AvI m (full.drop i) bus at_,()),(((((m,(cl,())),()),()),()),()))),((),((),((),((),((),(((),()),((bus,()),())))))))))
 | 0,_,_,h,_,_=>absurd h (Zam _)
 | n+1,i,acc,h,hi,ha=>by
  rw [AW]
  by_cases hx:i<full.length
  · have hd:full.drop i=full[i]::full.drop (i+1):=Zaj hx
    have ih:=fun acc=>AdJ m cl full bus at_ hl n (i+1) acc (by omega) (by omega)
    have happ:∀ x,app acc [x]=some (acc++[x]):=fun x=>AH (by simp; omega)
    rw [show decide ((i:Int)<(full.length:Int))=true by simp; omega,Zab,BS hx,Zaa,hd,wN i (by omega)]
    have e1:AvI m (full[i]::full.drop (i+1)) bus at_=(bif AwF m bus at_ full[i] then [(AV Ce m full[i] zC).number] else [])++AvI m (full.drop (i+1)) bus at_:=by
     unfold AvI
     rw [List.filter_cons]
     cases AwF m bus at_ full[i] <;> simp
    rw [e1]
    unfold Aqr AwF
    simp only [Zaa,happ]
    generalize hz:AV Ce m full[i] zC=z
    unfold zC at hz
    rw [hz]
    cases decide (z.bus=bus) with
    | false=>simpa using ih acc (by omega)
    | true =>
     cases decide (z.kind.n=0) with
     | true =>
      cases Abp m z at_ with
      | true=>simpa using ih (acc++[z.number]) (by simp; omega)
      | false=>simpa using ih acc (by omega)
     | false =>
      cases decide (z.kind.n=1) with
      | true =>
       cases Abp m z at_ with
       | true=>simpa using ih (acc++[z.number]) (by simp; omega)
       | false=>simpa using ih acc (by omega)
      | false=>simpa using ih acc (by omega)
  · have hd:full.drop i=[]:=by simp; omega
    rw [show decide ((i:Int)<(full.length:Int))=false by simp; omega,hd]
    simp [AvI]
def J7 (l:List A1) (bus at_:Int):List Int×Int:=match Mq l with
 | .inl e=>([],e)
 | .inr y=>if Cp bus 0 99 && Cp at_ 0 1000000 then(AvI y.1 y.2 bus at_,0) else([],2)
theorem AlR {α:Type} (le:α→α→Bool) (x:α):∀ l,(AhO le x l).length=l.length+1
 | []=>rfl
 | y::r=>by
  unfold AhO
  cases le x y
  · simp [AlR le x r]
  · simp
theorem Vk {α:Type} (le:α→α→Bool):∀ l,(KG le l).length=l.length
 | []=>rfl
 | x::r=>by
  unfold KG
  rw [AlR,Vk le r]; rfl
theorem AlS {α:Type} (le:α→α→Bool) (x z:α):∀ l,z∈AhO le x l↔z=x∨z∈l
 | []=>by simp [AhO]
 | y::r=>by
  unfold AhO
  cases le x y
  · simp only [Zad,Zak,AlS le x z r]
    constructor
    · rintro(h | h | h)
      · exact .inr (.inl h)
      · exact .inl h
      · exact .inr (.inr h)
    · rintro(h | h | h)
      · exact .inr (.inl h)
      · exact .inl h
      · exact .inr (.inr h)
  · simp
theorem AlT {α:Type} (le:α→α→Bool) (z:α):∀ l,z∈KG le l↔z∈l
 | []=>by simp [KG]
 | x::r=>by
  unfold KG
  rw [AlS,AlT le z r,Zak]
theorem WX {l:List A1} {y:List (Int×A1)×List Int} (h:Mq l=.inr y):l.length≤40∧l.all Jo=true∧∃ o,AnN [] [] l=some (y.1,o)∧y.2=KG (fun a b=>decide (a≤b)) o:=by
 unfold Mq at h
 split at h
 · cases h
 · rename_i h40
   split at h
   · cases h
   · rename_i ha
     split at h
     · cases h
     · rename_i m o hr
       cases h
       exact⟨by omega,by simpa using ha,o,hr,rfl⟩
theorem RN {l:List A1} {e:Int} (h:Mq l=.inl e):e=1∨e=3∨e=6:=by
 unfold Mq at h
 split at h
 · cases h; simp
 · split at h
   · cases h; simp
   · split at h
     · cases h; simp
     · cases h
theorem Aq2 {l:List A1} {y:List (Int×A1)×List Int} (h:Mq l=.inr y):y.2.length≤40:=by
 obtain⟨h1,_,o,h2,h3⟩:=WX h
 have:=Af9 l _ _ _ _ h2
 rw [h3,Vk]
 simp at this; omega
theorem AuA {n:Nat} {l:List A1} {bus at_:Int} (hk:∀ c∈l,KM c) (hl:l.length≤1000) (h:l.length+50<n):IQ n l bus at_=some ((J7 l bus at_).1,((J7 l bus at_).2,())):=by
 unfold IQ J7
 rw [ApC hk hl (by omega)]
 cases hr:Mq l with
 | inl e =>
  have he:e≠0:=by have:=RN hr; omega
  simp only [Zaa,Za3]
  rw [show(e != 0)=true by simpa using he]
  rfl
 | inr y =>
  simp only [Zaa,Sum.elim_inr]
  rw [show((0:Int) != 0)=false from rfl,Zad]
  unfold Cp
  have hy:=Aq2 hr
  have ho:=AdJ y.1 y.2 y.2 bus at_ (by omega) n 0 [] (by omega) (by omega) (by simp)
  rw [show((0:Nat):Int)=0 from rfl,Zar,Zav] at ho
  have hb:JR n y.1 y.2 bus at_=some (((y.1,(y.2,())),((),(AvI y.1 y.2 bus at_,())))):=by
   unfold JR
   rw [ho]; rfl
  cases decide (0≤bus) <;> cases decide (bus≤99) <;> cases decide (0≤at_) <;> cases decide (at_≤1000000) <;> simp [hb]
section
variable {α β:Type} [DecidableEq α] {q:α→α→Bool} (hq:∀ a b,q a b=true↔a=b)
include hq
theorem Aoa (a:α):q a a=true:=(hq a a).2 rfl
theorem K1 (k k':α) (v:β):∀ m:List (α×β),En q (JA q m k v) k' = if k=k' then some v else En q m k'
 | []=>by
  unfold JA En En
  by_cases h:k=k'
  · subst h; simp [Aoa hq]
  · have:q k k' = false:=by
     cases hh:q k k' with
     | false=>rfl
     | true=>exact absurd ((hq _ _).1 hh) h
    rw [this,if_neg h]; rfl
 | p::r=>by
  have ih:=K1 k k' v r
  unfold JA
  cases hp:q p.1 k with
  | true =>
   have hpk:=(hq _ _).1 hp
   simp only [Zab]
   unfold En
   by_cases h:k=k'
   · subst h; simp [Aoa hq]
   · have h1:q k k' = false:=by
      cases hh:q k k' with
      | false=>rfl
      | true=>exact absurd ((hq _ _).1 hh) h
     have h2:q p.1 k' = false:=by rw [hpk]; exact h1
     simp only [h1,h2,Zad,if_neg h]
  | false =>
   simp only [Zad]
   unfold En
   cases hp2:q p.1 k' with
   | true =>
    have hpk:=(hq _ _).1 hp2
    have:k≠k':=fun h=>by
     rw [h,← hpk] at hp
     rw [Aoa hq] at hp; cases hp
    rw [if_neg this]; rfl
   | false=>simpa using ih
theorem WY (m:List (α×β)) (k k':α) (v:β):Dl q (JA q m k v) k' = true↔k=k'∨Dl q m k' = true:=by
 unfold Dl
 rw [K1 hq]
 by_cases h:k=k' <;> simp [h]
end
theorem RO (a b:Int):Ce a b=true↔a=b:=by simp [Ce]
theorem OV (a b:Nw):AI a b=true↔a=b:=by
 obtain⟨a1,a2⟩:=a
 obtain⟨b1,b2⟩:=b
 simp [AI]
theorem Vl (a b:ByteArray):Fi a b=true↔a=b:=by simp [Fi]
def Xu (r:Ag):Prop:=0≤r.kind.n∧r.kind.n≤2
def B6 (v a:Ag):Bool:=decide (v.machine=a.machine) && (decide (v.seq=a.seq) && (decide (v.minute=a.minute) && (decide (v.kind.n=a.kind.n) && (decide (v.a=a.a) && (decide (v.b=a.b) && true)))))
theorem II {a c:Ag}:B6 a c=true↔a=c:=by
 obtain⟨a1,a2,a3,⟨a4⟩,a5,a6⟩:=a
 obtain⟨c1,c2,c3,⟨c4⟩,c5,c6⟩:=c
 simp [B6]
theorem AlU {n:Nat} {l:List Ag} {v:Ag} (hl:l.length≤1000) (h:l.length<n):CK n l v=some (l.any (B6 v),()):=by
 have H:∀ (n i:Nat),l.length-i<n→i≤l.length→((l.drop i).any (B6 v)=false→Bp n l v (l.length:Int) (i:Int)=some (.inl (v,())))∧((l.drop i).any (B6 v)=true→∃ k:Nat,Bp n l v (l.length:Int) (i:Int)=some (.inr (v,((k:Int),())))):=by
  intro n
  induction n with
  | zero=>intro i h; exact absurd h (Zam _)
  | succ n ih =>
   intro i h hi
   rw [Bp]
   by_cases hx:i<l.length
   · have hd:l.drop i=l[i]::l.drop (i+1):=Zaj hx
     rw [show decide ((i:Int)<(l.length:Int))=true by simp; omega,Zab,BS hx,Zaa,hd,wN i (by omega),Zb1]
     change ((B6 v l[i] || (l.drop (i+1)).any (B6 v))=false→(bif B6 v l[i] then _ else _)=_)∧((B6 v l[i] || (l.drop (i+1)).any (B6 v))=true→∃ k:Nat,(bif B6 v l[i] then _ else _)=_)
     cases B6 v l[i] with
     | true=>exact⟨(fun h=>by cases h),fun _=>⟨i,rfl⟩⟩
     | false=>simpa using ih (i+1) (by omega) (by omega)
   · have hd:l.drop i=[]:=by simp; omega
     rw [show decide ((i:Int)<(l.length:Int))=false by simp; omega,hd]
     exact⟨fun _=>rfl,fun h=>by cases h⟩
 obtain⟨h1,h2⟩:=H n 0 (by omega) (by omega)
 rw [show((0:Nat):Int)=0 from rfl,Zar] at h1 h2
 unfold CK Iu
 cases hc:l.any (B6 v) with
 | false=>rw [h1 hc]; rfl
 | true =>
  obtain⟨k,hk⟩:=h2 hc
  rw [hk]
  simp
def Bm (r:Ag):Bool:=Cp r.machine 0 999 && (Cp r.seq 1 9999 && (Cp r.minute 0 1000000 && (bif decide (r.kind.n=0) then Cp r.a 0 99 && Cp r.b 0 10000 else bif decide (r.kind.n=1) then Cp r.a 0 1000000 && decide (r.b=0) else Cp r.a 0 9999 && Cp r.b 0 10000000)))
theorem Aq3 (n:Nat) (r:Ag) (hk:Xu r):CX n r=some (Bm r,()):=by
 obtain⟨hk0,hk1⟩:=hk
 have h4:r.kind.n=0∨r.kind.n=1∨r.kind.n=2:=by omega
 unfold CX Bm Cp
 obtain⟨machine,seq,minute,⟨k⟩,a,b⟩:=r
 simp only at h4 ⊢
 cases decide (0≤machine) with
 | false=>rfl
 | true =>
 cases decide (machine≤999) with
 | false=>rfl
 | true =>
 cases decide (1≤seq) with
 | false=>rfl
 | true =>
 cases decide (seq≤9999) with
 | false=>rfl
 | true =>
 cases decide (0≤minute) with
 | false=>rfl
 | true =>
 cases decide (minute≤1000000) with
 | false=>rfl
 | true =>
 rcases h4 with rfl | rfl | rfl
 · show(bif decide (0≤a) then(bif decide (a≤99) then(bif decide (0≤b) then(some (decide (b≤10000),())) else some (false,())) else some (false,())) else some (false,()))=_
   cases decide (0≤a) <;> cases decide (a≤99) <;> cases decide (0≤b) <;> simp
 · show(bif decide (0≤a) then(bif decide (a≤1000000) then(some (decide (b=0),())) else some (false,())) else some (false,()))=_
   cases decide (0≤a) <;> cases decide (a≤1000000) <;> simp
 · show(bif decide (0≤a) then(bif decide (a≤9999) then(bif decide (0≤b) then(some (decide (b≤10000000),())) else some (false,())) else some (false,())) else some (false,()))=_
   cases decide (0≤a) <;> cases decide (a≤9999) <;> cases decide (0≤b) <;> simp
theorem Gt {α A B:Type} {F:Nat→Int→Option (A ⊕ B)} {G:Nat→Int→α→Option (A ⊕ B)} (l:List α) (p:α→Bool) (okv:A) (bad:Int→B) (N:Nat) (hl:l.length≤4000000000000000000)
  (hF:∀ n i,F (n+1) i=bif decide (i<(l.length:Int)) then(A3 l i).bind (G n i) else some (.inl okv))
  (hG:∀ n (i:Nat) (hi:i<l.length),N≤n→G n (i:Int) l[i]=bif p l[i] then F n (IntKind.i64.wrap ((i:Int)+1)) else some (.inr (bad (i:Int)))) {n:Nat} (hn:N+l.length<n) :
  (l.all p=true→F n 0=some (.inl okv))∧(l.all p=false→∃ k:Nat,F n 0=some (.inr (bad (k:Int)))):=by
 have key:=Ajm (F:=fun n (_:Unit) i=>F n i) (l:=l) (N:=N) (T:=fun s i a=>bif p a then .inl s else .inr (.inr (bad (i:Int)))) (E:=fun _=>.inl okv)
  (B:=fun n _ i v0=>G n i v0) (fun _ _=>True) (fun n _ i=>hF n i) (fun n s i hi hN _=>by
   rw [hG n i hi hN]
   cases p l[i]
   · rfl
   · exact⟨rfl,trivial⟩) hl l.length () 0 n (by simp) (by omega) trivial
 rw [show((0:Nat):Int)=0 from rfl,Zar] at key
 obtain⟨h1,h2⟩:=Ak0 (R:=A ⊕ B) p (fun i=>.inr (bad (i:Int))) (.inl okv) l 0
 exact⟨fun h=>by rw [key,h1 h],fun h=>by obtain⟨k,hk⟩:=h2 h; exact⟨k,by rw [key,hk]⟩⟩
def UB (lists:List (List Ag)):Int:=if 6<lists.length then 3 else bif lists.all (fun l=>decide (l.length≤60)) then(bif lists.all (fun l=>l.all Bm) then 0 else 1) else 3
theorem Aob (lists:List (List Ag)):UB lists=0∨UB lists=1∨UB lists=3:=by
 unfold UB
 split
 · simp
 · cases lists.all (fun l=>decide (l.length≤60)) <;> cases lists.all (fun l=>l.all Bm) <;> simp
theorem Ai6 {n:Nat} {l:List Ag} (hk:∀ r∈l,Xu r) (hl:l.length≤1000) (h:l.length<n) :
 (l.all Bm=true→B9 n l (l.length:Int) 0=some (.inl ((((),()),()),())))∧(l.all Bm=false→∃ k:Nat,B9 n l (l.length:Int) 0=some (.inr ((((),()),()),((k:Int),())))):=Gt (F:=fun n i=>B9 n l (l.length:Int) i) (G:=fun n i v0=>(CX n v0).bind fun v1=>bif !v1.fst then(some (.inr ((((),()),()),(i,())))) else B9 n l (l.length:Int) (IntKind.i64.wrap (i+1))) l Bm ((((),()),()),()) (fun i=>((((),()),()),(i,()))) 0 (by omega) (fun _ _=>rfl) (fun n i hi _=>by
 rw [Aq3 n _ (hk _ (Za1 hi))]
 cases Bm l[i] <;> rfl) (n:=n) (by omega)
theorem Ai7 {n:Nat} {lists:List (List Ag)} (hl:lists.length≤1000) (h:lists.length<n) :
 (lists.all (fun l=>decide (l.length≤60))=true→BW n lists (lists.length:Int) 0=some (.inl ((((),()),()),())))∧(lists.all (fun l=>decide (l.length≤60))=false→∃ k:Nat,BW n lists (lists.length:Int) 0=some (.inr ((((),()),()),((k:Int),())))):=Gt (F:=fun n i=>BW n lists (lists.length:Int) i) (G:=fun n i v0=>bif !decide ((v0.length:Int)≤60) then(some (.inr ((((),()),()),(i,())))) else BW n lists (lists.length:Int) (IntKind.i64.wrap (i+1))) lists (fun l=>decide (l.length≤60)) ((((),()),()),()) (fun i=>((((),()),()),(i,()))) 0 (by omega) (fun _ _=>rfl) (fun n i hi _=>by
 have:decide ((lists[i].length:Int)≤60)=decide (lists[i].length≤60):=by
  by_cases h:lists[i].length≤60
  · rw [Zaf h]; exact Zaf (by omega)
  · rw [Zae h]; exact Zae (by omega)
 rw [this]
 cases decide (lists[i].length≤60) <;> rfl) (n:=n) (by omega)
theorem Ai8 {n:Nat} {lists:List (List Ag)} (hk:∀ l∈lists,∀ r∈l,Xu r) (hl:lists.length≤1000) (hl2:∀ l∈lists,l.length≤1000) (h:1001+lists.length<n) :
 (lists.all (fun l=>l.all Bm)=true→Bb n lists (lists.length:Int) 0=some (.inl ((((),()),()),())))∧(lists.all (fun l=>l.all Bm)=false→∃ k:Nat,Bb n lists (lists.length:Int) 0=some (.inr ((((),()),()),((k:Int),())))):=Gt (F:=fun n i=>Bb n lists (lists.length:Int) i) (G:=fun n i v0=>(B9 n v0 (v0.length:Int) 0).bind fun v1=>Sum.elim (fun v2=>Bb n lists (lists.length:Int) (IntKind.i64.wrap (i+1))) (fun v2=>bif !!decide (v2.snd.fst≥0) then(some (.inr ((((),()),()),(i,())))) else Bb n lists (lists.length:Int) (IntKind.i64.wrap (i+1))) (v1)) lists (fun l=>l.all Bm) ((((),()),()),()) (fun i=>((((),()),()),(i,()))) 1001 (by omega) (fun _ _=>rfl) (fun n i hi hn=>by
 obtain⟨h1,h2⟩:=Ai6 (n:=n) (l:=lists[i]) (hk _ (Za1 hi)) (hl2 _ (Za1 hi)) (by have:=hl2 _ (Za1 hi); omega)
 cases ha:lists[i].all Bm with
 | true=>rw [h1 ha]; rfl
 | false =>
  obtain⟨k,hk⟩:=h2 ha
  rw [hk]
  simp only [Zaa,Sum.elim_inr]
  rw [show decide ((k:Int)≥0)=true by simp]
  rfl) (n:=n) (by omega)
theorem Aoc {n:Nat} {lists:List (List Ag)} (hk:∀ l∈lists,∀ r∈l,Xu r) (hl:lists.length≤1000) (hl2:∀ l∈lists,l.length≤1000) (h:1001+lists.length<n):Ln n lists=some (UB lists,()):=by
 unfold Ln UB
 by_cases h6:6<lists.length
 · rw [show decide ((lists.length:Int)>6)=true by simp; omega,if_pos h6]; rfl
 · rw [show decide ((lists.length:Int)>6)=false by simp; omega,if_neg h6,Za4,Zab]
   obtain⟨a1,a2⟩:=Ai7 (n:=n) (lists:=lists) hl (by omega)
   obtain⟨b1,b2⟩:=Ai8 (n:=n) hk hl hl2 h
   cases ha:lists.all (fun l=>decide (l.length≤60)) with
   | false =>
    obtain⟨k,hk⟩:=a2 ha
    rw [hk]
    simp only [Zaa,Sum.elim_inr]
    rw [show decide ((k:Int)≥0)=true by simp]
    rfl
   | true =>
    rw [a1 ha]
    simp only [Zaa,Za3]
    cases hb:lists.all (fun l=>l.all Bm) with
    | false =>
     obtain⟨k,hk⟩:=b2 hb
     rw [hk]
     simp only [Zaa,Sum.elim_inr]
     rw [show decide ((k:Int)≥0)=true by simp]
     rfl
    | true=>rw [b1 hb]; rfl
def Y8:List (List Ag)→Nat
 | []=>0
 | l::r=>l.length+Y8 r
theorem ApD:∀ (r:List (List Ag)),(∀ l∈r,l.length≤1000)→Y8 r≤r.length*1000
 | [],_=>by simp [Y8]
 | l::r,h=>by
  have h1:=ApD r fun x hx=>h x (by simp [hx])
  have h2:=h l (by simp)
  simp only [Y8,Za6]
  omega
theorem AlV:∀ (r:List (List Ag)),r.flatten.length=Y8 r
 | []=>rfl
 | l::r=>by simp [Y8,AlV r]
theorem Aaz (full:List (List Ag)) (hl:full.length≤1000) (hl2:∀ l∈full,l.length≤1000):∀ (n i s:Nat),full.length-i<n→i≤full.length→s≤i*1000→Pm n full (s:Int) full (full.length:Int) (i:Int)=some (full,(((s+Y8 (full.drop i):Nat):Int),()))
 | 0,_,_,h,_,_=>absurd h (Zam _)
 | n+1,i,s,h,hi,hs=>by
  rw [Pm]
  by_cases hx:i<full.length
  · have hd:full.drop i=full[i]::full.drop (i+1):=Zaj hx
    have h2:=hl2 _ (Za1 hx)
    have e:IntKind.i64.wrap ((s:Int)+(full[i].length:Int))=((s+full[i].length:Nat):Int):=by rw [Bv (by omega) (by omega)]; omega
    rw [show decide ((i:Int)<(full.length:Int))=true by simp; omega,Zab,BS hx,Zaa,e,show decide (((s+full[i].length:Nat):Int)<0)=false from Zae (by omega),Zad,wN i (by omega),Aaz full hl hl2 n (i+1) _ (by omega) (by omega) (by omega),hd]
    simp only [Y8]
    rw [Zbf]
  · have hd:full.drop i=[]:=by simp; omega
    rw [show decide ((i:Int)<(full.length:Int))=false by simp; omega,hd]
    simp [Y8]
theorem Aa0 (full:List (List Ag)) (hl:full.length≤1000) (hl2:∀ l∈full,l.length≤1000):∀ (n i:Nat)(acc:List Ag),full.length-i<n→i≤full.length→acc.length≤i*1000→Pn n acc full (full.length:Int) (i:Int)=some (acc++(full.drop i).flatten,())
 | 0,_,_,h,_,_=>absurd h (Zam _)
 | n+1,i,acc,h,hi,hs=>by
  rw [Pn]
  by_cases hx:i<full.length
  · have hd:full.drop i=full[i]::full.drop (i+1):=Zaj hx
    have h2:=hl2 _ (Za1 hx)
    rw [show decide ((i:Int)<(full.length:Int))=true by simp; omega,Zab,BS hx,Zaa,AH (by omega),Zaa,wN i (by omega),Aa0 full hl hl2 n (i+1) _ (by omega) (by omega) (by simp; omega),hd,List.flatten_cons,Za8]
  · have hd:full.drop i=[]:=by simp; omega
    rw [show decide ((i:Int)<(full.length:Int))=false by simp; omega,hd]
    simp
theorem Aq4 {n:Nat} {lists:List (List Ag)} (hl:lists.length≤1000) (hl2:∀ l∈lists,l.length≤1000) (h:lists.length<n):AfH n lists=some (lists.flatten,()):=by
 unfold AfH
 have h1:=Aaz lists hl hl2 n 0 0 (by omega) (by omega) (by omega)
 have h2:=Aa0 lists hl hl2 n 0 [] (by omega) (by omega) (by simp)
 have h3:=ApD lists hl2
 rw [show((0:Nat):Int)=0 from rfl] at h1 h2
 rw [Zar,Zas] at h1
 rw [Zar,Zav] at h2
 rw [h1]
 simp only [Zaa]
 rw [show(decide ((0:Int)≤((Y8 lists:Nat):Int)) && decide (((Y8 lists:Nat):Int)≤1000000000))=true by simp; omega,Zab,Zaa,h2]
 rfl
def zR:Ag:=Ag.mk 0 0 0 (IK.mk 0) 0 0
def CS (r:Ag):Nw:=Nw.mk r.machine r.seq
def Aix:List (Nw×Ag)→List Ag→List Ag→Option (List Ag)
 | _,o,[]=>some o
 | m,o,r::l=>bif Dl AI m (CS r) then(bif B6 (AV AI m (CS r) zR) r then Aix m o l else none) else Aix (JA AI m (CS r) r) (o++[r]) l
theorem Aa1 (full:List Ag) (hl:full.length≤1000000):∀ (n i:Nat)(m:List (Nw×Ag))(o:List Ag),full.length-i<n→i≤full.length→o.length≤i→match Aix m o (full.drop i) with
  | some o'=>∃ m',By n m o full (full.length:Int) (i:Int)=some (.inl (m',(o',())))
  | none=>∃ m',By n m o full (full.length:Int) (i:Int)=some (.inr (m',([],(6,()))))
 | 0,_,_,_,h,_,_=>absurd h (Zam _)
 | n+1,i,m,o,h,hi,ho=>by
  rw [By]
  by_cases hx:i<full.length
  · have hd:full.drop i=full[i]::full.drop (i+1):=Zaj hx
    rw [show decide ((i:Int)<(full.length:Int))=true by simp; omega,Zab,BS hx,Zaa,hd,wN i (by omega)]
    have ih:=fun m o=>Aa1 full hl n (i+1) m o (by omega) (by omega)
    have happ:app o [full[i]]=some (o++[full[i]]):=AH (by simp; omega)
    unfold Aix
    change match (bif Dl AI m (CS full[i]) then(bif B6 (AV AI m (CS full[i]) zR) full[i] then Aix m o (full.drop (i+1)) else none) else Aix (JA AI m (CS full[i]) full[i]) (o++[full[i]]) (full.drop (i+1))) with
     | some o'=>∃ m',(bif Dl AI m (CS full[i]) then(bif !B6 (AV AI m (CS full[i]) zR) full[i] then _ else(bif !Dl AI m (CS full[i]) then _ else _)) else(bif !Dl AI m (CS full[i]) then _ else _))=_
     | none=>∃ m',(bif Dl AI m (CS full[i]) then(bif !B6 (AV AI m (CS full[i]) zR) full[i] then _ else(bif !Dl AI m (CS full[i]) then _ else _)) else(bif !Dl AI m (CS full[i]) then _ else _))=_
    cases hm:Dl AI m (CS full[i]) with
    | true =>
     cases B6 (AV AI m (CS full[i]) zR) full[i] with
     | true =>
      simp only [Zab,ZaB,Zad]
      exact ih m o (by omega)
     | false=>exact⟨m,rfl⟩
    | false =>
     simp only [Zab,Za4,Zad]
     rw [happ]
     simp only [Zaa]
     exact ih _ _ (by simp; omega)
  · have hd:full.drop i=[]:=by simp; omega
    rw [show decide ((i:Int)<(full.length:Int))=false by simp; omega,hd]
    exact⟨m,rfl⟩
def Asu (a b:Ag):Bool:=decide (a.machine=b.machine) && decide (a.minute>b.minute)
def Y9:List Ag→Bool
 | a::b::r=>!Asu a b && Y9 (b::r)
 | _=>true
theorem Aa2 (full:List Ag) (hl:full.length≤1000000):∀ (n i:Nat),full.length-i<n→i≤full.length→Cr n full (full.length:Int) (i:Int)=some (bif Y9 (full.drop (i-1)) then .inl (full,()) else .inr ([],(6,())))
 | 0,_,h,_=>absurd h (Zam _)
 | n+1,i,h,hi=>by
  rw [Cr]
  by_cases hx:i<full.length
  · rw [show decide ((i:Int)<(full.length:Int))=true by simp; omega,Zab,BS hx,Zaa,show((i:Nat):Int).toNat=i from rfl,Aku hx,Zaa,wN i (by omega)]
    have ih:=Aa2 full hl n (i+1) (by omega) (by omega)
    rw [show i+1-1=i by omega] at ih
    by_cases h0:i=0
    · subst h0
      rw [show decide (((0:Nat):Int)>0)=false from rfl,Zad,ih]
    · have hx1:i-1<full.length:=by omega
      have e:IntKind.i64.wrap ((i:Int)-1)=((i-1:Nat):Int):=by rw [Bv (by omega) (by omega)]; omega
      rw [show decide ((i:Int)>0)=true from Zaf (by omega),Zab,e,BS hx1,Zaa,show((i-1:Nat):Int).toNat=i-1 from rfl,Aku hx1,Zaa]
      simp only [Zaa]
      have hd:full.drop (i-1)=full[i-1]::full[i]::full.drop (i+1):=by
       rw [Zaj hx1,show i-1+1=i by omega,Zaj hx]
      have hd2:full.drop i=full[i]::full.drop (i+1):=Zaj hx
      rw [hd2] at ih
      rw [hd,ih]
      simp only [Y9,Asu]
      cases decide (full[i-1].machine=full[i].machine) <;> cases decide (full[i-1].minute>full[i].minute) <;> simp
  · have hi':i=full.length:=by omega
    rw [show decide ((i:Int)<(full.length:Int))=false by simp; omega,Zad]
    have:Y9 (full.drop (i-1))=true:=by
     rcases Zbj full.length with h0 | h0
     · have:full=[]:=Zb2.1 h0
       subst this
       simp [Y9]
     · have hx1:i-1<full.length:=by omega
       rw [Zaj hx1,show i-1+1=full.length by omega,List.drop_length]
       rfl
    rw [this]; rfl
theorem Ajr {α:Type} (eq:α→α→Bool) (x:α):∀ l,F0 eq (l++[x])=(F0 eq l && !l.any (fun a=>eq a x))
 | []=>by simp [F0]
 | y::r=>by
  rw [ZaZ,F0,F0,Ajr eq x r,List.any_append,Zb1]
  simp only [Zb1,List.any_nil,Bool.or_false]
  cases r.any (eq y) <;> cases eq y x <;> cases F0 eq r <;> cases r.any (fun a=>eq a x) <;> rfl
def AwG (a b:Ag):Bool:=a.machine == b.machine && a.seq == b.seq
theorem AuB {a b:Ag}:AwG a b=true↔CS a=CS b:=by simp [AwG,CS]
theorem AfR:∀ (l:List Ag)(m:List (Nw×Ag))(o o':List Ag),Aix m o l=some o'→(∀ a∈o,Dl AI m (CS a)=true)→F0 AwG o=true→F0 AwG o' = true
 | [],m,o,o',h,_,hd=>by cases h; exact hd
 | r::l,m,o,o',h,hm,hd=>by
  unfold Aix at h
  cases hr:Dl AI m (CS r) with
  | true =>
   rw [hr,Zab] at h
   cases hs:B6 (AV AI m (CS r) zR) r with
   | true=>rw [hs,Zab] at h; exact AfR l m o o' h hm hd
   | false=>rw [hs] at h; cases h
  | false =>
   rw [hr,Zad] at h
   refine AfR l _ _ o' h (fun a ha=>?_) ?_
   · rw [WY OV]
     rcases Zal.1 ha with ha | ha
     · exact .inr (hm a ha)
     · rw [Zaz.1 ha]; exact .inl rfl
   · rw [Ajr,hd,ZaJ]
     have:o.any (fun a=>AwG a r)=false:=by
      rw [Zbz]
      intro a ha he
      have:=hm a ha
      rw [AuB.1 he,hr] at this; cases this
     rw [this]; rfl
theorem Ak1:∀ (l:List Ag)(m:List (Nw×Ag))(o o':List Ag),Aix m o l=some o'→∀ a∈o',a∈o∨a∈l
 | [],m,o,o',h=>by cases h; exact fun a ha=>.inl ha
 | r::l,m,o,o',h=>by
  unfold Aix at h
  cases hr:Dl AI m (CS r) with
  | true =>
   rw [hr,Zab] at h
   cases hs:B6 (AV AI m (CS r) zR) r with
   | true =>
    rw [hs,Zab] at h
    intro a ha
    rcases Ak1 l m o o' h a ha with h' | h'
    · exact .inl h'
    · exact .inr (by simp [h'])
   | false=>rw [hs] at h; cases h
  | false =>
   rw [hr,Zad] at h
   intro a ha
   rcases Ak1 l _ _ o' h a ha with h' | h'
   · rcases Zal.1 h' with h' | h'
     · exact .inl h'
     · exact .inr (by rw [Zaz.1 h']; simp)
   · exact .inr (by simp [h'])
theorem Ak2:∀ (l:List Ag)(m:List (Nw×Ag))(o o':List Ag),Aix m o l=some o'→o'.length≤o.length+l.length
 | [],m,o,o',h=>by cases h; simp
 | r::l,m,o,o',h=>by
  unfold Aix at h
  cases hr:Dl AI m (CS r) with
  | true =>
   rw [hr,Zab] at h
   cases hs:B6 (AV AI m (CS r) zR) r with
   | true =>
    rw [hs,Zab] at h
    have:=Ak2 l m o o' h
    simp; omega
   | false=>rw [hs] at h; cases h
  | false =>
   rw [hr,Zad] at h
   have:=Ak2 l _ _ o' h
   simp at this ⊢; omega
theorem Aa3 {α:Type}:∀ (l:List α),BJ l=l.length
 | []=>rfl
 | a::l=>by simp [BJ,Aa3 l]
theorem AuC {o:List Ag} (hl:o.length≤1000000) (hr:∀ a∈o,Bm a=true) (hd:F0 AwG o=true):Ar7 o=some (KG Aca o):=by
 unfold Ar7
 have h1:Nat.blt (BJ o) 4611686018427387904=true:=by rw [Aa3]; exact Za7 (by omega)
 have h2:o.all (fun a=>Alq a.machine && Alq a.seq)=true:=by
  rw [ZaD]
  intro a ha
  have:=hr a ha
  unfold Bm at this
  simp only [Zaq,D8] at this
  simp [Alq]; omega
 have h3:F0 (fun a b:Ag=>a.machine == b.machine && a.seq == b.seq) o=true:=hd
 rw [h1,h2,h3]; rfl
def SW (lists:List (List Ag)):Int ⊕ List Ag :=
 if UB lists≠0 then .inl (UB lists) else match Aix [] [] lists.flatten with
  | none=>.inl 6
  | some o=>bif Y9 (KG Aca o) then .inr (KG Aca o) else .inl 6
theorem AlW {lists:List (List Ag)} {e:Int} (h:SW lists=.inl e):e=1∨e=3∨e=6:=by
 unfold SW at h
 have:=Aob lists
 split at h
 · cases h; omega
 · split at h
   · cases h; simp
   · rename_i o _
     cases ho:Y9 (KG Aca o) with
     | true=>rw [ho] at h; cases h
     | false=>rw [ho] at h; cases h; simp
theorem Aq5 {lists:List (List Ag)} (h:UB lists=0):lists.length≤6∧(∀ l∈lists,l.length≤60)∧∀ l∈lists,∀ r∈l,Bm r=true:=by
 unfold UB at h
 split at h
 · omega
 · rename_i h6
   cases ha:lists.all (fun l=>decide (l.length≤60)) with
   | false=>rw [ha] at h; simp at h
   | true =>
    rw [ha,Zab] at h
    cases hb:lists.all (fun l=>l.all Bm) with
    | false=>rw [hb] at h; simp at h
    | true=>exact⟨by omega,fun l hl=>by simpa using ZaD.1 ha l hl,fun l hl=>ZaD.1 (ZaD.1 hb l hl)⟩
theorem Aq6 {n:Nat} {lists:List (List Ag)} (hk:∀ l∈lists,∀ r∈l,Xu r) (hl:lists.length≤1000) (hl2:∀ l∈lists,l.length≤1000) (h:1001+lists.length<n):Ni n lists=some (match SW lists with | .inl e=>([],(e,())) | .inr s=>(s,(0,()))):=by
 unfold Ni SW
 rw [Aoc hk hl hl2 h,Zaa]
 simp only
 by_cases hc:UB lists=0
 · rw [hc,show((0:Int) != 0)=false from rfl,Zad,if_neg (by simp)]
   obtain⟨h6,h60,hR⟩:=Aq5 hc
   have hs:Y8 lists≤360:=by
    have H:∀ (r:List (List Ag)),(∀ l∈r,l.length≤60)→Y8 r≤r.length*60:=by
     intro r
     induction r with
     | nil=>intro _; simp [Y8]
     | cons l r ih =>
      intro h
      have h1:=ih fun x hx=>h x (by simp [hx])
      have h2:=h l (by simp)
      simp only [Y8,Za6]
      omega
    have:=H lists h60
    omega
   have hfl:=AlV lists
   rw [Aq4 hl hl2 (by omega),Zaa]
   simp only
   have h1:=Aa1 lists.flatten (by omega) n 0 [] [] (by omega) (by omega) (by simp)
   rw [show((0:Nat):Int)=0 from rfl,Zar] at h1
   cases hm:Aix [] [] lists.flatten with
   | none =>
    rw [hm] at h1
    obtain⟨m',e⟩:=h1
    rw [e]; rfl
   | some o =>
    rw [hm] at h1
    obtain⟨m',e⟩:=h1
    have hol:o.length≤360:=by
     have:=Ak2 _ _ _ _ hm
     rw [Zbp,Zas] at this
     omega
    have hod:=AfR _ _ _ _ hm (by simp) rfl
    have hos:=Ak1 _ _ _ _ hm
    have hor:∀ a∈o,Bm a=true:=fun a ha=>by
     rcases hos a ha with h' | h'
     · simp at h'
     · obtain⟨l,hl1,hl2⟩:=List.mem_flatten.1 h'
       exact hR l hl1 a hl2
    have hsl:(KG Aca o).length=o.length:=Vk _ _
    have h2:=Aa2 (KG Aca o) (by omega) n 0 (by omega) (by omega)
    rw [show((0:Nat):Int)=0 from rfl,Zar] at h2
    rw [e]
    simp only [Zaa,Za3]
    rw [AuC (by omega) hor hod]
    simp only [Zaa]
    rw [h2]
    cases Y9 (KG Aca o) <;> rfl
 · rw [show(UB lists != 0)=true by simpa using hc,Zab,if_pos hc]
def NB (lists:List (List Ag)):Int:=match SW lists with
 | .inl e=>e
 | .inr s=>if 60<s.length then 3 else 0
theorem Asv {n:Nat} {lists:List (List Ag)} (hk:∀ l∈lists,∀ r∈l,Xu r) (hl:lists.length≤1000) (hl2:∀ l∈lists,l.length≤1000) (h:1001+lists.length<n):∃ x,O1 n lists=some (x,(NB lists,())):=by
 unfold O1 NB
 rw [Aq6 hk hl hl2 h,Zaa]
 cases hm:SW lists with
 | inl e =>
  have:=AlW hm
  simp only
  rw [show(e != 0)=true by simp; omega]
  exact⟨_,rfl⟩
 | inr s =>
  simp only
  rw [show((0:Int) != 0)=false from rfl,Zad]
  by_cases h60:60<s.length
  · rw [show decide ((s.length:Int)>60)=true from Zaf (by omega),if_pos h60]; exact⟨_,rfl⟩
  · rw [show decide ((s.length:Int)>60)=false from Zae (by omega),if_neg h60]; exact⟨_,rfl⟩
def wkOk (w:Ax):Prop:=w.days=7∧w.rest=600∧w.run=5∧w.hours=3000∧w.duties.length≤13∧w.drivers.length≤7∧∀ d∈w.drivers,∃ k off,d=AT.mk [k] [] [] off 0 0
def KN (d:AO):Bool:=Cp d.day 0 6 && (Cp d.on 0 1439 && (decide (d.on≤d.off.lo) && (decide (d.off.lo≤d.off.hi) && (decide (d.off.hi≤d.on+1440) && Cp d.route 0 15))))
def YA (d:AT):Bool:=(d.knows.all fun k=>Cp k 0 15) && Cp d.off (-10080) 1440
theorem AuD (n:Nat) (w:Ax) (d:AO) (hw:w.days=7):EB n w d=some (KN d,()):=by
 unfold EB KN Cp
 rw [hw,show IntKind.i64.wrap (7-1)=6 from rfl]
 cases decide (0≤d.day) with
 | false=>rfl
 | true =>
 cases decide (d.day≤6) with
 | false=>rfl
 | true =>
 by_cases h0:0≤d.on
 · by_cases h1:d.on≤1439
   · rw [Zaf h0,Zaf h1,Bv (x:=d.on+1440) (by omega) (by omega)]
     cases decide (d.on≤d.off.lo) <;> cases decide (d.off.lo≤d.off.hi) <;> cases decide (d.off.hi≤d.on+1440) <;> cases decide (0≤d.route) <;> simp
   · rw [Zaf h0,Zae h1]; rfl
 · rw [Zae h0]; rfl
theorem Aq7 (n:Nat) (k lo hi:Int):Hs (n+2) [k] lo hi=some (Cp k lo hi,()):=by
 show((bif decide (lo≤k) then(bif !!decide (k≤hi) then _ else some (.inr (false,()))) else some (.inr (false,()))):Option (Unit ⊕ ((Bool×Unit)))).bind _=_
 unfold Cp
 cases decide (lo≤k) <;> cases decide (k≤hi) <;> rfl
theorem Aq8 (n:Nat) (lo hi:Int):Hs (n+1) [] lo hi=some (true,()):=rfl
theorem Aq9 (n:Nat) (w:Ax) (d:AT) (hw:w.days=7) (hh:w.hours=3000) (hd:∃ k off,d=AT.mk [k] [] [] off 0 0):Db (n+2) w d=some (YA d,()):=by
 obtain⟨k,off,rfl⟩:=hd
 unfold Db YA
 rw [hw,hh,Aq7]
 simp only [Zaa,Aq8]
 simp only [ZaU,List.all_nil,Bool.and_true]
 unfold Cp
 cases (decide (0≤k) && decide (k≤15)) <;> cases decide (-10080≤off) <;> cases decide (off≤1440) <;> rfl
def Ba (w:Ax):Int:=if 12<w.duties.length then 3 else if 6<w.drivers.length then 3 else bif w.duties.all KN then(bif w.drivers.all YA then 0 else 1) else 1
theorem Aod {n:Nat} {w:Ax} (hw:wkOk w) (h:20<n) :
  (w.duties.all KN=true→Bd n w.duties w (w.duties.length:Int) 0=some (.inl ((((w,()),()),()),())))∧(w.duties.all KN=false→∃ k:Nat,Bd n w.duties w (w.duties.length:Int) 0=some (.inr ((((w,()),()),()),((k:Int),())))) :=
 Gt (F:=fun n i=>Bd n w.duties w (w.duties.length:Int) i) (G:=fun n i v0=>(EB n w v0).bind fun v1=>bif !v1.fst then(some (.inr ((((w,()),()),()),(i,())))) else Bd n w.duties w (w.duties.length:Int) (IntKind.i64.wrap (i+1))) w.duties KN ((((w,()),()),()),()) (fun i=>((((w,()),()),()),(i,()))) 0 (by have:=hw.2.2.2.2.1; omega) (fun _ _=>rfl) (fun n i hi _=>by
  rw [AuD n w _ hw.1]
  cases KN w.duties[i] <;> rfl) (n:=n) (by have:=hw.2.2.2.2.1; omega)
theorem Aoe {n:Nat} {w:Ax} (hw:wkOk w) (h:20<n) :
  (w.drivers.all YA=true→Be n w.drivers w (w.drivers.length:Int) 0=some (.inl ((((w,()),()),()),())))∧(w.drivers.all YA=false→∃ k:Nat,Be n w.drivers w (w.drivers.length:Int) 0=some (.inr ((((w,()),()),()),((k:Int),())))) :=
 Gt (F:=fun n i=>Be n w.drivers w (w.drivers.length:Int) i) (G:=fun n i v0=>(Db n w v0).bind fun v1=>bif !v1.fst then(some (.inr ((((w,()),()),()),(i,())))) else Be n w.drivers w (w.drivers.length:Int) (IntKind.i64.wrap (i+1))) w.drivers YA ((((w,()),()),()),()) (fun i=>((((w,()),()),()),(i,()))) 2 (by have:=hw.2.2.2.2.2.1; omega) (fun _ _=>rfl) (fun n i hi hn=>by
  obtain⟨m,rfl⟩:∃ m,n=m+2:=⟨n-2,by omega⟩
  rw [Aq9 m w _ hw.1 hw.2.2.2.1 (hw.2.2.2.2.2.2 _ (Za1 hi))]
  cases YA w.drivers[i] <;> rfl) (n:=n) (by have:=hw.2.2.2.2.2.1; omega)
theorem SX {n:Nat} {w:Ax} (hw:wkOk w) (h:20<n):CM n w=some (Ba w,()):=by
 unfold CM Ba
 have hw':=hw
 obtain⟨h1,h2,h3,h4,_⟩:=hw'
 rw [h1,h2,h3,h4]
 by_cases h12:12<w.duties.length
 · rw [show decide ((w.duties.length:Int)>12)=true from Zaf (by omega),if_pos h12]; rfl
 · rw [show decide ((w.duties.length:Int)>12)=false from Zae (by omega),if_neg h12]
   by_cases h6:6<w.drivers.length
   · rw [show decide ((w.drivers.length:Int)>6)=true from Zaf (by omega),if_pos h6]; rfl
   · rw [show decide ((w.drivers.length:Int)>6)=false from Zae (by omega),if_neg h6]
     obtain⟨a1,a2⟩:=Aod hw h
     obtain⟨b1,b2⟩:=Aoe hw h
     show(Bd n w.duties w (w.duties.length:Int) 0).bind _=_
     cases ha:w.duties.all KN with
     | false =>
      obtain⟨k,hk⟩:=a2 ha
      rw [hk]
      simp only [Zaa,Sum.elim_inr]
      rw [show decide ((k:Int)≥0)=true by simp]
      rfl
     | true =>
      rw [a1 ha]
      simp only [Zaa,Za3]
      cases hb:w.drivers.all YA with
      | false =>
       obtain⟨k,hk⟩:=b2 hb
       rw [hk]
       simp only [Zaa,Sum.elim_inr]
       rw [show decide ((k:Int)≥0)=true by simp]
       rfl
      | true=>rw [b1 hb]; rfl
abbrev AeC (x:Int):Int:=IntKind.i64.wrap x
def Om:Az:=Az.mk 0 0 0 0
def Mr (s:Az) (d:AO) (e:Int):Az :=
 bif decide (s.day=d.day) then Az.mk s.free s.row (AeC (s.used+AeC (e-d.on))) s.day else
 bif s.day != AeC (d.day-1) then Az.mk (AeC (AeC (d.day*1440)+e)) (AeC (0+1)) (AeC (s.used+AeC (e-d.on))) d.day else
 Az.mk (AeC (AeC (d.day*1440)+e)) (AeC (s.row+1)) (AeC (s.used+AeC (e-d.on))) d.day
theorem ApE (n:Nat) (s:Az) (d:AO) (e:Int):DK n s d e=some (Mr s d e,()):=by
 unfold DK Mr
 cases decide (s.day=d.day)
 · cases s.day != IntKind.i64.wrap (d.day-1) <;> rfl
 · rfl
def Ij (w:Ax) (k:Int) (d:AO) (s:Az):Nat→Bool
 | 0=>match A3 w.drivers k with
  | some v=>v.knows.any fun x=>decide (d.route=x)
  | none=>true
 | 1=>true
 | 2=>s.day != d.day
 | 3=>bif !decide (s.day=d.day) then decide (AeC (AeC (AeC (d.day*1440)+d.on)-s.free)≥w.rest) else true
 | _=>bif !decide (s.day=d.day) then decide ((Mr s d d.on).row≤w.run) else true
theorem Asw {n:Nat} {w:Ax} {k:Int} {d:AO} {s:Az} {v:AT} (hv:A3 w.drivers k=some v) (hk:∃ x off,v=AT.mk [x] [] [] off 0 0):DJ (n+2) w k d s=some (Ij w k d s 0,()):=by
 obtain⟨x,off,rfl⟩:=hk
 unfold DJ Ij
 rw [hv]
 show((bif decide (d.route=x) then some (.inr (0,())) else some (.inl ()):Option (Unit ⊕ (Int×Unit))).bind _)=_
 simp only [Zb1,List.any_nil,Bool.or_false]
 cases decide (d.route=x) <;> rfl
theorem AuE {n:Nat} {w:Ax} {k:Int} {d:AO} {s:Az} {v:AT} (hv:A3 w.drivers k=some v) (hk:∃ x off,v=AT.mk [x] [] [] off 0 0):ED (n+1) w k d s=some (Ij w k d s 1,()):=by
 obtain⟨x,off,rfl⟩:=hk
 unfold ED Ij
 rw [hv]; rfl
theorem AqA {n:Nat} {w:Ax} {k:Int} {d:AO} {s:Az}:FL n w k d s=some (Ij w k d s 2,()):=rfl
theorem AqB {n:Nat} {w:Ax} {k:Int} {d:AO} {s:Az}:Dc n w k d s=some (Ij w k d s 3,()):=by
 unfold Dc
 show _=some ((bif !decide (s.day=d.day) then decide (AeC (AeC (AeC (d.day*1440)+d.on)-s.free)≥w.rest) else true),())
 cases decide (s.day=d.day) <;> rfl
theorem Asx {n:Nat} {w:Ax} {k:Int} {d:AO} {s:Az}:DL n w k d s=some (Ij w k d s 4,()):=by
 unfold DL
 show _=some ((bif !decide (s.day=d.day) then decide ((Mr s d d.on).row≤w.run) else true),())
 rw [ApE]
 cases decide (s.day=d.day) <;> rfl
def AfA (w:Ax) (k i:Int) (d:AO) (s:Az) (j:Nat):List Aw:=bif Ij w k d s j then [] else [Aw.mk (IK.mk (j:Int)) k i]
def Rn (w:Ax) (k i:Int) (d:AO) (s:Az):List Aw:=AfA w k i d s 0++(AfA w k i d s 1++(AfA w k i d s 2++(AfA w k i d s 3++AfA w k i d s 4)))
abbrev Ai9:List AY:=[AY.mk (IK.mk 0) (Fp.mk (↑238:Int)),AY.mk (IK.mk 1) (Fp.mk (↑239:Int)),AY.mk (IK.mk 2) (Fp.mk (↑240:Int)),AY.mk (IK.mk 3) (Fp.mk (↑241:Int)),AY.mk (IK.mk 4) (Fp.mk (↑242:Int))]
section
variable {w:Ax} {truth:List Int} {now:List Az} {i k:Int} {d:AO} {s:Az} {v:AT}
theorem AwQ {n:Nat} {out:List Aw} (h6:now.length.beq 6=true) (hn:A3 now k=some s) (hg:now.get?Internal k.toNat=some s) (hv:A3 w.drivers k=some v) (hk:∃ x off,v=AT.mk [x] [] [] off 0 0) (ho:out.length≤1000) :
  Ah (n+3) w truth out now i d k Ai9 5 0=Ah (n+2) w truth (out++AfA w k i d s 0) now i d k Ai9 5 1:=by
 rw [Ah]
 show(bif now.length.beq 6 then((A3 now k).bind fun v2=>(now.get?Internal k.toNat).bind fun v3=>((DJ (n+2) w k d v3).bind fun v4=>bif !v4.fst then((app out [Aw.mk (IK.mk 0) k i]).bind fun v5=>Ah (n+2) w truth v5 now i d k Ai9 5 1) else Ah (n+2) w truth out now i d k Ai9 5 1)) else none)=_
 rw [h6,Zab,hn,Zaa,hg,Zaa,Asw hv hk,Zaa,AH (by simp; omega)]
 unfold AfA
 cases Ij w k d s 0 <;> simp
theorem AwR {n:Nat} {out:List Aw} (h6:now.length.beq 6=true) (hn:A3 now k=some s) (hg:now.get?Internal k.toNat=some s) (hv:A3 w.drivers k=some v) (hk:∃ x off,v=AT.mk [x] [] [] off 0 0) (ho:out.length≤1000) :
  Ah (n+3) w truth out now i d k Ai9 5 1=Ah (n+2) w truth (out++AfA w k i d s 1) now i d k Ai9 5 2:=by
 rw [Ah]
 show(bif now.length.beq 6 then((A3 now k).bind fun v2=>(now.get?Internal k.toNat).bind fun v3=>((ED (n+2) w k d v3).bind fun v4=>bif !v4.fst then((app out [Aw.mk (IK.mk 1) k i]).bind fun v5=>Ah (n+2) w truth v5 now i d k Ai9 5 2) else Ah (n+2) w truth out now i d k Ai9 5 2)) else none)=_
 rw [h6,Zab,hn,Zaa,hg,Zaa,AuE hv hk,Zaa,AH (by simp; omega)]
 unfold AfA
 cases Ij w k d s 1 <;> simp
theorem AwS {n:Nat} {out:List Aw} (h6:now.length.beq 6=true) (hn:A3 now k=some s) (hg:now.get?Internal k.toNat=some s) (hv:A3 w.drivers k=some v) (hk:∃ x off,v=AT.mk [x] [] [] off 0 0) (ho:out.length≤1000) :
  Ah (n+3) w truth out now i d k Ai9 5 2=Ah (n+2) w truth (out++AfA w k i d s 2) now i d k Ai9 5 3:=by
 rw [Ah]
 show(bif now.length.beq 6 then((A3 now k).bind fun v2=>(now.get?Internal k.toNat).bind fun v3=>((FL (n+2) w k d v3).bind fun v4=>bif !v4.fst then((app out [Aw.mk (IK.mk 2) k i]).bind fun v5=>Ah (n+2) w truth v5 now i d k Ai9 5 3) else Ah (n+2) w truth out now i d k Ai9 5 3)) else none)=_
 rw [h6,Zab,hn,Zaa,hg,Zaa,AqA,Zaa,AH (by simp; omega)]
 unfold AfA
 cases Ij w k d s 2 <;> simp
theorem AwT {n:Nat} {out:List Aw} (h6:now.length.beq 6=true) (hn:A3 now k=some s) (hg:now.get?Internal k.toNat=some s) (hv:A3 w.drivers k=some v) (hk:∃ x off,v=AT.mk [x] [] [] off 0 0) (ho:out.length≤1000) :
  Ah (n+3) w truth out now i d k Ai9 5 3=Ah (n+2) w truth (out++AfA w k i d s 3) now i d k Ai9 5 4:=by
 rw [Ah]
 show(bif now.length.beq 6 then((A3 now k).bind fun v2=>(now.get?Internal k.toNat).bind fun v3=>((Dc (n+2) w k d v3).bind fun v4=>bif !v4.fst then((app out [Aw.mk (IK.mk 3) k i]).bind fun v5=>Ah (n+2) w truth v5 now i d k Ai9 5 4) else Ah (n+2) w truth out now i d k Ai9 5 4)) else none)=_
 rw [h6,Zab,hn,Zaa,hg,Zaa,AqB,Zaa,AH (by simp; omega)]
 unfold AfA
 cases Ij w k d s 3 <;> simp
theorem AwU {n:Nat} {out:List Aw} (h6:now.length.beq 6=true) (hn:A3 now k=some s) (hg:now.get?Internal k.toNat=some s) (hv:A3 w.drivers k=some v) (hk:∃ x off,v=AT.mk [x] [] [] off 0 0) (ho:out.length≤1000) :
  Ah (n+3) w truth out now i d k Ai9 5 4=Ah (n+2) w truth (out++AfA w k i d s 4) now i d k Ai9 5 5:=by
 rw [Ah]
 show(bif now.length.beq 6 then((A3 now k).bind fun v2=>(now.get?Internal k.toNat).bind fun v3=>((DL (n+2) w k d v3).bind fun v4=>bif !v4.fst then((app out [Aw.mk (IK.mk 4) k i]).bind fun v5=>Ah (n+2) w truth v5 now i d k Ai9 5 5) else Ah (n+2) w truth out now i d k Ai9 5 5)) else none)=_
 rw [h6,Zab,hn,Zaa,hg,Zaa,Asx,Zaa,AH (by simp; omega)]
 unfold AfA
 cases Ij w k d s 4 <;> simp
theorem ApF (j:Nat):(AfA w k i d s j).length≤1:=by
 unfold AfA
 cases Ij w k d s j <;> simp
theorem AwV {n:Nat} {out:List Aw} (h6:now.length.beq 6=true) (hn:A3 now k=some s) (hg:now.get?Internal k.toNat=some s) (hv:A3 w.drivers k=some v) (hk:∃ x off,v=AT.mk [x] [] [] off 0 0) (ho:out.length≤900) :
  Ah (n+10) w truth out now i d k Ai9 5 0=some (w,((truth,()),((out++Rn w k i d s,()),(now,(d,((),((),(i,((),(k,())))))))))):=by
 have b:=fun j=>ApF (w:=w) (i:=i) (k:=k) (d:=d) (s:=s) j
 have b0:=b 0; have b1:=b 1; have b2:=b 2; have b3:=b 3
 rw [show n+10=(n+7)+3 by omega,AwQ h6 hn hg hv hk (by omega),show n+7+2=(n+6)+3 by omega,AwR h6 hn hg hv hk (by simp; omega),show n+6+2=(n+5)+3 by omega,AwS h6 hn hg hv hk (by simp; omega),show n+5+2=(n+4)+3 by omega,AwT h6 hn hg hv hk (by simp; omega),show n+4+2=(n+3)+3 by omega,AwU h6 hn hg hv hk (by simp; omega)]
 rw [Ah]
 simp only [Rn,Za8]
 rfl
end
def D9 (w:Ax) (roster:List Int) (day:Int) (st:List Aw×List Az) (i:Nat) (d:AO):List Aw×List Az :=
 bif decide (d.day=day) then(bif decide (roster.getD i (-1)=-1) then st else
  (st.1++Rn w (roster.getD i (-1)) (i:Int) d (st.2.getD (roster.getD i (-1)).toNat Om),st.2.set (roster.getD i (-1)).toNat (Mr (st.2.getD (roster.getD i (-1)).toNat Om) d d.off.hi))) else st
def D4 (w:Ax) (roster:List Int) (day:Int):Nat→List Aw×List Az→List AO→List Aw×List Az
 | _,st,[]=>st
 | i,st,d::r=>D4 w roster day (i+1) (D9 w roster day st i d) r
def E2 (w:Ax) (roster:List Int):Prop:=roster.length=w.duties.length∧∀ x∈roster,-1≤x∧x<(w.drivers.length:Int)
theorem AlX (w:Ax) (k i:Int) (d:AO) (s:Az):(Rn w k i d s).length≤5:=by
 have b:=fun j=>ApF (w:=w) (i:=i) (k:=k) (d:=d) (s:=s) j
 have b0:=b 0; have b1:=b 1; have b2:=b 2; have b3:=b 3; have b4:=b 4
 simp only [Rn,Zat]
 omega
theorem AvJ {w:Ax} {roster truth:List Int} (hw:wkOk w) (h6d:w.drivers.length≤6) (hro:E2 w roster) (htr:truth=w.duties.map fun d=>d.off.hi) (day:Int):∀ (n i:Nat)(st:List Aw×List Az),100+(w.duties.length-i)<n→i≤w.duties.length→st.1.length≤500+i*5→st.2.length=6 →
  Bh n w roster truth st.1 st.2 day w.duties (w.duties.length:Int) (i:Int)=some (.inl ((w,((roster,()),((truth,()),(((D4 w roster day i st (w.duties.drop i)).1,()),((D4 w roster day i st (w.duties.drop i)).2,()))))),((),((),((),((),((),((day,()),()))))))))
 | 0,_,_,h,_,_,_=>absurd h (Zam _)
 | n+1,i,st,h,hi,ho,hs=>by
  have hwl:=hw.2.2.2.2.1
  rw [Bh]
  by_cases hx:i<w.duties.length
  · have hd:w.duties.drop i=w.duties[i]::w.duties.drop (i+1):=Zaj hx
    have ih:=AvJ hw h6d hro htr day n (i+1)
    rw [show decide ((i:Int)<(w.duties.length:Int))=true by simp; omega,Zab,BS hx,Zaa,hd,wN i (by omega)]
    simp only [D4]
    generalize hst:D9 w roster day st i w.duties[i]=st'
    unfold D9 at hst
    cases hday:decide (w.duties[i].day=day) with
    | false =>
     rw [hday,Zad] at hst
     subst hst
     exact ih st (by omega) (by omega) (by omega) hs
    | true =>
     rw [hday,Zab] at hst
     have hxr:i<roster.length:=by rw [hro.1]; exact hx
     have hrg:roster.getD i (-1)=roster[i]:=by simp [List.getD,Zan hxr]
     rw [Zab,BS hxr,Zaa]
     rw [hrg] at hst
     have hb:=hro.2 _ (Za1 hxr)
     generalize hk:roster[i]=k at *
     by_cases h1:k=-1
     · rw [Zaf h1] at hst ⊢
       simp only [Zab] at hst ⊢
       subst hst
       exact ih st (by omega) (by omega) (by omega) hs
     · rw [Zae h1] at hst ⊢
       simp only [Zad] at hst ⊢
       obtain⟨j,rfl⟩:∃ j:Nat,k=j:=⟨k.toNat,by omega⟩
       have hj:j<w.drivers.length:=by omega
       have hj6:j<st.2.length:=by omega
       have hg:st.2.getD ((j:Int)).toNat Om=st.2[j]:=by simp [List.getD,Zan hj6]
       rw [hg] at hst
       have h6:st.2.length.beq 6=true:=by rw [hs]; rfl
       obtain⟨m,rfl⟩:∃ m,n=m+10:=⟨n-10,by omega⟩
       have hl2:=AwV (n:=m) (w:=w) (truth:=truth) (now:=st.2) (i:=(i:Int)) (k:=(j:Int)) (d:=w.duties[i]) (s:=st.2[j]) (v:=w.drivers[j]) (out:=st.1) h6 (BS hj6) (Aku hj6) (BS hj) (hw.2.2.2.2.2.2 _ (Za1 hj)) (by omega)
       have hl5:(([AY.mk (IK.mk 0) (Fp.mk (↑238:Int)),AY.mk (IK.mk 1) (Fp.mk (↑239:Int)),AY.mk (IK.mk 2) (Fp.mk (↑240:Int)),AY.mk (IK.mk 3) (Fp.mk (↑241:Int)),AY.mk (IK.mk 4) (Fp.mk (↑242:Int))]:List AY).length:Int)=5:=rfl
       rw [hl5,hl2]
       simp only [Zaa]
       have htl:i<truth.length:=by rw [htr,ZaH]; exact hx
       have hti:truth[i]=w.duties[i].off.hi:=by subst htr; simp
       rw [h6,Zab,BS hj6,Zaa,show((j:Nat):Int).toNat=j from rfl,Aku hj6,Zaa,BS htl,Zaa,ApE,Zaa,Zab,Zaa,Zaa,hti]
       rw [show((j:Nat):Int).toNat=j from rfl] at hst
       have hbl:=AlX w (j:Int) (i:Int) w.duties[i] st.2[j]
       rw [← hst]
       have:=ih (st.1++Rn w (j:Int) (i:Int) w.duties[i] st.2[j],st.2.set j (Mr st.2[j] w.duties[i] w.duties[i].off.hi)) (by omega) (by omega) (by simp; omega) (by simp [hs])
       exact this
  · have hd:w.duties.drop i=[]:=by simp; omega
    rw [show decide ((i:Int)<(w.duties.length:Int))=false by simp; omega,hd]
    rfl
theorem AqC (w:Ax) (roster:List Int) (day:Int) (st:List Aw×List Az) (i:Nat) (d:AO):(D9 w roster day st i d).1.length≤st.1.length+5∧(D9 w roster day st i d).2.length=st.2.length:=by
 unfold D9
 have:=AlX w (roster.getD i (-1)) (i:Int) d (st.2.getD (roster.getD i (-1)).toNat Om)
 cases decide (d.day=day)
 · exact⟨by simp,rfl⟩
 · cases decide (roster.getD i (-1)=-1)
   · exact⟨by simp only [Zab,Zad,Zat]; omega,by simp⟩
   · exact⟨by simp,rfl⟩
theorem AfS (w:Ax) (roster:List Int) (day:Int):∀ (l:List AO)(i:Nat)(st:List Aw×List Az),(D4 w roster day i st l).1.length≤st.1.length+5*l.length∧(D4 w roster day i st l).2.length=st.2.length
 | [],_,st=>⟨by simp [D4],rfl⟩
 | d::l,i,st=>by
  obtain⟨h1,h2⟩:=AfS w roster day l (i+1) (D9 w roster day st i d)
  obtain⟨h3,h4⟩:=AqC w roster day st i d
  simp only [D4,Za6]
  exact⟨by omega,by rw [h2,h4]⟩
def CV (w:Ax) (roster:List Int):Nat→Nat→List Aw×List Az→List Aw×List Az
 | 0,_,st=>st
 | k+1,day,st=>CV w roster k (day+1) (D4 w roster (day:Int) 0 st w.duties)
theorem AvK {w:Ax} {roster truth:List Int} (hw:wkOk w) (h6d:w.drivers.length≤6) (hro:E2 w roster) (htr:truth=w.duties.map fun d=>d.off.hi):∀ (k day n:Nat)(st:List Aw×List Az),day+k=7→200+k<n→st.1.length≤day*65→st.2.length=6 →
  Bi n w roster truth st.1 st.2 7 (day:Int)=some (w,((roster,()),((truth,()),(((CV w roster k day st).1,()),((CV w roster k day st).2,((),((),((),()))))))))
 | _,_,0,_,_,h,_,_=>absurd h (Zam _)
 | 0,day,n+1,st,hd,h,ho,hs=>by
  rw [Bi,show decide ((day:Int)<7)=false from Zae (by omega)]
  rfl
 | k+1,day,n+1,st,hd,h,ho,hs=>by
  have hwl:=hw.2.2.2.2.1
  have h4:=AvJ hw h6d hro htr (day:Int) n 0 st (by omega) (by omega) (by omega) hs
  rw [show((0:Nat):Int)=0 from rfl,Zar] at h4
  obtain⟨a1,a2⟩:=AfS w roster (day:Int) w.duties 0 st
  rw [Bi,show decide ((day:Int)<7)=true from Zaf (by omega),Zab,h4,wN day (by omega)]
  simp only [Zaa,Za3]
  have:=AvK hw h6d hro htr k (day+1) n (D4 w roster (day:Int) 0 st w.duties) (by omega) (by omega) (by omega) (by omega)
  exact this
def KO (w:Ax) (now:List Az):Nat→Nat→List Aw
 | 0,_=>[]
 | k+1,i=>(bif decide ((now.getD i Om).used>w.hours) then [Aw.mk (IK.mk 5) (i:Int) 0] else [])++KO w now k (i+1)
theorem Asy {w:Ax} {now:List Az} (h6d:w.drivers.length≤6) (hs:now.length=6):∀ (k i n:Nat)(out:List Aw),i+k=w.drivers.length→k<n→out.length≤900+i→Bj n w out now (w.drivers.length:Int) (i:Int)=some (w,((out++KO w now k i,()),(now,((),()))))
 | _,_,0,_,_,h,_=>absurd h (Zam _)
 | 0,i,n+1,out,hk,h,ho=>by
  rw [Bj,show decide ((i:Int)<(w.drivers.length:Int))=false from Zae (by omega)]
  simp [KO]
 | k+1,i,n+1,out,hk,h,ho=>by
  have hi:i<now.length:=by omega
  have h6:now.length.beq 6=true:=by rw [hs]; rfl
  have hg:now.getD i Om=now[i]:=by simp [List.getD,Zan hi]
  rw [Bj,show decide ((i:Int)<(w.drivers.length:Int))=true from Zaf (by omega),Zab,h6,Zab,BS hi,Zaa,show((i:Nat):Int).toNat=i from rfl,Aku hi,Zaa,wN i (by omega),AH (by simp; omega)]
  simp only [KO,hg,Zaa]
  cases decide (now[i].used>w.hours) with
  | true =>
   have:=Asy h6d hs k (i+1) n (out++[Aw.mk (IK.mk 5) (i:Int) 0]) (by omega) (by omega) (by simp; omega)
   simpa using this
  | false =>
   have:=Asy h6d hs k (i+1) n out (by omega) (by omega) (by omega)
   simpa using this
def AS (w:Ax):List Az:=(w.drivers.map fun d=>Az.mk d.off d.row d.used (-1))++List.replicate (6-w.drivers.length) Om
theorem AdK (full:List AT) (h6:full.length≤6):∀ (n i:Nat),full.length-i<n→i≤full.length→Cb n ((full.take i).map (fun d=>Az.mk d.off d.row d.used (-1))++List.replicate (6-i) Om) full (full.length:Int) (i:Int)=some ((full.map fun d=>Az.mk d.off d.row d.used (-1))++List.replicate (6-full.length) Om,((),()))
 | 0,_,h,_=>absurd h (Zam _)
 | n+1,i,h,hi=>by
  have hlen:((full.take i).map (fun d=>Az.mk d.off d.row d.used (-1))++List.replicate (6-i) Om).length=6:=by
   rw [Zat,ZaH,ZaE,List.length_replicate]; omega
  rw [Cb]
  by_cases hx:i<full.length
  · rw [show decide ((i:Int)<(full.length:Int))=true by simp; omega,Zab,BS hx,Zaa,hlen,show Nat.beq 6 6=true from rfl,Zab,BS (by omega),Zaa,show((i:Nat):Int).toNat=i from rfl,Aku (by omega),Zaa,wN i (by omega)]
    have:((full.take i).map (fun d=>Az.mk d.off d.row d.used (-1))++List.replicate (6-i) Om).set i (Az.mk full[i].off full[i].row full[i].used (-1))=(full.take (i+1)).map (fun d=>Az.mk d.off d.row d.used (-1))++List.replicate (6-(i+1)) Om:=by
     rw [ZaK hx,List.map_append,Za8,List.set_append_right _ _ (by rw [ZaH,ZaE]; omega)]
     congr 1
     rw [ZaH,ZaE,Nat.min_eq_left hi,Nat.sub_self,show 6-i=(6-(i+1))+1 by omega,List.replicate_succ]
     rfl
    rw [this]
    exact AdK full h6 n (i+1) (by omega) (by omega)
  · have:i=full.length:=by omega
    subst this
    rw [show decide ((full.length:Int)<(full.length:Int))=false by simp,Zad,ZaL (Zap _)]
theorem AqD {n:Nat} {w:Ax} (h6:w.drivers.length≤6) (hn:10<n):FJ n w=some (AS w,()):=by
 unfold FJ
 have h:=AdK w.drivers h6 n 0 (by omega) (by omega)
 rw [show((0:Nat):Int)=0 from rfl] at h
 have e:([Az.mk 0 0 0 0,Az.mk 0 0 0 0,Az.mk 0 0 0 0,Az.mk 0 0 0 0,Az.mk 0 0 0 0,Az.mk 0 0 0 0]:List Az)=(w.drivers.take 0).map (fun d=>Az.mk d.off d.row d.used (-1))++List.replicate (6-0) Om:=rfl
 rw [e,h]
 have hl:((w.drivers.map fun d=>Az.mk d.off d.row d.used (-1))++List.replicate (6-w.drivers.length) Om).length=6:=by
  rw [Zat,ZaH,List.length_replicate]; omega
 simp only [Zaa,hl]
 rfl
theorem Q6 {w:Ax} (h6:w.drivers.length≤6):(AS w).length=6:=by
 unfold AS
 rw [Zat,ZaH,List.length_replicate]; omega
theorem Ajs (full:List AO) (hl:full.length≤1000):∀ (n i:Nat),full.length-i<n→i≤full.length→CC n ((full.take i).map fun d=>d.off.hi) full (full.length:Int) (i:Int)=some (full.map fun d=>d.off.hi,())
 | 0,_,h,_=>absurd h (Zam _)
 | n+1,i,h,hi=>by
  rw [CC]
  by_cases hx:i<full.length
  · rw [show decide ((i:Int)<(full.length:Int))=true by simp; omega,Zab,BS hx,Zaa,AH (by rw [ZaH,ZaE]; simp; omega),Zaa,wN i (by omega)]
    have:(full.take i).map (fun d=>d.off.hi)++[full[i].off.hi]=(full.take (i+1)).map fun d=>d.off.hi:=by
     rw [ZaK hx,List.map_append]; rfl
    rw [this]
    exact Ajs full hl n (i+1) (by omega) (by omega)
  · have:i=full.length:=by omega
    subst this
    rw [show decide ((full.length:Int)<(full.length:Int))=false by simp,Zad,ZaL (Zap _)]
theorem AuF {n:Nat} {w:Ax} (h:w.duties.length≤1000) (hn:w.duties.length<n):HK n w=some (w.duties.map fun d=>d.off.hi,()):=by
 unfold HK
 have h:=Ajs w.duties h n 0 (by omega) (by omega)
 rw [show((0:Nat):Int)=0 from rfl,List.take_zero,List.map_nil] at h
 rw [h]; rfl
def AiA (a b:Aw):Bool:=a.driver == b.driver && a.kind.n == b.kind.n && a.duty == b.duty
theorem E3 {α:Type} (eq:α→α→Bool):∀ (a b:List α),F0 eq a=true→F0 eq b=true→(∀ x∈a,∀ y∈b,eq x y=false)→F0 eq (a++b)=true
 | [],b,_,hb,_=>hb
 | x::a,b,ha,hb,h=>by
  unfold F0 at ha
  obtain⟨h1,h2⟩:=A9 ha
  rw [ZaZ]
  unfold F0
  rw [List.any_append,E3 eq a b h2 hb fun x' hx'=>h x' (by simp [hx'])]
  have:b.any (eq x)=false:=by
   rw [Zbz]
   intro y hy he
   rw [h x (by simp) y hy] at he; cases he
  rw [this,Bool.or_false,h1]; rfl
theorem Dj {w:Ax} {k i:Int} {d:AO} {s:Az} {j:Nat} {b:Aw} (h:b∈AfA w k i d s j):b=Aw.mk (IK.mk (j:Int)) k i:=by
 unfold AfA at h
 cases hr:Ij w k d s j with
 | true=>rw [hr] at h; cases h
 | false=>rw [hr] at h; simpa using h
theorem AlY {w:Ax} {k i:Int} {d:AO} {s:Az} {b:Aw} (h:b∈Rn w k i d s):∃ j:Nat,j≤4∧b=Aw.mk (IK.mk (j:Int)) k i:=by
 unfold Rn at h
 rcases Zal.1 h with h | h
 · exact⟨0,by omega,Dj h⟩
 rcases Zal.1 h with h | h
 · exact⟨1,by omega,Dj h⟩
 rcases Zal.1 h with h | h
 · exact⟨2,by omega,Dj h⟩
 rcases Zal.1 h with h | h
 · exact⟨3,by omega,Dj h⟩
 · exact⟨4,by omega,Dj h⟩
theorem Vm (w:Ax) (k i:Int) (d:AO) (s:Az) (j:Nat):F0 AiA (AfA w k i d s j)=true:=by
 unfold AfA
 cases Ij w k d s j <;> rfl
theorem AqE (w:Ax) (k i:Int) (d:AO) (s:Az):F0 AiA (Rn w k i d s)=true:=by
 have hne:∀ (a b:Nat),a≠b→AiA (Aw.mk (IK.mk (a:Int)) k i) (Aw.mk (IK.mk (b:Int)) k i)=false:=fun a b h=>by
  simp only [AiA,beq_self_eq_true,ZaJ,Bool.and_true,beq_eq_false_iff_ne,ne_eq]; omega
 unfold Rn
 refine E3 _ _ _ (Vm ..) (E3 _ _ _ (Vm ..) (E3 _ _ _ (Vm ..) (E3 _ _ _ (Vm ..) (Vm ..) ?_) ?_) ?_) ?_
 · intro x hx y hy
   rw [Dj hx,Dj hy]; exact hne 3 4 (by omega)
 · intro x hx y hy
   rw [Dj hx]
   rcases Zal.1 hy with hy | hy
   · rw [Dj hy]; exact hne 2 3 (by omega)
   · rw [Dj hy]; exact hne 2 4 (by omega)
 · intro x hx y hy
   rw [Dj hx]
   rcases Zal.1 hy with hy | hy
   · rw [Dj hy]; exact hne 1 2 (by omega)
   rcases Zal.1 hy with hy | hy
   · rw [Dj hy]; exact hne 1 3 (by omega)
   · rw [Dj hy]; exact hne 1 4 (by omega)
 · intro x hx y hy
   rw [Dj hx]
   rcases Zal.1 hy with hy | hy
   · rw [Dj hy]; exact hne 0 1 (by omega)
   rcases Zal.1 hy with hy | hy
   · rw [Dj hy]; exact hne 0 2 (by omega)
   rcases Zal.1 hy with hy | hy
   · rw [Dj hy]; exact hne 0 3 (by omega)
   · rw [Dj hy]; exact hne 0 4 (by omega)
def Aof (w:Ax) (day:Int) (i:Nat) (out:List Aw):Prop:=F0 AiA out=true∧∀ b∈out,∃ (j:Nat)(hj:j<w.duties.length),b.duty=(j:Int)∧(w.duties[j].day<day∨(w.duties[j].day=day∧j<i))∧0≤b.kind.n∧b.kind.n≤4∧0≤b.driver∧b.driver≤10
theorem ApG {w:Ax} {roster:List Int} (h6d:w.drivers.length≤6) (hro:E2 w roster) (day:Int):∀ (l:List AO)(i:Nat)(st:List Aw×List Az),w.duties.drop i=l→Aof w day i st.1→Aof w day w.duties.length (D4 w roster day i st l).1
 | [],i,st,hd,h=>by
  refine⟨h.1,fun b hb=>?_⟩
  obtain⟨j,hj,e1,e2,e3⟩:=h.2 b hb
  exact⟨j,hj,e1,e2.imp id (fun h=>⟨h.1,hj⟩),e3⟩
 | d::l,i,st,hd,h=>by
  have hx:i<w.duties.length:=by
   rcases Za5 i w.duties.length with h' | h'
   · exact h'
   · rw [List.drop_eq_nil_of_le h'] at hd; cases hd
  have hd2:=Zaj hx
  rw [hd] at hd2
  obtain⟨e1,e2⟩:=List.cons.inj hd2
  simp only [D4]
  refine ApG h6d hro day l (i+1) _ e2.symm ?_
  have mono:∀ out,Aof w day i out→Aof w day (i+1) out:=fun out h=>⟨h.1,fun b hb=>by
   obtain⟨j,hj,e1,e2,e3⟩:=h.2 b hb
   exact⟨j,hj,e1,e2.imp id (fun h=>⟨h.1,by omega⟩),e3⟩⟩
  unfold D9
  by_cases hday:d.day=day
  · rw [Zaf hday,Zab]
    have hxr:i<roster.length:=by rw [hro.1]; exact hx
    have hrg:roster.getD i (-1)=roster[i]:=by simp [List.getD,Zan hxr]
    rw [hrg]
    have hb:=hro.2 _ (Za1 hxr)
    generalize roster[i]=k at *
    by_cases h1:k=-1
    · rw [Zaf h1,Zab]; exact mono _ h
    · rw [Zae h1,Zad]
      have m:=mono _ h
      refine⟨E3 _ _ _ h.1 (AqE ..) fun x hx' y hy=>?_,fun b hb'=>?_⟩
      · obtain⟨j,hj,q1,q2,_⟩:=h.2 x hx'
        obtain⟨j',_,q4⟩:=AlY hy
        have hne:x.duty≠y.duty:=by
         rw [q1,q4]
         intro hc
         have hc:(j:Int)=(i:Int):=hc
         have:j=i:=by omega
         subst this
         rcases q2 with q2 | q2
         · rw [← e1,hday] at q2; omega
         · omega
        simp [AiA,hne]
      · rcases Zal.1 hb' with hb' | hb'
        · exact m.2 b hb'
        · obtain⟨j',q3,q4⟩:=AlY hb'
          subst q4
          exact⟨i,hx,rfl,.inr ⟨by rw [← e1]; exact hday,by omega⟩,by simp,by show(j':Int)≤4; omega,by show 0≤k; omega,by show k≤10; omega⟩
  · rw [Zae hday,Zad]; exact mono _ h
theorem AlZ {w:Ax} {roster:List Int} (h6d:w.drivers.length≤6) (hro:E2 w roster):∀ (k day:Nat)(st:List Aw×List Az),Aof w (day:Int) 0 st.1→Aof w ((day+k:Nat):Int) 0 (CV w roster k day st).1
 | 0,day,st,h=>h
 | k+1,day,st,h=>by
  simp only [CV]
  have h1:=ApG h6d hro (day:Int) w.duties 0 st rfl h
  have h2:Aof w ((day+1:Nat):Int) 0 (D4 w roster (day:Int) 0 st w.duties).1:=⟨h1.1,fun b hb=>by
   obtain⟨j,hj,e1,e2,e3⟩:=h1.2 b hb
   exact⟨j,hj,e1,.inl (by rcases e2 with e2 | e2 <;> omega),e3⟩⟩
  have:=AlZ h6d hro k (day+1) _ h2
  rw [show day+1+k=day+(k+1) by omega] at this
  exact this
theorem SY {w:Ax} {now:List Az}:∀ (k i:Nat)(b:Aw),b∈KO w now k i→∃ j:Nat,i≤j∧j<i+k∧b=Aw.mk (IK.mk 5) (j:Int) 0
 | 0,_,b,h=>by cases h
 | k+1,i,b,h=>by
  simp only [KO] at h
  rcases Zal.1 h with h | h
  · cases hd:decide ((now.getD i Om).used>w.hours) with
    | false=>rw [hd] at h; cases h
    | true =>
     rw [hd] at h
     exact⟨i,by omega,by omega,by simpa using h⟩
  · obtain⟨j,h1,h2,h3⟩:=SY k (i+1) b h
    exact⟨j,by omega,by omega,h3⟩
theorem AdL (w:Ax) (now:List Az):∀ (k i:Nat),F0 AiA (KO w now k i)=true
 | 0,_=>rfl
 | k+1,i=>by
  simp only [KO]
  refine E3 _ _ _ ?_ (AdL w now k (i+1)) fun x hx y hy=>?_
  · cases decide ((now.getD i Om).used>w.hours) <;> rfl
  · obtain⟨j,h1,h2,h3⟩:=SY _ _ _ hy
    have hx':x=Aw.mk (IK.mk 5) (i:Int) 0:=by
     cases hd:decide ((now.getD i Om).used>w.hours) with
     | false=>rw [hd] at hx; cases hx
     | true=>rw [hd] at hx; simpa using hx
    rw [hx',h3]
    have:(i:Int)≠(j:Int):=by omega
    simp [AiA,this]
def Gu (w:Ax) (roster:List Int):List Aw:=(CV w roster 7 0 ([],AS w)).1++KO w (CV w roster 7 0 ([],AS w)).2 w.drivers.length 0
theorem Ajt {w:Ax} {roster:List Int}:∀ (k day:Nat)(st:List Aw×List Az),(CV w roster k day st).1.length≤st.1.length+k*(5*w.duties.length)∧(CV w roster k day st).2.length=st.2.length
 | 0,_,st=>⟨by simp [CV],rfl⟩
 | k+1,day,st=>by
  obtain⟨h1,h2⟩:=AfS w roster (day:Int) w.duties 0 st
  obtain⟨h3,h4⟩:=Ajt (w:=w) (roster:=roster) k (day+1) (D4 w roster (day:Int) 0 st w.duties)
  simp only [CV]
  rw [Nat.succ_mul]
  exact⟨by omega,by rw [h4,h2]⟩
theorem AfT (w:Ax) (now:List Az):∀ (k i:Nat),(KO w now k i).length≤k
 | 0,_=>by simp [KO]
 | k+1,i=>by
  have:=AfT w now k (i+1)
  simp only [KO,Zat]
  cases decide ((now.getD i Om).used>w.hours)
  · simp; omega
  · simp; omega
theorem Asz {out:List Aw} (hl:out.length≤1000000) (hs:∀ b∈out,0≤b.driver∧b.driver≤10∧0≤b.duty∧b.duty≤100∧0≤b.kind.n∧b.kind.n≤5) (hd:F0 AiA out=true):Akl out=some (KG AwD out):=by
 unfold Akl
 have h1:Nat.blt (BJ out) 4611686018427387904=true:=by rw [Aa3]; exact Za7 (by omega)
 have h2:out.all (fun a=>Alq a.driver && Alq a.duty && (decide (0≤a.kind.n) && decide (a.kind.n≤255)))=true:=by
  rw [ZaD]
  intro a ha
  have:=hs a ha
  simp [Alq]; omega
 have h3:F0 (fun a b:Aw=>a.driver == b.driver && a.kind.n == b.kind.n && a.duty == b.duty) out=true:=hd
 rw [h1,h2,h3]; rfl
theorem AqF {n:Nat} {w:Ax} {roster:List Int} (hw:wkOk w) (h6d:w.drivers.length≤6) (hro:E2 w roster) (hn:300<n):FM n w roster (w.duties.map fun d=>d.off.hi)=some (KG AwD (Gu w roster),()):=by
 unfold FM
 have hsl:=Q6 h6d
 have hwl:=hw.2.2.2.2.1
 rw [AqD h6d (by omega)]
 simp only [Zaa,hsl,hw.1]
 rw [show(([Az.mk 0 0 0 0,Az.mk 0 0 0 0,Az.mk 0 0 0 0,Az.mk 0 0 0 0,Az.mk 0 0 0 0,Az.mk 0 0 0 0]:List Az).length.beq 6 && Nat.beq 6 6)=true from rfl,Zab]
 have h1:=AvK hw h6d hro rfl 7 0 n ([],AS w) (by omega) (by omega) (by simp) hsl
 rw [show((0:Nat):Int)=0 from rfl] at h1
 rw [h1]
 simp only [Zaa]
 obtain⟨d1,d2⟩:=Ajt (w:=w) (roster:=roster) 7 0 ([],AS w)
 simp only [Zbp,Zas] at d1
 have h3:=Asy (w:=w) (now:=(CV w roster 7 0 ([],AS w)).2) h6d (by rw [d2]; exact hsl) w.drivers.length 0 n (CV w roster 7 0 ([],AS w)).1 (by omega) (by omega) (by omega)
 rw [show((0:Nat):Int)=0 from rfl] at h3
 rw [h3]
 simp only [Zaa]
 have ok:=AlZ h6d hro 7 0 ([],AS w) ⟨rfl,fun b hb=>by cases hb⟩
 have hh:=AfT w (CV w roster 7 0 ([],AS w)).2 w.drivers.length 0
 have:=Asz (out:=Gu w roster) (by unfold Gu; rw [Zat]; omega) (fun b hb=>by
  unfold Gu at hb
  rcases Zal.1 hb with hb | hb
  · obtain⟨j,hj,e1,_,e3,e4,e5,e6⟩:=ok.2 b hb
    omega
  · obtain⟨j,e1,e2,e3⟩:=SY _ _ _ hb
    subst e3
    simp only
    omega) (by
  unfold Gu
  refine E3 _ _ _ ok.1 (AdL ..) fun x hx y hy=>?_
  obtain⟨j,hj,e1,_,e3,e4,_⟩:=ok.2 x hx
  obtain⟨j',f1,f2,f3⟩:=SY _ _ _ hy
  subst f3
  have:x.kind.n≠5:=by omega
  simp [AiA,this])
 unfold Gu at this ⊢
 rw [this]; rfl
theorem As0 {n:Nat} {w:Ax} {roster:List Int} (hw:wkOk w) (h6d:w.drivers.length≤6) (hro:E2 w roster) (hn:300<n):GI n w roster=some (decide (Gu w roster=[]),()):=by
 unfold GI
 have hwl:=hw.2.2.2.2.1
 rw [AuF (by omega) (by omega),Zaa]
 simp only
 rw [AqF hw h6d hro hn,Zaa]
 simp only [Vk]
 congr 2
 cases h:Gu w roster with
 | nil=>rfl
 | cons a l=>simp; omega
def AqG (w:Ax) (roster:List Int):Bool:=decide (roster.length=w.duties.length) && roster.all fun x=>Cp x (-1) ((w.drivers.length:Int)-1)
theorem AfU {w:Ax} {roster:List Int}:AqG w roster=true↔E2 w roster:=by
 unfold AqG E2
 rw [Zaq,decide_eq_true_eq,ZaD]
 constructor
 · rintro⟨h1,h2⟩
   exact⟨h1,fun x hx=>by have:=D8.1 (h2 x hx); omega⟩
 · rintro⟨h1,h2⟩
   exact⟨h1,fun x hx=>D8.2 (by have:=h2 x hx; omega)⟩
theorem Ak3 {n:Nat} {w:Ax} {l:List Int} (hl:l.length≤1000) (hd:w.drivers.length≤7) (h:l.length<n) :
  (l.all (fun x=>Cp x (-1) ((w.drivers.length:Int)-1))=true→Bg n l w (l.length:Int) 0=some (.inl ((((),(w,())),()),((),()))))∧(l.all (fun x=>Cp x (-1) ((w.drivers.length:Int)-1))=false→∃ k:Nat,Bg n l w (l.length:Int) 0=some (.inr ((((),(w,())),()),((),((k:Int),()))))) :=
 Gt (F:=fun n i=>Bg n l w (l.length:Int) i) (G:=fun n i v0=>bif decide (-1≤v0) then(bif !decide (v0≤IntKind.i64.wrap ((↑w.drivers.length:Int)-1)) then(some (.inr ((((),(w,())),()),((),(i,()))))) else Bg n l w (l.length:Int) (IntKind.i64.wrap (i+1))) else some (.inr ((((),(w,())),()),((),(i,()))))) l (fun x=>Cp x (-1) ((w.drivers.length:Int)-1)) ((((),(w,())),()),((),())) (fun i=>((((),(w,())),()),((),(i,())))) 0 (by omega) (fun _ _=>rfl) (fun n i hi _=>by
  rw [Bv (x:=(w.drivers.length:Int)-1) (by omega) (by omega)]
  unfold Cp
  cases decide (-1≤l[i]) <;> cases decide (l[i]≤(w.drivers.length:Int)-1) <;> rfl) (n:=n) (by omega)
theorem AfV {n:Nat} {w:Ax} {l:List Int} (hl:l.length≤1000) (hd:w.drivers.length≤7) (h:l.length<n):FH n w l=some (AqG w l,()):=by
 unfold FH AqG
 obtain⟨a1,a2⟩:=Ak3 (n:=n) (w:=w) (l:=l) hl hd h
 by_cases he:l.length=w.duties.length
 · rw [show decide ((l.length:Int)=(w.duties.length:Int))=true from Zaf (by omega),Zaf he,Zab,ZaJ]
   cases ha:l.all fun x=>Cp x (-1) ((w.drivers.length:Int)-1) with
   | true=>rw [a1 ha]; rfl
   | false =>
    obtain⟨k,hk⟩:=a2 ha
    rw [hk]
    simp only [Zaa,Sum.elim_inr]
    rw [show decide ((k:Int)≥0)=true by simp]; rfl
 · rw [show decide ((l.length:Int)=(w.duties.length:Int))=false from Zae (by omega),Zae he]; rfl
theorem AqH {n:Nat} {l:List Int} (hl:l.length≤1000) (h:l.length<n):∃ k:Nat,Lu n l=some ((k:Int),()):=by
 have H:∀ (n i k:Nat),l.length-i<n→i≤l.length→k≤i→∃ k':Nat,CO n (k:Int) l (l.length:Int) (i:Int)=some ((k':Int),()):=by
  intro n
  induction n with
  | zero=>intro i k h; exact absurd h (Zam _)
  | succ n ih =>
   intro i k h hi hk
   rw [CO]
   by_cases hx:i<l.length
   · rw [show decide ((i:Int)<(l.length:Int))=true by simp; omega,Zab,BS hx,Zaa,wN i (by omega),wN k (by omega)]
     cases l[i] != -1
     · exact ih (i+1) k (by omega) (by omega) (by omega)
     · exact ih (i+1) (k+1) (by omega) (by omega) (by omega)
   · rw [show decide ((i:Int)<(l.length:Int))=false by simp; omega]
     exact⟨k,rfl⟩
 obtain⟨k,hk⟩:=H n 0 0 (by omega) (by omega) (by omega)
 rw [show((0:Nat):Int)=0 from rfl] at hk
 unfold Lu
 exact⟨k,by rw [hk]; rfl⟩
def KP (w:Ax) (roster:List Int):Bool:=decide (Ba w=0) && (AqG w roster && decide (Gu w roster=[]))
theorem As1 {n:Nat} {w:Ax} {roster:List Int} (hw:wkOk w) (hl:roster.length≤1000) (hn:1100<n):De n w roster 0=some (KP w roster,()):=by
 unfold De KP
 rw [SX hw (by omega),Zaa]
 simp only
 by_cases h0:Ba w=0
 · rw [Zaf h0,Zab,AfV hl hw.2.2.2.2.2.1 (by omega),Zaa]
   simp only [ZaJ]
   cases hr:AqG w roster with
   | false=>rfl
   | true =>
    have h6:w.drivers.length≤6:=by
     unfold Ba at h0
     split at h0
     · cases h0
     · split at h0
       · cases h0
       · omega
    rw [Zab,As0 hw h6 (AfU.1 hr) (by omega),Zaa]
    simp only [ZaJ]
    cases decide (Gu w roster=[]) with
    | false=>rfl
    | true =>
     obtain⟨k,hk⟩:=AqH (n:=n) hl (by omega)
     rw [Zab,hk,Zaa]
     simp
 · rw [Zae h0]; rfl
structure Gr (s:An):Prop where
 kind:∀ c∈s.cards,KM c
 cards:s.cards.length≤40
 outs:s.outs.length≤200
 runs:s.runs.length≤200
 rk:∀ r∈s.records,Xu r
 recs:s.records.length≤200
 days:s.week.days=7
 rest:s.week.rest=600
 run:s.week.run=5
 hours:s.week.hours=3000
 duties:s.week.duties.length≤12
 drivers:s.week.drivers.length≤6
 drv:∀ d∈s.week.drivers,∃ k off,d=AT.mk [k] [] [] off 0 0
 ros:s.roster.length=s.week.duties.length
 wk:Ba s.week=0
 chk:AlG s.cards=0
theorem Gr.wkOk {s:An} (h:Gr s):wkOk s.week:=⟨h.days,h.rest,h.run,h.hours,by have:=h.duties; omega,by have:=h.drivers; omega,h.drv⟩
def Ik (s:An) (c:A1):An×Int:=if s.cards.any (fun a=>Ej a c) then(s,6) else if AlG (s.cards++[c])=0 then({ s with cards:=s.cards++[c] },0) else(s,AlG (s.cards++[c]))
def DA (s:An) (y:An×Int):(Aj×Unit) ⊕ (Aj×AG×Unit):=if y.2=0 then .inl (Aj.mk y.1,()) else .inr (Aj.mk s,(AG.mk y.2,()))
theorem AfB {n:Nat} {s:An} (hg:Gr s) {c:A1} (hk:KM c) (hn:200<n):Bt n (Aj.mk s) c=some (DA s (Ik s c)):=by
 have h40:=hg.cards
 unfold Bt Ik
 rw [AnY _ c s.cards (by omega) (by omega)]
 cases hs:s.cards.any (fun a=>Ej a c) with
 | true=>simp [DA]
 | false =>
  simp only [Zaa,Za3,Zad]
  rw [AlP (by omega)]
  simp only [Zaa]
  rw [Ai5 (fun a ha=>by
   rcases Zal.1 ha with ha | ha
   · exact hg.kind a ha
   · rw [Zaz.1 ha]; exact hk) (by simp; omega) (by simp; omega)]
  simp only [Zaa,Aay]
  by_cases h0:AlG (s.cards++[c])=0
  · simp [DA,IH,h0]
  · simp [DA,IH,h0]
def Vn (l:List Xy) (bus:Int):Option Nat:=l.findIdx? fun o=>decide (o.bus=bus)
theorem AfW (l:List Xy) (bus:Int) (hl:l.length≤1000):∀ (n i:Nat),l.length-i<n→i≤l.length→Abr n bus (-1) l (l.length:Int) (i:Int)=some ((match (l.drop i).findIdx? (fun o=>decide (o.bus=bus)) with | some k=>((i+k:Nat):Int) | none=>-1),())
 | 0,_,h,_=>absurd h (Zam _)
 | n+1,i,h,hi=>by
  rw [Abr]
  by_cases hx:i<l.length
  · have hd:l.drop i=l[i]::l.drop (i+1):=Zaj hx
    rw [show decide ((i:Int)<(l.length:Int))=true by simp; omega,Zab,BS hx,Zaa,hd,wN i (by omega),List.findIdx?_cons]
    cases decide (l[i].bus=bus) with
    | true=>simp
    | false =>
     rw [Zad,AfW l bus hl n (i+1) (by omega) (by omega)]
     cases (l.drop (i+1)).findIdx? (fun o=>decide (o.bus=bus)) with
     | none=>rfl
     | some k =>
      show some (((i+1+k:Nat):Int),())=some (((i+(k+1):Nat):Int),())
      rw [show i+1+k=i+(k+1) by omega]
  · have hd:l.drop i=[]:=by simp; omega
    rw [show decide ((i:Int)<(l.length:Int))=false by simp; omega,hd]
    rfl
def Q7 (l:List Xy) (bus:Int):Int:=match Vn l bus with
 | some k=>(k:Int)
 | none=>-1
theorem ApH {n:Nat} {s:An} (hg:Gr s) (bus:Int) (hn:250<n):ArN n (Aj.mk s) bus=some (Aj.mk s,(Q7 s.outs bus,())):=by
 unfold ArN Q7 Vn
 have:=hg.outs
 have h:=AfW s.outs bus (by omega) n 0 (by omega) (by omega)
 rw [show((0:Nat):Int)=0 from rfl,Zar] at h
 simp only [h,Zaa]
 cases s.outs.findIdx? (fun o=>decide (o.bus=bus)) <;> simp
theorem MB (x:Option ((Aj×Unit) ⊕ (Aj×AG×Unit))) (s:An) (y:An×Int) (h:x=some (DA s y)):(x.bind fun v8=>Sum.elim (fun v9=>some (.inl (v9.fst,()))) (fun v9=>some (.inr (v9.fst,(v9.snd.fst,())))) v8:Option ((Aj×Unit) ⊕ (Aj×AG×Unit)))=some (DA s y):=by
 rw [h]
 unfold DA
 split <;> rfl
section
variable {n:Nat} {s:An} {a b c d e:Int}
theorem As2 (hg:Gr s) (hn:200<n):DU n (Aj.mk s) [a,b,c,d,e]=some (DA s (Ik s (A1.mk a b c (IK.mk 0) d 0))):=MB _ _ _ (AfB hg ⟨by simp,by simp⟩ hn)
theorem AuG (hg:Gr s) (hn:200<n):E6 n (Aj.mk s) [a,b,c,d,e]=some (DA s (Ik s (A1.mk a b c (IK.mk 1) d 0))):=MB _ _ _ (AfB hg ⟨by simp,by simp⟩ hn)
theorem AqI (hg:Gr s) (hn:200<n):Dq n (Aj.mk s) [a,b,c,d,e]=some (DA s (Ik s (A1.mk a b c (IK.mk 2) 0 d))):=MB _ _ _ (AfB hg ⟨by simp,by simp⟩ hn)
theorem Ama (hg:Gr s) (hn:200<n):CI n (Aj.mk s) [a,b,c,d,e]=some (DA s (Ik s (A1.mk a b c (IK.mk 3) 0 0))):=MB _ _ _ (AfB hg ⟨by simp,by simp⟩ hn)
theorem AwW:([a,b,c,d,e]:List Int).length.beq 5=true:=rfl
theorem AwX:A3 [a,b,c,d,e] 0=some a:=rfl
theorem AwY:A3 [a,b,c,d,e] 1=some b:=rfl
theorem Ax7:A3 [a,b,c,d,e] 2=some c:=rfl
theorem AxC:A3 [a,b,c,d,e] 3=some d:=rfl
theorem AxD:A3 [a,b,c,d,e] 4=some e:=rfl
theorem AwZ:([a,b,c,d,e]:List Int).get?Internal (Int.toNat 0)=some a:=rfl
theorem Axa:([a,b,c,d,e]:List Int).get?Internal (Int.toNat 1)=some b:=rfl
theorem Ax8:([a,b,c,d,e]:List Int).get?Internal (Int.toNat 2)=some c:=rfl
theorem AxE:([a,b,c,d,e]:List Int).get?Internal (Int.toNat 3)=some d:=rfl
theorem AxF:([a,b,c,d,e]:List Int).get?Internal (Int.toNat 4)=some e:=rfl
def AdM (l:List AcQ) (bus at_:Int):Bool:=l.all fun r=>!decide (r.bus=bus) || decide (r.to_≤at_)
theorem AqJ (g:Aj) (bus at_:Int) (l:List AcQ) (hl:l.length≤1000) (hn:l.length<n):AN n g bus at_ l (l.length:Int) 0=some (bif AdM l bus at_ then .inl (g,((),(bus,(at_,())))) else .inr (g,(AG.mk 8,()))):=by
 obtain⟨h1,h2⟩:=Gt (F:=fun n i=>AN n g bus at_ l (l.length:Int) i) (G:=fun n i v0=>bif !v0.bus != bus then((AD n (decide (v0.to_≤at_)) 8).bind fun v1=>Sum.elim (fun v2=>AN n g bus at_ l (l.length:Int) (IntKind.i64.wrap (i+1))) (fun v2=>some (.inr (g,(v2.fst,())))) (v1)) else(AD n true 8).bind fun v1=>Sum.elim (fun v2=>AN n g bus at_ l (l.length:Int) (IntKind.i64.wrap (i+1))) (fun v2=>some (.inr (g,(v2.fst,())))) (v1)) l (fun r=>!decide (r.bus=bus) || decide (r.to_≤at_)) (g,((),(bus,(at_,())))) (fun _=>(g,(AG.mk 8,()))) 0 (by omega) (fun _ _=>rfl) (fun n i hi _=>by
  rw [Ii,Ii]
  by_cases hb:l[i].bus=bus
  · rw [show(!l[i].bus != bus)=true by simp [hb],Zaf hb]
    cases decide (l[i].to_≤at_) <;> rfl
  · rw [show(!l[i].bus != bus)=false by simp [hb],Zae hb]
    rfl) (n:=n) (by omega)
 unfold AdM
 cases hc:l.all fun r=>!decide (r.bus=bus) || decide (r.to_≤at_) with
 | true=>exact h1 hc
 | false=>obtain⟨k,hk⟩:=h2 hc; exact hk
def Aa4 (s:An) (bus at_:Int):An×Int :=
 if Cp bus 0 99 && Cp at_ 0 1000000 then
  if Q7 s.outs bus<0 then
   if AdM s.runs bus at_ then
    if (J7 s.cards bus at_).2=0 then
     if (J7 s.cards bus at_).1=[] then({ s with outs:=s.outs++[Xy.mk bus at_] },0) else(s,11)
    else(s,(J7 s.cards bus at_).2)
   else(s,8)
  else(s,8)
 else(s,2)
theorem AuH (hg:Gr s) (hn:300<n):CW n (Aj.mk s) [a,b,c,d,e]=some (DA s (Aa4 s a b)):=by
 have h1:=hg.outs
 have h2:=hg.runs
 have h3:=hg.cards
 unfold CW
 simp only [AwW,AwX,AwZ,AwY,Axa,Zab,Zaa]
 unfold Aa4
 rw [OL,OL]
 simp only [Zaa]
 cases hb1:Cp a 0 99 with
 | false =>
  simp [Ii,IH,DA]
 | true =>
  rw [Zab,Ii,Zaa]
  cases hb2:Cp b 0 1000000 with
  | false=>simp [IH,DA]
  | true =>
   simp only [IH,Zab,Za3,Zb0,if_true]
   rw [ApH hg a (by omega),Zaa]
   simp only [Ii,Zaa]
   by_cases hgo:Q7 s.outs a<0
   · rw [Zaf hgo,if_pos hgo]
     simp only [IH,Zab,Za3]
     rw [AqJ _ a b s.runs (by omega) (by omega),Zaa]
     cases hr:AdM s.runs a b with
     | false=>simp [DA]
     | true =>
      simp only [Zab,Za3,if_true]
      rw [AuA hg.kind (by omega) (by omega)]
      simp only [Zaa,Aay]
      by_cases h0:(J7 s.cards a b).2=0
      · rw [if_pos h0,h0]
        simp only [IH,decide_true,Zab,Za3]
        by_cases hl:(J7 s.cards a b).1=[]
        · rw [if_pos hl,hl]
          simp only [Zbp]
          rw [show decide (((0:Nat):Int)=0)=true from rfl]
          simp only [Zab,Zaa,Za3]
          rw [AnU (by omega)]
          simp [DA]
        · rw [if_neg hl]
          have : ¬ (((J7 s.cards a b).1.length:Int)=0):=fun h=>hl (Zb2.1 (by omega))
          rw [Zae this]
          simp [DA]
      · rw [if_neg h0,Zae h0]
        simp [DA,h0,IH]
   · rw [Zae hgo,if_neg hgo]
     simp [IH,DA]
def ApI (s:An) (bus to_ miles:Int):An×Int :=
 match Vn s.outs bus with
 | none=>(s,8)
 | some k=>match s.outs[k]? with
  | none=>(s,8)
  | some o=>if Cp to_ o.fr 1000000 && Cp miles 0 1000 then({ s with outs:=s.outs.eraseIdx k,runs:=s.runs++[AcQ.mk o.bus o.fr to_ miles] },0) else(s,2)
theorem AfX {l:List Xy} {bus:Int} {k:Nat} (h:Vn l bus=some k):∃ hk:k<l.length,l[k].bus=bus:=by
 unfold Vn at h
 obtain⟨hk,h1,_⟩:=List.findIdx?_eq_some_iff_getElem.1 h
 exact⟨hk,by simpa using h1⟩
theorem Awl (hg:Gr s) (hn:300<n):DF n (Aj.mk s) [a,b,c,d,e]=some (DA s (ApI s a b c)):=by
 have h1:=hg.outs
 have h2:=hg.runs
 unfold DF
 simp only [AwW,AwX,AwZ,AwY,Axa,Ax7,Ax8,Zab,Zaa]
 rw [ApH hg a (by omega),Zaa]
 simp only [Ii,Zaa]
 unfold ApI Q7
 cases hgo:Vn s.outs a with
 | none =>
  simp only
  rw [show decide ((-1:Int)≥0)=false from rfl]
  simp [IH,DA]
 | some k =>
  obtain⟨hk,_⟩:=AfX hgo
  simp only
  rw [show decide ((k:Int)≥0)=true by simp]
  simp only [IH,Zab,Za3]
  rw [BS hk,Zaa,Zan hk]
  simp only [OL,Zaa]
  have hw:IntKind.i64.wrap ((k:Int)+1)=((k+1:Nat):Int):=wN k (by omega)
  have hdel:Alz n s.outs (k:Int) ((k+1:Nat):Int)=some (s.outs.eraseIdx k,()):=by
   show(bif Nat.blt k (k+1) && Nat.ble (k+1) (BJ s.outs) then some (s.outs.take k++s.outs.drop (k+1),()) else none)=_
   rw [show Nat.blt k (k+1)=true from Za7 (by omega),Aa3,show Nat.ble (k+1) s.outs.length=true from Za7 (by omega)]
   rw [List.eraseIdx_eq_take_drop_succ]; rfl
  have hcl:T0 n s.outs=some (s.outs,()):=by unfold T0; rw [KJ (by omega)]; rfl
  cases hb1:Cp b s.outs[k].fr 1000000 with
  | false=>simp [IH,DA]
  | true =>
   cases hb2:Cp c 0 1000 with
   | false=>simp [IH,DA]
   | true =>
    simp only [Zab,Za3,Zb0,if_true]
    rw [hcl,Zaa,hw,hdel,Zaa,AnV (by omega)]
    simp [DA]
def MC (s:An) (r:Ag):An×Int:=if s.records.any (B6 r) then(s,6) else if NB [s.records,[r]]=0 then({ s with records:=s.records++[r] },0) else(s,NB [s.records,[r]])
theorem Aog (hg:Gr s) {r:Ag} (hk:Xu r) (hn:1200<n):Bz n (Aj.mk s) r=some (DA s (MC s r)):=by
 have h60:=hg.recs
 unfold Bz MC
 rw [AlU (by show s.records.length≤1000; omega) (by show s.records.length<n; omega),Zaa]
 simp only [Ii,Zaa]
 cases hs:s.records.any (B6 r) with
 | true=>simp [DA,IH]
 | false =>
  simp only [Za4,IH,Zab,Za3]
  obtain⟨x,hx⟩:=Asv (n:=n) (lists:=[s.records,[r]]) (fun l hl=>by
   rcases Zak.1 hl with rfl | hl
   · exact hg.rk
   · rw [Zaz.1 hl]
     intro r' hr'
     rw [Zaz.1 hr']; exact hk) (by simp) (fun l hl=>by
   rcases Zak.1 hl with rfl | hl
   · omega
   · rw [Zaz.1 hl]; simp) (by simp; omega)
  rw [hx,Zaa]
  simp only [Aay,Zaa]
  by_cases h0:NB [s.records,[r]]=0
  · rw [h0]
    simp only [IH,decide_true,Zab,Za3]
    rw [Ai3 (by omega)]
    simp [DA]
  · rw [Zae h0]
    simp [IH,DA,h0]
theorem AuI (hg:Gr s) (hn:1200<n):E9 n (Aj.mk s) [a,b,c,d,e]=some (DA s (MC s (Ag.mk a b c (IK.mk 0) d e))):=MB _ _ _ (Aog hg ⟨by simp,by simp⟩ hn)
theorem AuJ (hg:Gr s) (hn:1200<n):EA n (Aj.mk s) [a,b,c,d,e]=some (DA s (MC s (Ag.mk a b c (IK.mk 1) d 0))):=MB _ _ _ (Aog hg ⟨by simp,by simp⟩ hn)
theorem As3 (hg:Gr s) (hn:1200<n):DY n (Aj.mk s) [a,b,c,d,e]=some (DA s (MC s (Ag.mk a b c (IK.mk 2) d e))):=MB _ _ _ (Aog hg ⟨by simp,by simp⟩ hn)
def J8 (w:Ax) (k off:Int):Ax:={ w with drivers:=w.drivers++[AT.mk [k] [] [] off 0 0] }
def KQ (w:Ax) (d:AO):Ax:={ w with duties:=w.duties++[d] }
def AeD (s:An) (k off:Int):An×Int:=if Ba (J8 s.week k off)=0 then({ s with week:=J8 s.week k off },0) else(s,Ba (J8 s.week k off))
def AeE (s:An) (d:AO):An×Int:=if Ba (KQ s.week d)=0 then({ s with week:=KQ s.week d,roster:=s.roster++[-1] },0) else(s,Ba (KQ s.week d))
theorem Aoh (hg:Gr s) (hn:100<n):BZ n (Aj.mk s) [a,b,c,d,e]=some (DA s (AeD s a b)):=by
 have h6:=hg.drivers
 have h12:=hg.duties
 unfold BZ AeD
 simp only [AwW,AwX,AwZ,AwY,Axa,Zab,Zaa]
 rw [Ai4 (by omega),Zaa]
 have hw:wkOk (J8 s.week a b):=⟨hg.days,hg.rest,hg.run,hg.hours,by show s.week.duties.length≤13; omega,by simp [J8]; omega,fun d hd=>by
  rcases Zal.1 hd with hd | hd
  · exact hg.drv d hd
  · rw [Zaz.1 hd]; exact⟨a,b,rfl⟩⟩
 have hc:=SX (n:=n) hw (by omega)
 unfold J8 at hc
 simp only at hc ⊢
 rw [hc,Zaa]
 simp only [Aay,Zaa]
 show _=some (DA s (if Ba (J8 s.week a b)=0 then _ else _))
 change (Sum.elim _ _ (IH (decide (Ba (J8 s.week a b)=0)) (Ba (J8 s.week a b))))=_
 by_cases h0:Ba (J8 s.week a b)=0
 · rw [h0]; simp [IH,DA,J8]
 · rw [Zae h0,if_neg h0]
   simp [IH,DA,h0]
theorem As4 (hg:Gr s) (hn:100<n):CB n (Aj.mk s) [a,b,c,d,e]=some (DA s (AeE s (AO.mk a b (Rg.mk c d) e))):=by
 have h6:=hg.drivers
 have h12:=hg.duties
 have hr:=hg.ros
 unfold CB AeE
 simp only [AwW,AwX,AwZ,AwY,Axa,Ax7,Ax8,AxC,AxE,AxD,AxF,Zab,Zaa]
 rw [AlQ (by omega),Zaa]
 have hw:wkOk (KQ s.week (AO.mk a b (Rg.mk c d) e)):=⟨hg.days,hg.rest,hg.run,hg.hours,by simp [KQ]; omega,by show s.week.drivers.length≤7; omega,hg.drv⟩
 have hc:=SX (n:=n) hw (by omega)
 unfold KQ at hc
 simp only at hc ⊢
 rw [hc,Zaa]
 simp only [Aay,Zaa]
 show _=some (DA s (if Ba (KQ s.week (AO.mk a b (Rg.mk c d) e))=0 then _ else _))
 change (Sum.elim _ _ (IH (decide (Ba (KQ s.week (AO.mk a b (Rg.mk c d) e))=0)) (Ba (KQ s.week (AO.mk a b (Rg.mk c d) e)))))=_
 by_cases h0:Ba (KQ s.week (AO.mk a b (Rg.mk c d) e))=0
 · rw [h0]
   simp only [IH,decide_true,Zab,Za3]
   rw [AnW (by omega)]
   simp [DA,KQ]
 · rw [Zae h0,if_neg h0]
   simp [IH,DA,h0]
def AeF (s:An) (i k:Int):An×Int :=
 if Cp i 0 ((s.roster.length:Int)-1) && Cp k (-1) ((s.week.drivers.length:Int)-1) then
  if KP s.week (s.roster.set i.toNat k) then({ s with roster:=s.roster.set i.toNat k },0) else(s,10)
 else(s,2)
theorem As5 (hg:Gr s) (hn:1200<n):CD n (Aj.mk s) [a,b,c,d,e]=some (DA s (AeF s a b)):=by
 have h6:=hg.drivers
 have h12:=hg.duties
 have hr:=hg.ros
 unfold CD AeF
 simp only [AwW,AwX,AwZ,AwY,Axa,Zab,Zaa]
 rw [Bv (x:=(s.roster.length:Int)-1) (by omega) (by omega),Bv (x:=(s.week.drivers.length:Int)-1) (by omega) (by omega)]
 simp only [OL,Zaa,Ii]
 cases hb1:Cp a 0 ((s.roster.length:Int)-1) with
 | false=>simp [IH,DA]
 | true =>
  cases hb2:Cp b (-1) ((s.week.drivers.length:Int)-1) with
  | false=>simp [IH,DA]
  | true =>
   simp only [IH,Zab,Za3,Zb0,if_true]
   obtain⟨a1,a2⟩:=D8.1 hb1
   obtain⟨i,rfl⟩:∃ i:Nat,a=i:=⟨a.toNat,by omega⟩
   have hi:i<s.roster.length:=by omega
   have hcl:Zc n s.roster=some (s.roster,()):=by unfold Zc; rw [KJ (by omega)]; rfl
   rw [hcl]
   simp only [Zaa]
   rw [BS hi,Zaa,show((i:Nat):Int).toNat=i from rfl,Aku hi,Zaa,As1 hg.wkOk (by rw [List.length_set]; omega) (by omega),Zaa]
   simp only
   cases KP s.week (s.roster.set i b) with
   | true=>simp [DA]
   | false=>simp [DA]
end
theorem Aoi {l:List UInt8} {v:Int} (h:Lib.atoiAll l=.ok v) : -9223372036854775808≤v∧v≤9223372036854775807:=by
 unfold Lib.atoiAll at h
 simp only at h
 split at h
 · cases h
 · split at h
   · cases h
   · cases h
   · rename_i u _
     split at h
     · cases h
     · split at h
       · cases h
       · rename_i h1 h2
         cases h
         split <;> rename_i hn <;> simp only [hn,true_and,not_true,false_and,not_false_iff] at h1 h2 <;> omega
def Aoj (s:ByteArray):Option Int:=OT s.data.toList
theorem AqK {n:Nat} {s:ByteArray} (hs:s.size≤1000000):Lw n s=some (match Aoj s with | some v=>.inl (v,()) | none=>.inr (AG.mk 4,())):=by
 unfold Lw Aeu
 rw [if_pos (by omega)]
 simp only [Zaa]
 cases hw:Aoj s with
 | some v =>
  obtain⟨h1,h2,h3,h4⟩:=Aq1 hw
  rw [h2]
  simp only [Za3]
  have hi:Abl n v=some (Uu v,()):=by
   unfold Abl
   rw [show(decide (-9223372036854775808≤v) && decide (v≤9223372036854775807))=true by simp; omega]; rfl
  rw [hi,Zaa]
  have hb:(Uu v).beq s=true:=by
   unfold Uu
   rw [h1,← Nx s]
   show((B7 s.data.toList).data == (B7 (B7 s.data.toList).data.toList).data)=true
   simp [B7]
  simp only [hb,Zab]
  rw [OL,Zaa,show Cp v (-999999999) 999999999=true from D8.2 ⟨h3,h4⟩,Ii]
  rfl
 | none =>
  rcases ha:Lib.atoiAll s.data.toList with v | _ | _
  · skip
    obtain⟨b1,b2⟩:=Aoi ha
    have hi:Abl n v=some (Uu v,()):=by
     unfold Abl
     rw [show(decide (-9223372036854775808≤v) && decide (v≤9223372036854775807))=true by simp; omega]; rfl
    simp only [Za3]
    rw [hi,Zaa]
    simp only
    cases hb:(Uu v).beq s with
    | false=>simp [Ii,IH]
    | true =>
     have he:AhQ v=s.data.toList:=by
      have:((B7 (AhQ v)).data == s.data)=true:=hb
      have:=eq_of_beq this
      have:=congrArg Array.toList this
      simpa [B7] using this
     simp only [Zab,OL,Zaa,Ii]
     by_cases hr : -999999999≤v∧v≤999999999
     · have:=AlO hr.1 hr.2
       rw [he] at this
       unfold Aoj at hw
       rw [this] at hw; cases hw
     · rw [WV.2 hr]; rfl
  · simp [Ii,IH]
  · simp [Ii,IH]
def Em:List (ByteArray×FX):=[(B [102,111,117,110,100],FX.mk 4 (Fp.mk 189)),(B [104,101,108,100],FX.mk 4 (Fp.mk 190)),(B [115,105,103,110,101,100],FX.mk 4 (Fp.mk 191)),(B [99,104,101,99,107,101,100],FX.mk 3 (Fp.mk 192)),(B [111,117,116],FX.mk 2 (Fp.mk 193)),(B [105,110],FX.mk 3 (Fp.mk 194)),(B [115,97,108,101],FX.mk 5 (Fp.mk 195)),(B [115,121,110,99],FX.mk 4 (Fp.mk 196)),(B [99,108,111,115,101],FX.mk 5 (Fp.mk 197)),(B [100,114,105,118,101,114],FX.mk 2 (Fp.mk 198)),(B [100,117,116,121],FX.mk 5 (Fp.mk 199)),(B [103,105,118,101],FX.mk 2 (Fp.mk 200))]
theorem As6 (n:Nat):Aup n=some (Em,()):=by kernel_rfl
theorem RP {α β:Type} (q:α→α→Bool) (hq:∀ a b,q a b=true→a=b):∀ (l:List (α×β))(k:α)(v:β),En q l k=some v→(k,v)∈l
 | [],_,_,h=>by cases h
 | p::r,k,v,h=>by
  unfold En at h
  cases hp:q p.1 k with
  | true =>
   rw [hp,Zab] at h
   cases h
   have:=hq _ _ hp
   subst this
   simp
  | false =>
   rw [hp,Zad] at h
   exact ZaS _ (RP q hq r k v h)
theorem YB {w:ByteArray} {x:FX} (h:En Fi Em w=some x):2≤x.many∧x.many≤5∧189≤x.do_.f∧x.do_.f≤200:=by
 have:=RP Fi (fun a b h=>(Vl a b).1 h) _ _ _ h
 simp only [Em,Zak,Prod.mk.injEq,List.not_mem_nil,or_false] at this
 rcases this with⟨_,rfl⟩ | ⟨_,rfl⟩ | ⟨_,rfl⟩ | ⟨_,rfl⟩ | ⟨_,rfl⟩ | ⟨_,rfl⟩ | ⟨_,rfl⟩ | ⟨_,rfl⟩ | ⟨_,rfl⟩ | ⟨_,rfl⟩ | ⟨_,rfl⟩ | ⟨_,rfl⟩ <;> simp
def J9:List ByteArray→Option (List Int)
 | []=>some []
 | s::r=>match Aoj s with
  | none=>none
  | some v=>match J9 r with
   | none=>none
   | some vs=>some (v::vs)
theorem OM:∀ {l:List ByteArray} {vs:List Int},J9 l=some vs→vs.length=l.length
 | [],vs,h=>by cases h; rfl
 | s::r,vs,h=>by
  unfold J9 at h
  split at h
  · cases h
  · split at h
    · cases h
    · rename_i vs' hv
      cases h
      simp [OM hv]
def AfY (i:Nat) (z vs:List Int):List Int:=z.take i++vs++z.drop (i+vs.length)
theorem As7 {z:List Int} {i:Nat} (hi:i<z.length) (v:Int) (vs:List Int):AfY (i+1) (z.set i v) vs=AfY i z (v::vs):=by
 unfold AfY
 rw [List.take_set,List.drop_set,if_pos (by omega),ZaK hi,List.set_append_right _ _ (by rw [ZaE]; omega),ZaE,Nat.min_eq_left (by omega),Nat.sub_self]
 simp only [List.set_cons_zero,Za6,Za8,List.singleton_append,ZaZ,Zav]
 rw [show i+1+vs.length=i+(vs.length+1) by omega]
theorem Aju (g:Aj) (e:Int) (x:FX) (full:List ByteArray) (hs:∀ s∈full,s.size≤1000000) (hl:full.length≤5):∀ (n i:Nat)(z:List Int),full.length-i<n→i≤full.length→z.length=5→match J9 (full.drop i) with
  | some vs=>P7 n g e x z full (full.length:Int) (i:Int)=some (.inl (g,((e,()),(x,(AfY i z vs,((),((),((),((),()))))))) ))
  | none=>∃ z',P7 n g e x z full (full.length:Int) (i:Int)=some (.inr (g,((e,()),(x,(z',((),(AG.mk 4,())))))))
 | 0,_,_,h,_,_=>absurd h (Zam _)
 | n+1,i,z,h,hi,hz=>by
  rw [P7]
  by_cases hx:i<full.length
  · have hd:full.drop i=full[i]::full.drop (i+1):=Zaj hx
    have ih:=fun z=>Aju g e x full hs hl n (i+1) z (by omega) (by omega)
    rw [show decide ((i:Int)<(full.length:Int))=true by simp; omega,Zab,BS hx,Zaa,AqK (hs _ (Za1 hx)),Zaa,hd,wN i (by omega)]
    unfold J9
    cases hv:Aoj full[i] with
    | none=>exact⟨z,rfl⟩
    | some v =>
     simp only [Za3]
     have h5:z.length.beq 5=true:=by rw [hz]; rfl
     rw [h5,Zab,BS (by omega),Zaa,show((i:Nat):Int).toNat=i from rfl,Aku (by omega),Zaa]
     have:=ih (z.set i v) (by simp [hz])
     cases hr:J9 (full.drop (i+1)) with
     | none =>
      rw [hr] at this
      exact this
     | some vs =>
      rw [hr] at this
      simp only
      simp only at this
      rw [this,As7 (by omega)]
  · have hd:full.drop i=[]:=by simp; omega
    rw [show decide ((i:Int)<(full.length:Int))=false by simp; omega,hd]
    simp [J9,AfY]
def DB (text:ByteArray):Option (Int×List Int) :=
 match C8 text with
 | []=>none
 | p::r=>match En Fi Em p with
  | none=>none
  | some x=>if ((r.length+1:Nat):Int)=x.many+1 then match J9 r with
    | none=>none
    | some vs=>some (x.do_.f,vs++List.replicate (5-vs.length) 0)
   else none
def BL (s:An) (f:Int):List Int→An×Int
 | [a,b,c,d,e] =>
  if f=189 then Ik s (A1.mk a b c (IK.mk 0) d 0) else
  if f=190 then Ik s (A1.mk a b c (IK.mk 1) d 0) else
  if f=191 then Ik s (A1.mk a b c (IK.mk 2) 0 d) else
  if f=192 then Ik s (A1.mk a b c (IK.mk 3) 0 0) else
  if f=193 then Aa4 s a b else
  if f=194 then ApI s a b c else
  if f=195 then MC s (Ag.mk a b c (IK.mk 0) d e) else
  if f=196 then MC s (Ag.mk a b c (IK.mk 1) d 0) else
  if f=197 then MC s (Ag.mk a b c (IK.mk 2) d e) else
  if f=198 then AeD s a b else
  if f=199 then AeE s (AO.mk a b (Rg.mk c d) e) else
  AeF s a b
 | _=>(s,4)
def BT (s:An) (text:ByteArray):An×Int:=match DB text with
 | none=>(s,4)
 | some (f,l)=>if (BL s f l).2=0 then BL s f l else(s,(BL s f l).2)
theorem KR (c:UInt8):∀ (l:List UInt8),∀ p∈Fj c l,p.length≤l.length
 | [],p,h=>by simp [Fj] at h; subst h; simp
 | b::l,p,h=>by
  unfold Fj at h
  cases hb:b == c with
  | true =>
   rw [hb,Zab] at h
   rcases Zak.1 h with rfl | h
   · simp
   · have:=KR c l p h; simp; omega
  | false =>
   rw [hb,Zad] at h
   split at h
   · rename_i hn; exact absurd hn (ML c l)
   · rename_i q r hq
     have h1:=KR c l q (by rw [hq]; simp)
     rcases Zak.1 h with rfl | h
     · simp; omega
     · have:=KR c l p (by rw [hq]; simp [h]); simp; omega
theorem Amb {s p:ByteArray} (h:p∈C8 s):p.size≤s.size:=by
 unfold C8 at h
 obtain⟨l,hl,rfl⟩:=ZaR.1 h
 rw [BN,Ih]
 exact KR _ _ _ hl
theorem AfZ {α:Type} {l:List α} {a b:Nat} (h:a≤b) (h2:b≤l.length):Gx l (a:Int) (b:Int)=some ((l.drop a).take (b-a)):=by
 unfold Gx
 rw [if_pos ⟨by omega,by omega,by omega⟩]
 simp
def AqL (y:(Aj×(Int×Unit)×Unit×Unit) ⊕ (Aj×(Int×Unit)×Unit×AG×Unit)):Option (Aj×Int×Unit):=match y with
 | .inl a=>some (a.1,a.2.1.1,())
 | .inr a=>some (a.1,a.2.2.2.1.errno,())
theorem Awm {x:Option ((Aj×Unit) ⊕ (Aj×AG×Unit))} {s:An} {y:An×Int} (e0:Int) (h:x=some (DA s y)):((x.bind fun v8=>Sum.elim (fun v9=>some (.inl (v9.fst,((0,()),((),()))))) (fun v9=>some (.inr (v9.fst,((e0,()),((),(v9.snd.fst,())))))) v8).bind AqL)=some (Aj.mk (if y.2=0 then y else(s,y.2)).1,(if y.2=0 then y else(s,y.2)).2,()):=by
 rw [h]
 unfold DA
 by_cases h0:y.2=0
 · rw [if_pos h0,if_pos h0,h0]; rfl
 · rw [if_neg h0,if_neg h0]; rfl
theorem JO {x:Option ((Aj×Unit) ⊕ (Aj×AG×Unit))} {s:An} {y z:An×Int} (e0:Int) (h:x=some (DA s y)) (hz:z=y):((x.bind fun v8=>Sum.elim (fun v9=>some (.inl (v9.fst,((0,()),((),()))))) (fun v9=>some (.inr (v9.fst,((e0,()),((),(v9.snd.fst,())))))) v8).bind AqL)=some (Aj.mk (if z.2=0 then z else(s,z.2)).1,(if z.2=0 then z else(s,z.2)).2,()):=by
 subst hz; exact Awm e0 h
theorem AuK:Aue (B [32])=true:=by decide
theorem Il {text p:ByteArray} {r:List ByteArray} (hp:C8 text=p::r):DB text=match En Fi Em p with
  | none=>none
  | some x=>if ((r.length+1:Nat):Int)=x.many+1 then match J9 r with
    | none=>none
    | some vs=>some (x.do_.f,vs++List.replicate (5-vs.length) 0)
   else none:=by
 unfold DB
 rw [hp]
theorem Amc {n:Nat} {s:An} {text:ByteArray} (hg:Gr s) (hn:1300<n) (ht:text.size≤1000000):Aqu n (Aj.mk s) text=some (Aj.mk (BT s text).1,(BT s text).2,()):=by
 show(AnI n (Aj.mk s) text 0).bind AqL=_
 unfold AnI BT AhY
 rw [AuK,show Nat.blt text.size 4294967281=true from Za7 (by omega),Zb0,Zab,Zaa,As6,Zaa]
 simp only
 have hsz:∀ q∈C8 text,q.size≤1000000:=fun q hq=>ZaO (Amb hq) ht
 cases hp:C8 text with
 | nil =>
  unfold C8 at hp
  exact absurd (Zb4.1 hp) (ML 32 _)
 | cons p r =>
  rw [hp] at hsz
  rw [show A3 (p::r) 0=some p from rfl,Zaa]
  unfold Dl AV
  cases hw:En Fi Em p with
  | none =>
   have hpt:=Il hp
   rw [hw] at hpt
   rw [hpt]
   simp only [Option.isSome_none,Zad,Ii]
   simp [IH,AqL]
  | some x =>
   obtain⟨m1,m2,f1,f2⟩:=YB hw
   simp only [Option.isSome_some,Zab,Option.getD_some]
   have hwr:IntKind.i64.wrap (x.many+1)=x.many+1:=Bv (by omega) (by omega)
   simp only [Ii,Zaa,hwr,Za6]
   by_cases hl:((r.length+1:Nat):Int)=x.many+1
   · have hpt:=Il hp
     rw [hw] at hpt
     simp only [if_pos hl] at hpt
     rw [Zaf hl]
     simp only [IH,Zab,Za3]
     have hsub:Gx (p::r) 1 ((r.length+1:Nat):Int)=some r:=by
      have:=AfZ (l:=p::r) (a:=1) (b:=r.length+1) (by omega) (by simp)
      rw [show((1:Nat):Int)=1 from rfl] at this
      rw [this]
      simp
     rw [hsub,Zaa]
     have hloop:=Aju (Aj.mk s) 0 x r (fun q hq=>hsz q (by simp [hq])) (by omega) n 0 [0,0,0,0,0] (by omega) (by omega) rfl
     rw [show((0:Nat):Int)=0 from rfl,Zar] at hloop
     cases hv:J9 r with
     | none =>
      rw [hv] at hloop
      obtain⟨z',hz⟩:=hloop
      rw [hv] at hpt
      rw [hz,hpt]; simp [AqL]
     | some vs =>
      rw [hv] at hloop hpt
      simp only at hpt
      have hvl:=OM hv
      rw [hpt]
      simp only
      rw [hloop,Zaa]
      simp only [Za3]
      have hlaid:AfY 0 [0,0,0,0,0] vs=vs++List.replicate (5-vs.length) 0:=by
       unfold AfY
       rw [List.take_zero,Zav,Zas,show([0,0,0,0,0]:List Int)=List.replicate 5 0 from rfl,List.drop_replicate]
      have h5:(vs++List.replicate (5-vs.length) (0:Int)).length=5:=by rw [Zat,List.length_replicate]; omega
      rw [hlaid]
      generalize vs++List.replicate (5-vs.length) (0:Int)=l at *
      match l,h5 with
      | [a,b,c,d,e],_ =>
       generalize x.do_.f=f at *
       rw [show([a,b,c,d,e]:List Int).length.beq 5=true from rfl,Zab]
       by_cases q0:f=189
       · subst q0; exact JO _ (As2 hg (by omega)) (by simp [BL])
       rw [Zae q0,Zad]
       by_cases q1:f=190
       · subst q1; exact JO _ (AuG hg (by omega)) (by simp [BL])
       rw [Zae q1,Zad]
       by_cases q2:f=191
       · subst q2; exact JO _ (AqI hg (by omega)) (by simp [BL])
       rw [Zae q2,Zad]
       by_cases q3:f=192
       · subst q3; exact JO _ (Ama hg (by omega)) (by simp [BL])
       rw [Zae q3,Zad]
       by_cases q4:f=193
       · subst q4; exact JO _ (AuH hg (by omega)) (by simp [BL])
       rw [Zae q4,Zad]
       by_cases q5:f=194
       · subst q5; exact JO _ (Awl hg (by omega)) (by simp [BL])
       rw [Zae q5,Zad]
       by_cases q6:f=195
       · subst q6; exact JO _ (AuI hg (by omega)) (by simp [BL])
       rw [Zae q6,Zad]
       by_cases q7:f=196
       · subst q7; exact JO _ (AuJ hg (by omega)) (by simp [BL])
       rw [Zae q7,Zad]
       by_cases q8:f=197
       · subst q8; exact JO _ (As3 hg (by omega)) (by simp [BL])
       rw [Zae q8,Zad]
       by_cases q9:f=198
       · subst q9; exact JO _ (Aoh hg (by omega)) (by simp [BL])
       rw [Zae q9,Zad]
       by_cases q10:f=199
       · subst q10; exact JO _ (As4 hg (by omega)) (by simp [BL])
       rw [Zae q10,Zad]
       have q11:f=200:=by omega
       subst q11
       exact JO _ (As5 hg (by omega)) (by simp [BL])
   · have hpt:=Il hp
     rw [hw] at hpt
     simp only [if_neg hl] at hpt
     rw [Zae hl,hpt]; simp [IH,AqL]
def Acp (s s':An):Prop:=Gr s'∧s'.outs.length≤s.outs.length+1∧s'.runs.length≤s.runs.length+1∧s'.records.length≤s.records.length+1
def As8 (s:An):Prop:=s.outs.length<200∧s.runs.length<200∧s.records.length<200
theorem Acp.refl {s:An} (h:Gr s):Acp s s:=⟨h,by omega,by omega,by omega⟩
theorem As9 {l:List A1} (h:AlG l=0):l.length≤40:=by
 unfold AlG at h
 cases hr:Mq l with
 | inl e=>rw [hr] at h; have:=RN hr; simp only at h; omega
 | inr y=>exact(WX hr).1
theorem WZ {s:An} (hg:Gr s) {c:A1} (hk:KM c) (h0:(Ik s c).2=0):Acp s (Ik s c).1:=by
 unfold Ik at h0 ⊢
 split at h0
 · cases h0
 · rename_i h1
   rw [if_neg h1]
   split at h0
   · rename_i h2
     rw [if_pos h2]
     refine⟨{ hg with kind:=fun a ha=>?_,cards:=As9 h2,chk:=h2 },by simp,by simp,by simp⟩
     rcases Zal.1 ha with ha | ha
     · exact hg.kind a ha
     · rw [Zaz.1 ha]; exact hk
   · rename_i h2; exact absurd h0 h2
theorem Aok {s:An} {a b:Int} (h0:(Aa4 s a b).2=0):(Cp a 0 99 && Cp b 0 1000000)=true∧Q7 s.outs a<0∧AdM s.runs a b=true∧J7 s.cards a b=([],0)∧(Aa4 s a b).1={ s with outs:=s.outs++[Xy.mk a b] }:=by
 unfold Aa4 at h0 ⊢
 by_cases c1:(Cp a 0 99 && Cp b 0 1000000)=true
 · rw [if_pos c1] at h0 ⊢
   by_cases c2:Q7 s.outs a<0
   · rw [if_pos c2] at h0 ⊢
     by_cases c3:AdM s.runs a b=true
     · rw [if_pos c3] at h0 ⊢
       by_cases c4:(J7 s.cards a b).2=0
       · rw [if_pos c4] at h0 ⊢
         by_cases c5:(J7 s.cards a b).1=[]
         · rw [if_pos c5]
           exact⟨c1,c2,c3,Prod.ext c5 c4,rfl⟩
         · rw [if_neg c5] at h0; cases h0
       · rw [if_neg c4] at h0; exact absurd h0 c4
     · rw [if_neg c3] at h0; cases h0
   · rw [if_neg c2] at h0; cases h0
 · rw [if_neg c1] at h0; cases h0
theorem AsA {s:An} (hg:Gr s) (hr:As8 s) {a b:Int} (h0:(Aa4 s a b).2=0):Acp s (Aa4 s a b).1:=by
 obtain⟨r1,r2,r3⟩:=hr
 rw [(Aok h0).2.2.2.2]
 exact⟨{ hg with outs:=by simp; omega },by simp,by simp,by simp⟩
theorem AsB {s:An} {a b c:Int} (h0:(ApI s a b c).2=0):∃ (k:Nat)(hk:k<s.outs.length),Vn s.outs a=some k∧(ApI s a b c).1={ s with outs:=s.outs.eraseIdx k,runs:=s.runs++[AcQ.mk s.outs[k].bus s.outs[k].fr b c] }∧Cp b s.outs[k].fr 1000000=true∧Cp c 0 1000=true:=by
 unfold ApI at h0 ⊢
 cases hgo:Vn s.outs a with
 | none=>rw [hgo] at h0; cases h0
 | some k =>
  obtain⟨hk,_⟩:=AfX hgo
  rw [hgo] at h0
  simp only [Zan hk] at h0 ⊢
  by_cases c1:(Cp b s.outs[k].fr 1000000 && Cp c 0 1000)=true
  · rw [if_pos c1]
    rw [Zaq] at c1
    exact⟨k,hk,rfl,rfl,c1.1,c1.2⟩
  · rw [if_neg c1] at h0; cases h0
theorem AuL {s:An} (hg:Gr s) (hr:As8 s) {a b c:Int} (h0:(ApI s a b c).2=0):Acp s (ApI s a b c).1:=by
 obtain⟨r1,r2,r3⟩:=hr
 obtain⟨k,hk,_,e,_⟩:=AsB h0
 rw [e]
 have:=List.length_eraseIdx_le s.outs k
 exact⟨{ hg with outs:=by show(s.outs.eraseIdx k).length≤200; omega,runs:=by simp; omega },by show(s.outs.eraseIdx k).length≤_; omega,by simp,by simp⟩
theorem Aga {s:An} {r:Ag} (h0:(MC s r).2=0):(MC s r).1={ s with records:=s.records++[r] }∧s.records.any (B6 r)=false∧NB [s.records,[r]]=0:=by
 unfold MC at h0 ⊢
 by_cases c1:s.records.any (B6 r)=true
 · rw [if_pos c1] at h0; cases h0
 · rw [if_neg c1] at h0 ⊢
   by_cases c2:NB [s.records,[r]]=0
   · rw [if_pos c2]; exact⟨rfl,by simpa using c1,c2⟩
   · rw [if_neg c2] at h0; exact absurd h0 c2
theorem Agb {s:An} (hg:Gr s) (hr:As8 s) {r:Ag} (hk:Xu r) (h0:(MC s r).2=0):Acp s (MC s r).1:=by
 obtain⟨r1,r2,r3⟩:=hr
 rw [(Aga h0).1]
 exact⟨{ hg with recs:=by simp; omega,rk:=fun a ha=>(Zal.1 ha).elim (hg.rk a) (fun ha=>by rw [Zaz.1 ha]; exact hk) },by simp,by simp,by simp⟩
theorem B5 {w:Ax} (h:Ba w=0):w.duties.length≤12∧w.drivers.length≤6:=by
 unfold Ba at h
 by_cases c1:12<w.duties.length
 · rw [if_pos c1] at h; cases h
 · rw [if_neg c1] at h
   by_cases c2:6<w.drivers.length
   · rw [if_pos c2] at h; cases h
   · exact⟨by omega,by omega⟩
theorem AsC {s:An} (hg:Gr s) {k off:Int} (h0:(AeD s k off).2=0):Acp s (AeD s k off).1:=by
 unfold AeD at h0 ⊢
 by_cases c:Ba (J8 s.week k off)=0
 · rw [if_pos c]
   obtain⟨w1,w2⟩:=B5 c
   exact⟨{ hg with days:=hg.days,rest:=hg.rest,run:=hg.run,hours:=hg.hours,duties:=w1,drivers:=w2,ros:=hg.ros,wk:=c,drv:=fun d hd=>(Zal.1 hd).elim (hg.drv d) (fun hd=>⟨k,off,Zaz.1 hd⟩) },by simp,by simp,by simp⟩
 · rw [if_neg c] at h0; exact absurd h0 c
theorem AsD {s:An} (hg:Gr s) {d:AO} (h0:(AeE s d).2=0):Acp s (AeE s d).1:=by
 unfold AeE at h0 ⊢
 by_cases c:Ba (KQ s.week d)=0
 · rw [if_pos c]
   obtain⟨w1,w2⟩:=B5 c
   exact⟨{ hg with days:=hg.days,rest:=hg.rest,run:=hg.run,hours:=hg.hours,duties:=w1,drivers:=w2,drv:=hg.drv,ros:=by simp [KQ,hg.ros],wk:=c },by simp,by simp,by simp⟩
 · rw [if_neg c] at h0; exact absurd h0 c
theorem AsE {s:An} (hg:Gr s) {i k:Int} (h0:(AeF s i k).2=0):Acp s (AeF s i k).1:=by
 unfold AeF at h0 ⊢
 by_cases c1:(Cp i 0 ((s.roster.length:Int)-1) && Cp k (-1) ((s.week.drivers.length:Int)-1))=true
 · rw [if_pos c1] at h0 ⊢
   by_cases c2:KP s.week (s.roster.set i.toNat k)=true
   · rw [if_pos c2]
     exact⟨{ hg with ros:=by simp [hg.ros] },by simp,by simp,by simp⟩
   · rw [if_neg c2] at h0; cases h0
 · rw [if_neg c1] at h0; cases h0
theorem AqM {s:An} (hg:Gr s) (hr:As8 s) {f:Int} {l:List Int} (h0:(BL s f l).2=0):Acp s (BL s f l).1:=by
 unfold BL at h0 ⊢
 split at h0
 · by_cases q0:f=189
   · rw [if_pos q0] at h0 ⊢; exact WZ hg ⟨by simp,by simp⟩ h0
   rw [if_neg q0] at h0 ⊢
   by_cases q0:f=190
   · rw [if_pos q0] at h0 ⊢; exact WZ hg ⟨by simp,by simp⟩ h0
   rw [if_neg q0] at h0 ⊢
   by_cases q0:f=191
   · rw [if_pos q0] at h0 ⊢; exact WZ hg ⟨by simp,by simp⟩ h0
   rw [if_neg q0] at h0 ⊢
   by_cases q0:f=192
   · rw [if_pos q0] at h0 ⊢; exact WZ hg ⟨by simp,by simp⟩ h0
   rw [if_neg q0] at h0 ⊢
   by_cases q0:f=193
   · rw [if_pos q0] at h0 ⊢; exact AsA hg hr h0
   rw [if_neg q0] at h0 ⊢
   by_cases q0:f=194
   · rw [if_pos q0] at h0 ⊢; exact AuL hg hr h0
   rw [if_neg q0] at h0 ⊢
   by_cases q0:f=195
   · rw [if_pos q0] at h0 ⊢; exact Agb hg hr ⟨by simp,by simp⟩ h0
   rw [if_neg q0] at h0 ⊢
   by_cases q0:f=196
   · rw [if_pos q0] at h0 ⊢; exact Agb hg hr ⟨by simp,by simp⟩ h0
   rw [if_neg q0] at h0 ⊢
   by_cases q0:f=197
   · rw [if_pos q0] at h0 ⊢; exact Agb hg hr ⟨by simp,by simp⟩ h0
   rw [if_neg q0] at h0 ⊢
   by_cases q0:f=198
   · rw [if_pos q0] at h0 ⊢; exact AsC hg h0
   rw [if_neg q0] at h0 ⊢
   by_cases q0:f=199
   · rw [if_pos q0] at h0 ⊢; exact AsD hg h0
   rw [if_neg q0] at h0 ⊢
   exact AsE hg h0
 · cases h0
theorem AqN {s:An} (hg:Gr s) (hr:As8 s) (t:ByteArray):Acp s (BT s t).1:=by
 unfold BT
 cases DB t with
 | none=>exact Acp.refl hg
 | some y =>
  obtain⟨f,l⟩:=y
  simp only
  by_cases h0:(BL s f l).2=0
  · rw [if_pos h0]; exact AqM hg hr h0
  · rw [if_neg h0]; exact Acp.refl hg
theorem Agc {s:An} {t:ByteArray} (h:(BT s t).2≠0):(BT s t).1=s:=by
 unfold BT at h ⊢
 cases hp:DB t with
 | none=>rfl
 | some y =>
  obtain⟨f,l⟩:=y
  rw [hp] at h
  simp only at h ⊢
  by_cases h0:(BL s f l).2=0
  · rw [if_pos h0] at h; exact absurd h0 h
  · rw [if_neg h0]
def Bf:An:=An.mk [] [] [] [] (Ax.mk 7 [] [] 600 5 3000) []
theorem Aol:Gr Bf where
 kind:=by simp [Bf]
 cards:=by simp [Bf]
 outs:=by simp [Bf]
 runs:=by simp [Bf]
 rk:=by simp [Bf]
 recs:=by simp [Bf]
 days:=rfl
 rest:=rfl
 run:=rfl
 hours:=rfl
 duties:=by simp [Bf]
 drivers:=by simp [Bf]
 drv:=by simp [Bf]
 ros:=rfl
 wk:=rfl
 chk:=rfl
def Ek (s:An):List ByteArray→An×List Int
 | []=>(s,[])
 | t::r=>((Ek (BT s t).1 r).1,(BT s t).2::(Ek (BT s t).1 r).2)
def SZ (m:Nat) (s:An):Prop:=Gr s∧s.outs.length+m≤200∧s.runs.length+m≤200∧s.records.length+m≤200
theorem SZ.step {m:Nat} {s:An} (h:SZ (m+1) s) (t:ByteArray):SZ m (BT s t).1:=by
 obtain⟨h1,h2,h3,h4⟩:=h
 obtain⟨a,b,c,d⟩:=AqN h1 ⟨by omega,by omega,by omega⟩ t
 exact⟨a,by omega,by omega,by omega⟩
theorem SZ.less {m k:Nat} {s:An} (h:SZ m s) (hk:k≤m):SZ k s:=⟨h.1,by have:=h.2.1; omega,by have:=h.2.2.1; omega,by have:=h.2.2.2; omega⟩
theorem Ta:SZ 150 Bf:=⟨Aol,by simp [Bf],by simp [Bf],by simp [Bf]⟩
theorem YC:∀ (l:List ByteArray)(m:Nat)(s:An),SZ (m+l.length) s→SZ m (Ek s l).1
 | [],m,s,h=>h
 | t::l,m,s,h=>by
  simp only [Ek]
  exact YC l m _ (SZ.step (by rw [show m+(t::l).length=m+l.length+1 by simp; omega] at h; exact h) t)
theorem Agd (full:List ByteArray) (hs:∀ t∈full,t.size≤1000000) (hl:full.length≤150):∀ (n i:Nat)(s:An)(es:List Int),1400+(full.length-i)<n→i≤full.length→SZ (full.length-i) s→es.length=i→E1 n (Aj.mk s) es full (full.length:Int) (i:Int)=some (Aj.mk (Ek s (full.drop i)).1,((),(es++(Ek s (full.drop i)).2,())))
 | 0,_,_,_,h,_,_,_=>absurd h (Zam _)
 | n+1,i,s,es,h,hi,hL,he=>by
  rw [E1]
  by_cases hx:i<full.length
  · have hd:full.drop i=full[i]::full.drop (i+1):=Zaj hx
    rw [show decide ((i:Int)<(full.length:Int))=true by simp; omega,Zab,BS hx,Zaa,Amc hL.1 (by omega) (hs _ (Za1 hx)),Zaa]
    simp only
    rw [AH (by simp; omega),Zaa,wN i (by omega)]
    have hL':SZ (full.length-(i+1)) (BT s full[i]).1:=SZ.step (by rw [show full.length-(i+1)+1=full.length-i by omega]; exact hL) _
    rw [Agd full hs hl n (i+1) _ _ (by omega) (by omega) hL' (by simp [he]),hd]
    simp [Ek]
  · have hd:full.drop i=[]:=by simp; omega
    rw [show decide ((i:Int)<(full.length:Int))=false by simp; omega,hd]
    simp [Ek]
theorem ApJ {n:Nat} {lines:List ByteArray} (hs:∀ t∈lines,t.size≤1000000) (hl:lines.length≤150) (hn:1600≤n):Je n lines=some (Aj.mk (Ek Bf lines).1,((Ek Bf lines).2,())):=by
 unfold Je
 have h:=Agd lines hs hl n 0 Bf [] (by omega) (by omega) (Ta.less (by omega)) rfl
 rw [show((0:Nat):Int)=0 from rfl,Zar,Zav] at h
 show(E1 n (Aj.mk Bf) [] lines (lines.length:Int) 0).bind _=_
 rw [h]; rfl
theorem AsF {n:Nat} {lines:List ByteArray} (hbig:lines.length≤4000000000000000000) (hn:lines.length<n):∃ b,P9 n lines=some (b,()):=by
 have H:∀ (n i:Nat)(z:Int),lines.length-i<n→i≤lines.length→∃ z',I5 n lines z (i:Int)=some (lines,(z',())):=by
  intro n
  induction n with
  | zero=>intro i z h; exact absurd h (Zam _)
  | succ n ih =>
   intro i z h hi
   rw [I5]
   by_cases hx:i<lines.length
   · rw [show decide ((i:Int)<(lines.length:Int))=true by simp; omega,Zab,BS hx,Zaa,wN i (by omega)]
     exact ih (i+1) _ (by omega) (by omega)
   · rw [show decide ((i:Int)<(lines.length:Int))=false by simp; omega,Zad]
     exact⟨z,rfl⟩
 obtain⟨z,hz⟩:=H n 0 0 (by omega) (by omega)
 rw [show((0:Nat):Int)=0 from rfl] at hz
 unfold P9
 rw [hz]
 simp only [Zaa]
 generalize decide ((lines.length:Int)≤30)=b1
 generalize decide ((lines.length:Int)≤52)=b2
 generalize decide ((lines.length:Int)=1)=b3
 generalize decide (z≤1200)=b4
 generalize decide (z≤400)=b5
 cases b1 <;> cases b2 <;> cases b3 <;> cases b4 <;> cases b5 <;> exact⟨_,rfl⟩
def Tb (s:An):List ByteArray→List ByteArray
 | []=>[]
 | t::r=>if (BT s t).2=0 then t::Tb (BT s t).1 r else Tb (BT s t).1 r
theorem Aa5:∀ (l:List ByteArray)(s:An),∀ t∈Tb s l,t∈l
 | [],_,t,h=>by cases h
 | a::l,s,t,h=>by
  unfold Tb at h
  split at h
  · rcases Zak.1 h with rfl | h
    · simp
    · exact ZaS _ (Aa5 l _ t h)
  · exact ZaS _ (Aa5 l _ t h)
theorem On (full:List ByteArray) (hs:∀ t∈full,t.size≤1000000) (hl:full.length≤100):∀ (n i:Nat)(s:An)(out:List ByteArray),1400+(full.length-i)<n→i≤full.length→SZ (full.length-i) s→out.length≤1000+i→∃ s',CP n out (Aj.mk s) full (full.length:Int) (i:Int)=some (s',(out++Tb s (full.drop i),()))
 | 0,_,_,_,h,_,_,_=>absurd h (Zam _)
 | n+1,i,s,out,h,hi,hL,ho=>by
  rw [CP]
  by_cases hx:i<full.length
  · have hd:full.drop i=full[i]::full.drop (i+1):=Zaj hx
    rw [show decide ((i:Int)<(full.length:Int))=true by simp; omega,Zab,BS hx,Zaa,Amc hL.1 (by omega) (hs _ (Za1 hx)),Zaa]
    simp only
    rw [wN i (by omega),hd]
    have hL':SZ (full.length-(i+1)) (BT s full[i]).1:=SZ.step (by rw [show full.length-(i+1)+1=full.length-i by omega]; exact hL) _
    simp only [Tb]
    by_cases h0:(BT s full[i]).2=0
    · rw [Zaf h0,Zab,if_pos h0,AH (by simp; omega),Zaa]
      obtain⟨s',e⟩:=On full hs hl n (i+1) _ (out++[full[i]]) (by omega) (by omega) hL' (by simp; omega)
      exact⟨s',by rw [e]; simp⟩
    · rw [Zae h0,Zad,if_neg h0]
      exact On full hs hl n (i+1) _ out (by omega) (by omega) hL' (by omega)
  · have hd:full.drop i=[]:=by simp; omega
    rw [show decide ((i:Int)<(full.length:Int))=false by simp; omega,hd]
    exact⟨_,by simp [Tb]; rfl⟩
theorem Rd.sizes:∀ {k i:Nat} {b:List UInt8} {r:List (List UInt8)},Rd k i b r→∀ l∈r,l.length≤200
 | _,_,_,_,.full _ _,l,h=>by cases h
 | _,_,_,_,.stop _,l,h=>by cases h
 | _,_,_,_,.more hf hr,l,h=>by
  rcases Zak.1 h with rfl | h
  · exact hf.1
  · exact hr.sizes l h
theorem Rd.le':∀ {k i:Nat} {b:List UInt8} {r:List (List UInt8)},Rd k i b r→r.length≤k
 | _,_,_,_,.full _ _=>by simp
 | _,_,_,_,.stop _=>by simp
 | _,_,_,_,.more _ h=>by have:=h.le'; simp; omega
theorem AqO {n:Nat} {b:List UInt8} {r:List (List UInt8)} {more:List ByteArray} (hb:b.length≤1000000) (hR:Rd 50 0 b r) (hm:SS more=true) (hn:1700≤n) (h50:(r.map B7++Tb (Ek Bf (r.map B7)).1 more).length≤50) :
  CG n (bL b) more=some (bL (Ei 0 (Aiw (r.map B7++Tb (Ek Bf (r.map B7)).1 more))),(0,())):=by
 obtain⟨m1,m2⟩:=Y7.1 hm
 have hsz:∀ t∈r.map B7,t.size≤200:=fun t ht=>by
  obtain⟨l,hl,rfl⟩:=ZaR.1 ht
  rw [BN]; exact hR.sizes l hl
 have hle:=hR.le'
 unfold CG
 rw [AfL (by omega) (by omega),hm,Zaa]
 simp only [Zab]
 rw [show((0:Int) != 0)=false from rfl,Zad,AfO hb (by omega) hR,Zaa]
 simp only
 rw [ApJ (fun t ht=>ZaO (hsz t ht) (by decide)) (by rw [ZaH]; omega) (by omega),Zaa]
 simp only
 have hL:SZ (more.length-0) (Ek Bf (r.map B7)).1:=YC _ _ _ (Ta.less (by rw [ZaH]; omega))
 obtain⟨s',e⟩:=On more (fun t ht=>ZaO (m2 t ht) (by decide)) (by omega) n 0 _ (r.map B7) (by omega) (by omega) hL (by rw [ZaH]; omega)
 rw [show((0:Nat):Int)=0 from rfl,Zar] at e
 rw [e,Zaa]
 simp only
 rw [show decide ((((r.map B7++Tb (Ek Bf (r.map B7)).1 more).length:Nat):Int)>50)=false from Zae (by omega),Zad,AnR (fun t ht=>by
  rcases Zal.1 ht with ht | ht
  · exact hsz t ht
  · exact m2 t (Aa5 _ _ t ht)) (by omega) (by omega)]
 rfl
theorem Age (c:UInt8):∀ (p:List UInt8),(∀ b∈p,b≠c)→Fj c p=[p]
 | [],_=>rfl
 | b::p,h=>by
  conv=>lhs; unfold Fj
  have hb:(b == c)=false:=by simpa using h b (by simp)
  rw [hb,Zad,Age c p fun x hx=>h x (by simp [hx])]
theorem Agf (c:UInt8) (q:List UInt8):∀ (p:List UInt8),(∀ b∈p,b≠c)→Fj c (p++c::q)=p::Fj c q
 | [],_=>by simp [Fj]
 | b::p,h=>by
  rw [ZaZ]
  conv=>lhs; unfold Fj
  have hb:(b == c)=false:=by simpa using h b (by simp)
  rw [hb,Zad,Agf c q p fun x hx=>h x (by simp [hx])]
theorem Vo (l:List UInt8) (hl:l.length≤1000000):∀ (n i fr:Nat)(out:List ByteArray),l.length+1-i<n→i≤l.length→fr≤i→out.length≤i→(∀ b∈(l.drop fr).take (i-fr),b≠32)→D3 n (B7 l) out (fr:Int) (i:Int)=some (out++(Fj 32 (l.drop fr)).map B7,())
 | 0,_,_,_,h,_,_,_,_=>absurd h (Zam _)
 | n+1,i,fr,out,h,hi,hf,ho,hb=>by
  rw [D3,BN,show decide ((i:Int)≤(l.length:Int))=true from Zaf (by omega),Zab]
  have hsub:Ki (B7 l) (fr:Int) (i:Int)=some (B7 ((l.drop fr).take (i-fr))):=Acn hf hi
  by_cases hx:i=l.length
  · rw [show decide ((i:Int)=(l.length:Int))=true from Zaf (by omega),ZaB,Zad,hsub,Zaa,AH (by simp; omega),Zaa,wN i (by omega)]
    have ht:(l.drop fr).take (i-fr)=l.drop fr:=ZaL (by rw [ZaG]; omega)
    rw [ht] at hb ⊢
    rw [Age 32 _ hb]
    obtain⟨m,rfl⟩:∃ m,n=m+1:=⟨n-1,by omega⟩
    rw [D3,BN,show decide (((i+1:Nat):Int)≤(l.length:Int))=false from Zae (by omega)]
    rfl
  · have hlt:i<l.length:=by omega
    rw [show decide ((i:Int)=(l.length:Int))=false from Zae (by omega),Za4,Zab,RL hlt,Zaa,wN i (by omega)]
    have hd:l.drop fr=(l.drop fr).take (i-fr)++l[i]::l.drop (i+1):=by
     conv=>lhs; rw [← Zbb (i-fr) (l.drop fr)]
     rw [Zbg,show fr+(i-fr)=i by omega,Zaj hlt]
    by_cases h32:l[i]=32
    · rw [show decide (((l[i].toNat:Nat):Int)=32)=true by rw [h32]; rfl,Zab,hsub,Zaa,AH (by simp; omega),Zaa]
      rw [Vo l hl n (i+1) (i+1) _ (by omega) (by omega) (by omega) (by simp; omega) (by simp)]
      conv=>rhs; rw [hd,h32,Agf 32 _ _ hb]
      simp
    · have hne : ¬ (((l[i].toNat:Nat):Int)=32):=fun h=>h32 (UInt8.toNat_inj.1 (by show l[i].toNat=32; omega))
      rw [Zae hne,Zad]
      refine Vo l hl n (i+1) fr out (by omega) (by omega) (by omega) (by omega) ?_
      intro b hb'
      have:(l.drop fr).take (i+1-fr)=(l.drop fr).take (i-fr)++[l[i]]:=by
       rw [show i+1-fr=(i-fr)+1 by omega,ZaK (by rw [ZaG]; omega)]
       simp [show fr+(i-fr)=i by omega]
      rw [this] at hb'
      rcases Zal.1 hb' with hb' | hb'
      · exact hb b hb'
      · rw [Zaz.1 hb']; exact h32
theorem AsG {n:Nat} {s:ByteArray} (hs:s.size≤1000000) (hn:s.size+2≤n):Ua n s=some (C8 s,()):=by
 have hl:s.data.toList.length≤1000000:=by rw [← Ih]; exact hs
 have h:=Vo s.data.toList hl n 0 0 [] (by rw [← Ih]; omega) (by omega) (by omega) (by simp) (by simp)
 rw [Nx,show((0:Nat):Int)=0 from rfl,Zar,Zav] at h
 unfold Ua
 rw [h]; rfl
theorem AdN (l:List UInt8) (hl:l.length≤9) (minus:Bool):∀ (n i a:Nat),l.length-i<n→i≤l.length→a<10 ^ i→Bl n minus (B7 l) (a:Int) (i:Int)=some (match Aco (a:Int) (l.drop i) with | some v=>.inl (minus,(v,())) | none=>.inr (0,(false,())))
 | 0,_,_,h,_,_=>absurd h (Zam _)
 | n+1,i,a,h,hi,ha=>by
  rw [Bl,BN]
  by_cases hx:i<l.length
  · have hd:l.drop i=l[i]::l.drop (i+1):=Zaj hx
    have h9:10 ^ i≤10 ^ 9:=Zbk (by decide) (by omega)
    have h8:=l[i].toNat_lt
    rw [show decide ((i:Int)<(l.length:Int))=true from Zaf (by omega),Zab,RL hx,Zaa,hd]
    unfold Aco
    simp only [Zaa]
    by_cases h48:l[i].toNat<48
    · rw [show decide (((l[i].toNat:Nat):Int)<48)=true from Zaf (by omega),SU.2 h48]; rfl
    · rw [show decide (((l[i].toNat:Nat):Int)<48)=false from Zae (by omega),NA.2 (by omega)]
      by_cases h57:57<l[i].toNat
      · rw [show decide (((l[i].toNat:Nat):Int)>57)=true from Zaf (by omega),SU.2 h57]; rfl
      · rw [show decide (((l[i].toNat:Nat):Int)>57)=false from Zae (by omega),NA.2 (by omega)]
        simp only [Za4,Zab,Zad,Bool.or_self]
        have e1:IntKind.i64.wrap (IntKind.i64.wrap (10*(a:Int))+IntKind.i64.wrap (IntKind.u8.wrap (((l[i].toNat:Nat):Int)-48)))=((10*a+(l[i].toNat-48):Nat):Int):=by
         rw [Ap6 (by omega) (by omega),Bv (x:=10*(a:Int)) (by omega) (by omega),Bv (x:=((l[i].toNat:Nat):Int)-48) (by omega) (by omega),Bv (by omega) (by omega)]
         omega
        rw [e1,wN i (by omega),AdN l hl minus n (i+1) _ (by omega) (by omega) (by rw [Zbq]; omega)]
        rw [show((10*a+(l[i].toNat-48):Nat):Int)=10*(a:Int)+((l[i].toNat:Int)-48) by omega]
  · have hd:l.drop i=[]:=by simp; omega
    rw [show decide ((i:Int)<(l.length:Int))=false from Zae (by omega),hd]
    rfl
theorem Ajv:∀ {l:List UInt8} {i a:Nat} {v:Int},a<10 ^ i→Aco (a:Int) l=some v→0≤v∧v<10 ^ (i+l.length)
 | [],i,a,v,ha,h=>by
  have:(a:Int)=v:=Option.some.inj h
  subst this
  exact⟨by omega,by exact_mod_cast ha⟩
 | b::r,i,a,v,ha,h=>by
  unfold Aco at h
  cases hb:(Nat.blt b.toNat 48 || Nat.blt 57 b.toNat) with
  | true=>rw [hb] at h; cases h
  | false =>
   rw [hb,Zad] at h
   obtain⟨h1,h2⟩:=Zbl.1 hb
   rw [NA] at h1 h2
   rw [show 10*(a:Int)+((b.toNat:Int)-48)=((10*a+(b.toNat-48):Nat):Int) by omega] at h
   have:=Ajv (i:=i+1) (by rw [Zbq]; omega) h
   rwa [show i+1+r.length=i+(b::r).length by simp; omega] at this
def Acq (o:Option Int):Int×Bool×Unit:=match o with | some v=>(v,true,()) | none=>(0,false,())
theorem Aom {n:Nat} (minus:Bool) {d:List UInt8} (hd:d.length≤9) (hn:10<n) :
  ((Bl n minus (B7 d) 0 0).bind fun v3 =>
    Sum.elim (fun v4=>bif v4.fst then(some (IntKind.i64.wrap (0-v4.snd.fst),(true,()))) else
    some (v4.snd.fst,(true,()))) (fun v4=>some (v4.fst,(v4.snd.fst,()))) (v3))=some (Acq ((Aco 0 d).map fun v=>bif minus then -v else v)):=by
 have h:=AdN d hd minus n 0 0 (by omega) (by omega) (by simp)
 rw [show((0:Nat):Int)=0 from rfl,Zar] at h
 rw [h,Zaa]
 cases hv:Aco 0 d with
 | none=>rfl
 | some v =>
  have hb:=Ajv (i:=0) (a:=0) (by simp) hv
  have h10:(10:Int) ^ (0+d.length)≤10 ^ 9:=by
   have:(10:Nat) ^ (0+d.length)≤10 ^ 9:=Zbk (by decide) (by omega)
   exact_mod_cast this
  cases minus with
  | false=>rfl
  | true =>
   simp only [Za3,Zab,Option.map_some]
   rw [Bv (x:=0-v) (by omega) (by omega)]
   simp [Acq]
theorem Ajw {n:Nat} (minus:Bool) (d:List UInt8) (hn:10<n) :
  (bif !decide ((↑(B7 d).size:Int)=0) then(bif !decide ((↑(B7 d).size:Int)>9) then((NX (B7 d) 0).bind fun v2 =>
  bif decide (v2.n=48) then(bif !decide ((↑(B7 d).size:Int)>1) then(bif minus then(some (0,(false,()))) else
  (Bl n minus (B7 d) 0 0).bind fun v3 =>
  Sum.elim (fun v4=>bif v4.fst then(some (IntKind.i64.wrap (0-v4.snd.fst),(true,()))) else
  some (v4.snd.fst,(true,()))) (fun v4=>some (v4.fst,(v4.snd.fst,()))) (v3)) else
  some (0,(false,()))) else
  (Bl n minus (B7 d) 0 0).bind fun v3 =>
  Sum.elim (fun v4=>bif v4.fst then(some (IntKind.i64.wrap (0-v4.snd.fst),(true,()))) else
  some (v4.snd.fst,(true,()))) (fun v4=>some (v4.fst,(v4.snd.fst,()))) (v3)) else
  some (0,(false,()))) else
  some (0,(false,())))=some (Acq (match d with
 | []=>none
 | b::r=>bif Nat.blt 9 d.length || (b.toNat == 48 && (Nat.blt 1 d.length || minus)) then none else(Aco 0 d).map fun n=>bif minus then -n else n)):=by
 rcases d with _ | ⟨b,r⟩
 · rfl
 · rw [BN,show decide ((((b::r).length:Nat):Int)=0)=false from Zae (by simp; omega)]
   by_cases h9:9<(b::r).length
   · rw [show decide ((((b::r).length:Nat):Int)>9)=true from Zaf (by omega),SU.2 h9]; rfl
   · rw [show decide ((((b::r).length:Nat):Int)>9)=false from Zae (by omega),NA.2 (by omega)]
     have ht:=Aom (n:=n) minus (d:=b::r) (by omega) hn
     have hz:=RL (l:=b::r) (i:=0) (by simp)
     rw [show((0:Nat):Int)=0 from rfl] at hz
     rw [hz,Zaa]
     simp only [Za4,Zab,List.getElem_cons_zero,Bool.false_or]
     by_cases h48:b.toNat=48
     · rw [show decide (((b.toNat:Nat):Int)=48)=true from Zaf (by omega),show(b.toNat == 48)=true by simpa using h48]
       by_cases h1:1<(b::r).length
       · rw [show decide ((((b::r).length:Nat):Int)>1)=true from Zaf (by omega),SU.2 h1]; rfl
       · rw [show decide ((((b::r).length:Nat):Int)>1)=false from Zae (by omega),NA.2 (by omega)]
         cases minus with
         | true=>rfl
         | false=>simp only [Za4,Zab,Zad,ZaJ,Bool.false_or]; exact ht
     · rw [show decide (((b.toNat:Nat):Int)=48)=false from Zae (by omega),show(b.toNat == 48)=false by simpa using h48]
       simp only [Zad,Bool.false_and]
       exact ht
theorem AsH {n:Nat} (s:ByteArray) (hn:10<n):Uc n s=some (Acq (OT s.data.toList)):=by
 obtain⟨l,rfl⟩:∃ l,s=B7 l:=⟨s.data.toList,(Nx s).symm⟩
 show _=some (Acq (OT l))
 unfold Uc
 rcases l with _ | ⟨b,r⟩
 · rfl
 · have hp:decide (((((B7 (b::r)).size:Nat)):Int)>0)=true:=Zaf (by rw [BN]; simp)
   have hz:=RL (l:=b::r) (i:=0) (by simp)
   rw [show((0:Nat):Int)=0 from rfl] at hz
   rw [hp,Zab,hz,Zaa]
   simp only [List.getElem_cons_zero]
   by_cases h45:b.toNat=45
   · have he:decide (((b.toNat:Nat):Int)=45)=true:=Zaf (by omega)
     have hs:Ki (B7 (b::r)) 1 ((B7 (b::r)).size:Int)=some (B7 r):=by
      have:=Acn (l:=b::r) (a:=1) (b:=(b::r).length) (by simp) (by omega)
      rw [BN]
      simpa using this
     rw [he,Zab,hs,Zaa,Ajw true r hn]
     have hb:(b.toNat == 45)=true:=by simpa using h45
     unfold OT
     simp only [hb,Zab,Zb3,Zar]
     cases r <;> rfl
   · have he:decide (((b.toNat:Nat):Int)=45)=false:=Zae (by omega)
     have hm:=Ajw false (b::r) hn
     rw [hz] at hm
     simp only [List.getElem_cons_zero] at hm
     rw [he,Zad,hm]
     have hb:(b.toNat == 45)=false:=by simpa using h45
     unfold OT
     simp only [hb,Zad]
theorem Bx {a b:ByteArray} (h:a≠b):a.beq b=false:=by
 cases hb:a.beq b with
 | false=>rfl
 | true =>
  have h2:(a.data == b.data)=true:=hb
  exact absurd (ByteArray.ext (eq_of_beq h2)) h
theorem BI {β:Type} {a k:ByteArray} {v:β} {l:List (ByteArray×β)} (h:k≠a):En Fi ((a,v)::l) k=En Fi l k:=by
 have:Fi a k=false:=by
  cases hb:Fi a k with
  | false=>rfl
  | true=>exact absurd ((Vl a k).1 hb).symm h
 conv=>lhs; unfold En
 simp only [this,Zad]
theorem AuM (n:Nat) (w:ByteArray):Xm n w=some ((match En Fi Em w with | some x=>x.many | none=>0),()):=by
 by_cases h1:w=B [102,111,117,110,100]
 · subst h1; kernel_rfl
 by_cases h2:w=B [104,101,108,100]
 · subst h2; kernel_rfl
 by_cases h3:w=B [115,105,103,110,101,100]
 · subst h3; kernel_rfl
 by_cases h4:w=B [99,104,101,99,107,101,100]
 · subst h4; kernel_rfl
 by_cases h5:w=B [111,117,116]
 · subst h5; kernel_rfl
 by_cases h6:w=B [105,110]
 · subst h6; kernel_rfl
 by_cases h7:w=B [115,97,108,101]
 · subst h7; kernel_rfl
 by_cases h8:w=B [115,121,110,99]
 · subst h8; kernel_rfl
 by_cases h9:w=B [99,108,111,115,101]
 · subst h9; kernel_rfl
 by_cases h10:w=B [100,114,105,118,101,114]
 · subst h10; kernel_rfl
 by_cases h11:w=B [100,117,116,121]
 · subst h11; kernel_rfl
 by_cases h12:w=B [103,105,118,101]
 · subst h12; kernel_rfl
 have hm:En Fi Em w=none:=by
  unfold Em
  rw [BI h1,BI h2,BI h3,BI h4,BI h5,BI h6,BI h7,BI h8,BI h9,BI h10,BI h11,BI h12]
  rfl
 rw [hm]
 unfold Xm
 simp only [Bx h1,Bx h2,Bx h3,Bx h4,Bx h5,Bx h6,Bx h7,Bx h8,Bx h9,Bx h10,Bx h11,Bx h12,Zad]
theorem AdO (full:List ByteArray) (k:Nat) (hk:full.length=k+1) (h6:k≤5):∀ (n i:Nat)(l:List Int),full.length+11-i<n→i≤full.length→l.length≤i→JN n full (k:Int) l (i:Int)=some (match J9 (full.drop i) with | some vs=>.inl (full,l++vs,()) | none=>.inr (B [],[],false,()))
 | 0,_,_,h,_,_=>absurd h (Zam _)
 | n+1,i,l,h,hi,hl=>by
  rw [JN]
  by_cases hx:i<full.length
  · have hd:full.drop i=full[i]::full.drop (i+1):=Zaj hx
    rw [show decide ((i:Int)≤(k:Int))=true from Zaf (by omega),Zab,BS hx,Zaa,AsH _ (by omega),Zaa,hd,wN i (by omega)]
    unfold J9
    rw [show OT full[i].data.toList=Aoj full[i] from rfl]
    cases hv:Aoj full[i] with
    | none=>rfl
    | some v =>
     simp only [Acq,ZaB,Zad]
     rw [AH (by simp; omega),Zaa,AdO full k hk h6 n (i+1) (l++[v]) (by omega) (by omega) (by simp; omega)]
     cases J9 (full.drop (i+1)) with
     | none=>rfl
     | some vs=>simp
  · have hd:full.drop i=[]:=by simp; omega
    rw [show decide ((i:Int)≤(k:Int))=false from Zae (by omega),hd]
    simp [J9]
def YD (text:ByteArray):Option (ByteArray×List Int) :=
 match C8 text with
 | []=>none
 | p::r=>match En Fi Em p with
  | none=>none
  | some x=>if ((r.length+1:Nat):Int)=x.many+1 then(J9 r).map fun vs=>(p,vs) else none
def Ak4 (o:Option (ByteArray×List Int)):ByteArray×List Int×Bool×Unit:=match o with | some p=>(p.1,p.2,true,()) | none=>(B [],[],false,())
theorem Agg {n:Nat} {s:ByteArray} (hs:s.size≤1000000) (hn:s.size+30≤n):MT n s=some (Ak4 (YD s)):=by
 unfold MT
 rw [AsG hs (by omega),Zaa]
 unfold YD
 cases hp:C8 s with
 | nil=>exact absurd (Zb4.1 hp) (ML _ _)
 | cons p r =>
  simp only
  have h0:A3 (p::r) 0=some p:=rfl
  rw [h0,Zaa,AuM,Zaa]
  cases hw:En Fi Em p with
  | none=>rfl
  | some x =>
   obtain⟨h2,h5,_,_⟩:=YB hw
   simp only
   rw [Zae (show ¬ x.many=0 by omega),Za4,Zab,Bv (x:=x.many+1) (by omega) (by omega)]
   by_cases hl:((r.length+1:Nat):Int)=x.many+1
   · rw [if_pos hl,show((((p::r).length:Nat):Int) != x.many+1)=false by simpa using hl,Zad]
     have:=AdO (p::r) r.length (by simp) (by omega) n 1 [] (by simp; omega) (by simp) (by simp)
     rw [show((1:Nat):Int)=1 from rfl,show(r.length:Int)=x.many by omega] at this
     rw [this,Zaa,Zb3,Zar]
     cases J9 r with
     | none=>rfl
     | some vs=>rfl
   · rw [if_neg hl,show((((p::r).length:Nat):Int) != x.many+1)=true by simpa using hl,Zab]; rfl
theorem Amd {t:ByteArray} {f:Int} {l:List Int} (h:DB t=some (f,l)):∃ p r x vs,C8 t=p::r∧En Fi Em p=some x∧((r.length+1:Nat):Int)=x.many+1∧J9 r=some vs∧f=x.do_.f∧l=vs++List.replicate (5-vs.length) 0:=by
 cases hp:C8 t with
 | nil=>unfold C8 at hp; exact absurd (Zb4.1 hp) (ML 32 _)
 | cons p r =>
  rw [Il hp] at h
  cases hw:En Fi Em p with
  | none=>rw [hw] at h; cases h
  | some x =>
   rw [hw] at h
   simp only at h
   by_cases hl:((r.length+1:Nat):Int)=x.many+1
   · rw [if_pos hl] at h
     cases hv:J9 r with
     | none=>rw [hv] at h; cases h
     | some vs =>
      rw [hv] at h
      cases h
      exact⟨p,r,x,vs,rfl,hw,hl,hv,rfl,rfl⟩
   · rw [if_neg hl] at h; cases h
theorem Ajx {s:An} {t:ByteArray} (h:(BT s t).2=0):∃ y,DB t=some y∧(BL s y.1 y.2).2=0∧(BT s t).1=(BL s y.1 y.2).1:=by
 unfold BT at h ⊢
 cases hp:DB t with
 | none=>rw [hp] at h; cases h
 | some y =>
  obtain⟨f,l⟩:=y
  rw [hp] at h
  simp only at h ⊢
  by_cases h0:(BL s f l).2=0
  · rw [if_pos h0]; exact⟨_,rfl,h0,rfl⟩
  · rw [if_neg h0] at h; exact absurd h h0
def ApK (t:ByteArray):Bool:=match DB t with
 | some (f,_)=>decide (f≤192)
 | none=>false
theorem AqP {p:ByteArray} {x:FX} (h:En Fi Em p=some x):(p=B [102,111,117,110,100]∧x.do_.f=189∧x.many=4)∨(p=B [104,101,108,100]∧x.do_.f=190∧x.many=4)∨(p=B [115,105,103,110,101,100]∧x.do_.f=191∧x.many=4)∨(p=B [99,104,101,99,107,101,100]∧x.do_.f=192∧x.many=3)∨(p≠B [102,111,117,110,100]∧p≠B [104,101,108,100]∧p≠B [115,105,103,110,101,100]∧p≠B [99,104,101,99,107,101,100]∧¬ x.do_.f≤192):=by
 have:=RP Fi (fun a b h=>(Vl a b).1 h) _ _ _ h
 simp only [Em,Zak,Prod.mk.injEq,List.not_mem_nil,or_false] at this
 rcases this with⟨rfl,rfl⟩ | ⟨rfl,rfl⟩ | ⟨rfl,rfl⟩ | ⟨rfl,rfl⟩ | ⟨rfl,rfl⟩ | ⟨rfl,rfl⟩ | ⟨rfl,rfl⟩ | ⟨rfl,rfl⟩ | ⟨rfl,rfl⟩ | ⟨rfl,rfl⟩ | ⟨rfl,rfl⟩ | ⟨rfl,rfl⟩ <;> first | exact .inl ⟨rfl,rfl,rfl⟩ | exact .inr (.inl ⟨rfl,rfl,rfl⟩) | exact .inr (.inr (.inl ⟨rfl,rfl,rfl⟩)) | exact .inr (.inr (.inr (.inl ⟨rfl,rfl,rfl⟩))) | exact .inr (.inr (.inr (.inr ⟨by decide,by decide,by decide,by decide,by decide⟩)))
theorem AqQ (t:ByteArray):(YD t=none∧DB t=none)∨∃ p x vs,YD t=some (p,vs)∧En Fi Em p=some x∧(vs.length:Int)=x.many∧DB t=some (x.do_.f,vs++List.replicate (5-vs.length) 0):=by
 unfold YD
 cases hp:C8 t with
 | nil=>unfold C8 at hp; exact absurd (Zb4.1 hp) (ML 32 _)
 | cons p r =>
  rw [Il hp]
  simp only
  cases hw:En Fi Em p with
  | none=>exact .inl ⟨rfl,rfl⟩
  | some x =>
   simp only
   by_cases hl:((r.length+1:Nat):Int)=x.many+1
   · rw [if_pos hl,if_pos hl]
     cases hv:J9 r with
     | none=>exact .inl ⟨rfl,rfl⟩
     | some vs =>
      have:=OM hv
      exact .inr ⟨p,x,vs,rfl,hw,by omega,rfl⟩
   · rw [if_neg hl,if_neg hl]; exact .inl ⟨rfl,rfl⟩
theorem Ame {α β:Type} (q:α→α→Bool):∀ (m:List (α×β))(k:α)(v:β)(p:α×β),p∈JA q m k v→p∈m∨p=(k,v)
 | [],k,v,p,h=>.inr (Zaz.1 h)
 | x::r,k,v,p,h=>by
  unfold JA at h
  cases hq:q x.1 k with
  | true =>
   rw [hq,Zab] at h
   rcases Zak.1 h with h | h
   · exact .inr h
   · exact .inl (ZaS _ h)
  | false =>
   rw [hq,Zad] at h
   rcases Zak.1 h with h | h
   · exact .inl (by rw [h]; simp)
   · rcases Ame q r k v p h with h | h
     · exact .inl (ZaS _ h)
     · exact .inr h
theorem Agh:∀ (l:List A1)(m:List (Int×A1))(o:List Int)(m':List (Int×A1))(o':List Int),AnN m o l=some (m',o')→(∀ k c,En Ce m k=some c→En Ce m' k=some c)∧(∀ c∈l,En Ce m' c.number=some c)∧(∀ p∈m',p∈m∨p.2∈l)∧(∀ v∈o',v∈o∨∃ c∈l,c.number=v)∧(∀ v∈o,v∈o')∧(∀ c∈l,Dl Ce m c.number=false→c.number∈o')
 | [],m,o,m',o',h=>by
  cases h
  exact⟨fun _ _ h=>h,by simp,fun p hp=>.inl hp,fun v hv=>.inl hv,fun _ h=>h,by simp⟩
 | x::l,m,o,m',o',h=>by
  unfold AnN at h
  cases hm:Dl Ce m x.number with
  | true =>
   rw [hm,Zab] at h
   cases hs:Ej (AV Ce m x.number zC) x with
   | false=>rw [hs] at h; cases h
   | true =>
    rw [hs,Zab] at h
    obtain⟨a,b,c,d,e,f⟩:=Agh l m o m' o' h
    have hx:En Ce m x.number=some x:=by
     have h1:=RM.1 hs
     unfold Dl at hm
     unfold AV at h1
     cases hg:En Ce m x.number with
     | none=>rw [hg] at hm; cases hm
     | some y=>rw [hg] at h1; exact congrArg some h1
    refine⟨a,fun z hz=>?_,fun p hp=>(c p hp).imp id fun h=>ZaS _ h,fun v hv=>(d v hv).imp id fun⟨z,h1,h2⟩=>⟨z,ZaS _ h1,h2⟩,e,fun z hz hn=>?_⟩
    · rcases Zak.1 hz with rfl | hz
      · exact a _ _ hx
      · exact b z hz
    · rcases Zak.1 hz with rfl | hz
      · rw [hm] at hn; cases hn
      · exact f z hz hn
  | false =>
   rw [hm,Zad] at h
   obtain⟨a,b,c,d,e,f⟩:=Agh l _ _ m' o' h
   have hx:En Ce m' x.number=some x:=a _ _ (by rw [K1 RO,if_pos rfl])
   have hmo:x.number∈o':=e _ (by simp)
   refine⟨fun k y hy=>a _ _ ?_,fun z hz=>?_,fun p hp=>?_,fun v hv=>?_,fun v hv=>e v (ZaM _ hv),fun z hz hn=>?_⟩
   · rw [K1 RO,if_neg ?_]
     · exact hy
     · rintro rfl
       unfold Dl at hm; rw [hy] at hm; cases hm
   · rcases Zak.1 hz with rfl | hz
     · exact hx
     · exact b z hz
   · rcases c p hp with h | h
     · rcases Ame _ _ _ _ _ h with h | h
       · exact .inl h
       · exact .inr (by rw [h]; simp)
     · exact .inr (ZaS _ h)
   · rcases d v hv with h | ⟨z,h1,h2⟩
     · rcases Zal.1 h with h | h
       · exact .inl h
       · exact .inr ⟨x,by simp,(Zaz.1 h).symm⟩
     · exact .inr ⟨z,ZaS _ h1,h2⟩
   · rcases Zak.1 hz with rfl | hz
     · exact hmo
     · by_cases hk:z.number=x.number
       · rw [hk]; exact hmo
       · refine f z hz ?_
         cases hb:Dl Ce (JA Ce m x.number x) z.number with
         | false=>rfl
         | true =>
          rcases(WY RO _ _ _ _).1 hb with h | h
          · exact absurd h.symm hk
          · rw [hn] at h; cases h
theorem Ajy {l:List A1} {y:List (Int×A1)×List Int} (h:Mq l=.inr y):(∀ c∈l,En Ce y.1 c.number=some c)∧(∀ p∈y.1,p.2∈l)∧(∀ v,v∈y.2↔∃ c∈l,c.number=v):=by
 obtain⟨_,_,o,h1,h2⟩:=WX h
 obtain⟨a,b,c,d,e,f⟩:=Agh l _ _ _ _ h1
 refine⟨b,fun p hp=>?_,fun v=>?_⟩
 · rcases c p hp with h | h
   · cases h
   · exact h
 · rw [h2,AlT]
   constructor
   · intro hv
     rcases d v hv with h | h
     · cases h
     · exact h
   · rintro⟨c,hc,rfl⟩
     exact f c hc rfl
def Amf (l:List A1) (bus at_:Int) (c:A1):Bool:=decide (c.bus=bus) && ((decide (c.kind.n=0) || decide (c.kind.n=1)) && (!decide (at_<c.minute) && l.all fun d=>!(decide (d.minute≤at_) && Yn d c)))
theorem Amg {l:List A1} {y:List (Int×A1)×List Int} (h:Mq l=.inr y) (c:A1) (at_:Int):Abp y.1 c at_=(!decide (at_<c.minute) && l.all fun d=>!(decide (d.minute≤at_) && Yn d c)):=by
 obtain⟨a,b,_⟩:=Ajy h
 unfold Abp
 congr 1
 rw [Bool.eq_iff_iff,ZaD,ZaD]
 constructor
 · intro hh d hd
   exact hh (d.number,d) (RP Ce (fun a b h=>(RO a b).1 h) _ _ _ (a d hd))
 · intro hh p hp
   exact hh p.2 (b p hp)
theorem AsI {l:List A1} {bus at_ x:Int} (h:AlG l=0) (hb:(Cp bus 0 99 && Cp at_ 0 1000000)=true):x∈(J7 l bus at_).1↔∃ c∈l,c.number=x∧Amf l bus at_ c=true:=by
 unfold AlG at h
 unfold J7
 cases hr:Mq l with
 | inl e=>rw [hr] at h; have:=RN hr; simp only at h; omega
 | inr y =>
  simp only
  rw [if_pos hb]
  obtain⟨a,b,c⟩:=Ajy hr
  unfold AvI
  simp only [ZaR,Zby]
  constructor
  · rintro⟨v,⟨hv,hq⟩,rfl⟩
    obtain⟨d,hd,rfl⟩:=(c v).1 hv
    have hg:AV Ce y.1 d.number zC=d:=by unfold AV; rw [a d hd]; rfl
    unfold AwF at hq
    rw [hg] at hq ⊢
    rw [Amg hr] at hq
    exact⟨d,hd,rfl,hq⟩
  · rintro⟨d,hd,rfl,hq⟩
    have hg:AV Ce y.1 d.number zC=d:=by unfold AV; rw [a d hd]; rfl
    refine⟨d.number,⟨(c _).2 ⟨d,hd,rfl⟩,?_⟩,by rw [hg]⟩
    unfold AwF
    rw [hg,Amg hr]
    exact hq
def Uo (f:Int):List Int→A1
 | [a,b,c,d,_]=>if f=189 then A1.mk a b c (IK.mk 0) d 0 else if f=190 then A1.mk a b c (IK.mk 1) d 0 else if f=191 then A1.mk a b c (IK.mk 2) 0 d else A1.mk a b c (IK.mk 3) 0 0
 | _=>zC
def Amh (t:ByteArray):A1:=match DB t with
 | some (f,l)=>if f≤192 then Uo f l else zC
 | none=>zC
theorem AuN {n:Nat} {t:ByteArray} (ht:t.size≤1000000) (hn:t.size+30≤n):Xo n t=some (Amh t,ApK t,()):=by
 unfold Xo
 rw [Agg ht hn,Zaa]
 unfold YD ApK Amh
 cases hp:C8 t with
 | nil=>unfold C8 at hp; exact absurd (Zb4.1 hp) (ML 32 _)
 | cons p r =>
  rw [Il hp]
  simp only
  cases hw:En Fi Em p with
  | none=>rfl
  | some x =>
   simp only
   by_cases hl:((r.length+1:Nat):Int)=x.many+1
   · rw [if_pos hl,if_pos hl]
     cases hv:J9 r with
     | none=>rfl
     | some vs =>
      have hlen:=OM hv
      simp only [Ak4,Option.map_some,ZaB,Zad]
      rcases AqP hw with⟨rfl,hf,hm⟩ | ⟨rfl,hf,hm⟩ | ⟨rfl,hf,hm⟩ | ⟨rfl,hf,hm⟩ | ⟨h1,h2,h3,h4,hf⟩
      · rw [hm] at hl
        obtain⟨a,b,c,d,rfl⟩:∃ a b c d,vs=[a,b,c,d]:=by
         rcases vs with _ | ⟨a,_ | ⟨b,_ | ⟨c,_ | ⟨d,_ | ⟨e,f⟩⟩⟩⟩⟩ <;> first | exact⟨_,_,_,_,rfl⟩ | (simp at hlen; omega)
        rw [hf]; rfl
      · rw [hm] at hl
        obtain⟨a,b,c,d,rfl⟩:∃ a b c d,vs=[a,b,c,d]:=by
         rcases vs with _ | ⟨a,_ | ⟨b,_ | ⟨c,_ | ⟨d,_ | ⟨e,f⟩⟩⟩⟩⟩ <;> first | exact⟨_,_,_,_,rfl⟩ | (simp at hlen; omega)
        rw [hf]; rfl
      · rw [hm] at hl
        obtain⟨a,b,c,d,rfl⟩:∃ a b c d,vs=[a,b,c,d]:=by
         rcases vs with _ | ⟨a,_ | ⟨b,_ | ⟨c,_ | ⟨d,_ | ⟨e,f⟩⟩⟩⟩⟩ <;> first | exact⟨_,_,_,_,rfl⟩ | (simp at hlen; omega)
        rw [hf]; rfl
      · rw [hm] at hl
        obtain⟨a,b,c,rfl⟩:∃ a b c,vs=[a,b,c]:=by
         rcases vs with _ | ⟨a,_ | ⟨b,_ | ⟨c,_ | ⟨d,e⟩⟩⟩⟩ <;> first | exact⟨_,_,_,rfl⟩ | (simp at hlen; omega)
        rw [hf]; rfl
      · rw [Bx h1,Bx h2,Bx h3,Bx h4,Zae hf,if_neg hf]; rfl
   · rw [if_neg hl,if_neg hl]; rfl
theorem Q8 {s:An} {c:A1} (h0:(Ik s c).2=0):(Ik s c).1={ s with cards:=s.cards++[c] }:=by
 unfold Ik at h0 ⊢
 split at h0
 · cases h0
 · rename_i h1
   rw [if_neg h1]
   split at h0
   · rename_i h2; rw [if_pos h2]
   · rename_i h2; exact absurd h0 h2
theorem AsJ {t:ByteArray} {f:Int} {l:List Int} (h:DB t=some (f,l)):189≤f∧f≤200∧l.length=5:=by
 obtain⟨p,r,x,vs,_,hw,hl,hv,rfl,rfl⟩:=Amd h
 obtain⟨m1,m2,f1,f2⟩:=YB hw
 have:=OM hv
 exact⟨f1,f2,by rw [Zat,List.length_replicate]; omega⟩
def UC (cur:Int) (s:Az):Prop:=-1≤s.day∧s.day≤cur∧0≤s.row∧s.row≤5∧0≤s.used∧s.used≤1440*(s.day+1)∧-20000≤s.free∧s.free≤20000
def Axu (a b:Az):Prop:=a.free≤b.free∧a.used≤b.used∧((a.day=b.day∧a.row≤b.row)∨a.day<b.day)
theorem Cd {d:AO} (h:KN d=true):0≤d.day∧d.day≤6∧0≤d.on∧d.on≤1439∧d.on≤d.off.lo∧d.off.lo≤d.off.hi∧d.off.hi≤d.on+1440:=by
 unfold KN at h
 simp only [Zaq,D8,decide_eq_true_eq] at h
 omega
theorem Agi {cur:Int} {s:Az} {d:AO} {e:Int} (hs:UC cur s) (hd:KN d=true) (hc:cur≤6) (hne:s.day≠d.day) (h1:d.on≤e) (h2:e≤d.on+1440):Mr s d e=Az.mk (d.day*1440+e) (if s.day=d.day-1 then s.row+1 else 1) (s.used+(e-d.on)) d.day:=by
 obtain⟨d1,d2,d3,d4,d5,d6,d7⟩:=Cd hd
 obtain⟨s1,s2,s3,s4,s5,s6,s7,s8⟩:=hs
 unfold Mr AeC
 rw [Zae hne,Zad,Bv (x:=d.day-1) (by omega) (by omega),Bv (x:=d.day*1440) (by omega) (by omega),Bv (x:=e-d.on) (by omega) (by omega),Bv (x:=d.day*1440+e) (by omega) (by omega),Bv (x:=s.used+(e-d.on)) (by omega) (by omega),Bv (x:=s.row+1) (by omega) (by omega),Bv (x:=0+1) (by omega) (by omega)]
 by_cases h:s.day=d.day-1
 · rw [show(s.day != d.day-1)=false by simp [h],Zad,if_pos h]
 · rw [show(s.day != d.day-1)=true by simp [h],Zab,if_neg h]; rfl
theorem AuO {w:Ax} {k i:Int} {d:AO} {s:Az} {j:Nat}:AfA w k i d s j=[]↔Ij w k d s j=true:=by
 unfold AfA
 cases Ij w k d s j <;> simp
theorem Agj {w:Ax} {k i:Int} {d:AO} {s:Az}:Rn w k i d s=[]↔Ij w k d s 0=true∧Ij w k d s 1=true∧Ij w k d s 2=true∧Ij w k d s 3=true∧Ij w k d s 4=true:=by
 unfold Rn
 simp only [Zbs,AuO]
theorem Ajz {w:Ax} {k cur:Int} {s:Az} {d:AO} (hw:wkOk w) (hs:UC cur s) (hd:KN d=true) (hc:cur≤6):(Ij w k d s 1=true∧Ij w k d s 2=true∧Ij w k d s 3=true∧Ij w k d s 4=true)↔s.day≠d.day∧d.day*1440+d.on-s.free≥600∧(if s.day=d.day-1 then s.row+1 else 1)≤5:=by
 obtain⟨d1,d2,d3,d4,d5,d6,d7⟩:=Cd hd
 have hs':=hs
 obtain⟨s1,s2,s3,s4,s5,s6,s7,s8⟩:=hs'
 show(true=true∧(s.day != d.day)=true∧(bif !decide (s.day=d.day) then decide (AeC (AeC (AeC (d.day*1440)+d.on)-s.free)≥w.rest) else true)=true∧(bif !decide (s.day=d.day) then decide ((Mr s d d.on).row≤w.run) else true)=true)↔_
 by_cases hne:s.day=d.day
 · simp [hne]
 · rw [Agi hs hd hc hne (by omega) (by omega),Zae hne,hw.2.1,hw.2.2.1]
   unfold AeC
   rw [Bv (x:=d.day*1440) (by omega) (by omega),Bv (x:=d.day*1440+d.on) (by omega) (by omega),Bv (x:=d.day*1440+d.on-s.free) (by omega) (by omega)]
   simp [hne]
theorem Aon (w:Ax) (k:Int) (d:AO) (s s':Az):Ij w k d s 0=Ij w k d s' 0:=rfl
theorem AsK {w:Ax} {k i cur:Int} {s:Az} {d:AO} (hw:wkOk w) (hs:UC cur s) (hd:KN d=true) (hc:cur≤6) (hday:d.day=cur) (hb:Rn w k i d s=[]):UC cur (Mr s d d.off.hi):=by
 obtain⟨d1,d2,d3,d4,d5,d6,d7⟩:=Cd hd
 obtain⟨r0,r1⟩:=Agj.1 hb
 obtain⟨q1,q2,q3⟩:=(Ajz hw hs hd hc).1 r1
 rw [Agi hs hd hc q1 (by omega) (by omega)]
 obtain⟨s1,s2,s3,s4,s5,s6,s7,s8⟩:=hs
 unfold UC
 simp only
 refine⟨by omega,by omega,?_,q3,by omega,by omega,by omega,by omega⟩
 split <;> omega
theorem Aa6 {α:Type} (l:List α) (i k:Nat) (x z:α):(l.set i x).getD k z=if i=k∧i<l.length then x else l.getD k z:=by
 simp only [ZaV,List.getElem?_set]
 by_cases h:i=k
 · subst h
   by_cases h2:i<l.length
   · simp [h2]
   · simp [h2]
 · simp [h]
def Awn (cur:Int) (a b:List Az):Prop:=a.length=6∧b.length=6∧∀ k:Nat,k<6→UC cur (a.getD k Om)∧UC cur (b.getD k Om)∧Axu (a.getD k Om) (b.getD k Om)
theorem UC.up {a b:Int} {s:Az} (h:UC a s) (hab:a≤b):UC b s:=⟨h.1,by have:=h.2.1; omega,h.2.2⟩
theorem AqR (w:Ax) (r:List Int) (day:Int) (st:List Aw×List Az) (i:Nat) (d:AO):∃ e,(D9 w r day st i d).1=st.1++e:=by
 unfold D9
 cases decide (d.day=day)
 · exact⟨[],by simp⟩
 · cases decide (r.getD i (-1)=-1)
   · exact⟨_,rfl⟩
   · exact⟨[],by simp⟩
theorem Agk (w:Ax) (r:List Int) (day:Int):∀ (l:List AO)(i:Nat)(st:List Aw×List Az),∃ e,(D4 w r day i st l).1=st.1++e
 | [],i,st=>⟨[],by simp [D4]⟩
 | d::l,i,st=>by
  obtain⟨e,he⟩:=Agk w r day l (i+1) (D9 w r day st i d)
  obtain⟨e2,he2⟩:=AqR w r day st i d
  exact⟨e2++e,by simp only [D4]; rw [he,he2,Za8]⟩
theorem Aj0 (w:Ax) (r:List Int):∀ (k day:Nat)(st:List Aw×List Az),∃ e,(CV w r k day st).1=st.1++e
 | 0,_,st=>⟨[],by simp [CV]⟩
 | k+1,day,st=>by
  obtain⟨e,he⟩:=Aj0 w r k (day+1) (D4 w r (day:Int) 0 st w.duties)
  obtain⟨e2,he2⟩:=Agk w r (day:Int) w.duties 0 st
  exact⟨e2++e,by simp only [CV]; rw [he,he2,Za8]⟩
theorem Agl {a b e:List Aw} (h:b=a++e) (hb:b=[]):a=[]:=by
 rw [hb] at h
 exact(Zbs.1 h.symm).1
theorem Awn.up {a b:Int} {x y:List Az} (h:Awn a x y) (hab:a≤b):Awn b x y:=⟨h.1,h.2.1,fun k hk=>by
 obtain⟨p,q,s⟩:=h.2.2 k hk
 exact⟨p.up hab,q.up hab,s⟩⟩
theorem Agm {w:Ax} {now:List Az}:∀ (k i:Nat),KO w now k i=[]↔∀ j,i≤j→j<i+k→¬ (now.getD j Om).used>w.hours
 | 0,i=>⟨fun _ j h1 h2=>by omega,fun _=>rfl⟩
 | k+1,i=>by
  unfold KO
  rw [Zbs,Agm k (i+1)]
  by_cases h:(now.getD i Om).used>w.hours
  · rw [Zaf h]
    constructor
    · rintro⟨h1,_⟩; cases h1
    · intro hh; exact absurd h (hh i (by omega) (by omega))
  · rw [Zae h]
    constructor
    · rintro⟨_,h2⟩ j h3 h4
      by_cases hj:j=i
      · subst hj; exact h
      · exact h2 j (by omega) (by omega)
    · intro hh
      exact⟨rfl,fun j h3 h4=>hh j (by omega) (by omega)⟩
theorem Acr {w:Ax} (h:Ba w=0):(∀ d∈w.duties,KN d=true)∧∀ d∈w.drivers,YA d=true:=by
 obtain⟨h1,h2⟩:=B5 h
 unfold Ba at h
 rw [if_neg (by omega),if_neg (by omega)] at h
 cases ha:w.duties.all KN with
 | false=>rw [ha] at h; cases h
 | true =>
  cases hb:w.drivers.all YA with
  | false=>rw [ha,hb] at h; cases h
  | true=>exact⟨ZaD.1 ha,ZaD.1 hb⟩
theorem Ami {α:Type} (l:List α) (k:Nat) (z:α):l.getD k z∈l∨l.getD k z=z:=by
 by_cases h:k<l.length
 · left
   rw [ZaV,Zan h]
   exact Za1 h
 · right
   rw [ZaV,Za2 (by omega)]; rfl
theorem ApL:UC 0 Om:=by unfold UC Om; decide
theorem Aoo {w:Ax} (hw:wkOk w) (h:Ba w=0) (k:Nat):UC 0 ((AS w).getD k Om):=by
 rcases Ami (AS w) k Om with hm | hm
 · unfold AS at hm
   rcases Zal.1 hm with hm | hm
   · obtain⟨d,hd,he⟩:=ZaR.1 hm
     obtain⟨x,off,rfl⟩:=hw.2.2.2.2.2.2 d hd
     have hr:=(Acr h).2 _ hd
     unfold YA at hr
     rw [Zaq,D8] at hr
     have hr2:=hr.2
     simp only at hr2
     unfold AS
     rw [← he]
     unfold UC
     simp only
     omega
   · unfold AS
     rw [List.eq_of_mem_replicate hm]
     exact ApL
 · rw [hm]; exact ApL
theorem OW {w:Ax} {r:List Int}:Gu w r=[]↔(CV w r 7 0 ([],AS w)).1=[]∧∀ j,j<w.drivers.length→¬ ((CV w r 7 0 ([],AS w)).2.getD j Om).used>w.hours:=by
 unfold Gu
 rw [Zbs,Agm]
 constructor
 · rintro⟨a,b⟩; exact⟨a,fun j hj=>b j (by omega) (by omega)⟩
 · rintro⟨a,b⟩; exact⟨a,fun j _ hj=>b j (by omega)⟩
theorem OX {w:Ax} {r:List Int}:KP w r=true↔Ba w=0∧E2 w r∧Gu w r=[]:=by
 unfold KP
 rw [Zaq,Zaq,AfU,decide_eq_true_eq,decide_eq_true_eq]
theorem Aa7 {w:Ax} {r:List Int} (h:E2 w r) (i:Nat) : -1≤r.getD i (-1)∧(r.getD i (-1)<(w.drivers.length:Int)∨r.getD i (-1)=-1):=by
 rcases Ami r i (-1) with hm | hm
 · have:=h.2 _ hm; omega
 · omega
theorem Aj1 (w:Ax) (r:List Int) (day:Int) (d:AO):∀ (l:List AO)(i:Nat)(st:List Aw×List Az),D4 w r day i st (l++[d])=D9 w r day (D4 w r day i st l) (i+l.length) d
 | [],i,st=>by simp [D4]
 | x::l,i,st=>by
  simp only [ZaZ,D4]
  rw [Aj1 w r day d l (i+1)]
  rw [show i+1+l.length=i+(x::l).length by simp; omega]
theorem Ak5 {w:Ax} {r:List Int} {day:Int} {st:List Aw×List Az} {i:Nat} {d:AO} (h:r.getD i (-1)=-1):D9 w r day st i d=st:=by
 unfold D9
 rw [h]
 cases decide (d.day=day) <;> rfl
theorem Aj2 {w w':Ax} (h1:w'.rest=w.rest) (h2:w'.run=w.run) {k i:Int} (h3:A3 w'.drivers k=A3 w.drivers k) (d:AO) (s:Az):Rn w' k i d s=Rn w k i d s:=by
 have hr:∀ j,Ij w' k d s j=Ij w k d s j:=fun j=>by
  match j with
  | 0=>show(match A3 w'.drivers k with | some v=>_ | none=>true)=(match A3 w.drivers k with | some v=>_ | none=>true); rw [h3]
  | 1=>rfl
  | 2=>rfl
  | 3=>show(bif !decide (s.day=d.day) then decide (_≥w'.rest) else true)=(bif !decide (s.day=d.day) then decide (_≥w.rest) else true); rw [h1]
  | j+4=>show(bif !decide (s.day=d.day) then decide (_≤w'.run) else true)=(bif !decide (s.day=d.day) then decide (_≤w.run) else true); rw [h2]
 unfold Rn AfA
 simp only [hr]
theorem Aop {w w':Ax} (h1:w'.rest=w.rest) (h2:w'.run=w.run) (h3:w'.drivers=w.drivers) {r r':List Int} {i:Nat} (hr:r'.getD i (-1)=r.getD i (-1)) (day:Int) (st:List Aw×List Az) (d:AO):D9 w' r' day st i d=D9 w r day st i d:=by
 unfold D9
 rw [hr,Aj2 h1 h2 (by rw [h3])]
theorem Aj3 {w w':Ax} (h1:w'.rest=w.rest) (h2:w'.run=w.run) (h3:w'.drivers=w.drivers) {r r':List Int} (hr:∀ i,r'.getD i (-1)=r.getD i (-1)) (day:Int):∀ (l:List AO)(i:Nat)(st:List Aw×List Az),D4 w' r' day i st l=D4 w r day i st l
 | [],_,_=>rfl
 | d::l,i,st=>by
  simp only [D4]
  rw [Aop h1 h2 h3 (hr i),Aj3 h1 h2 h3 hr day l]
theorem Aj4 (r:List Int) (i:Nat):(r++[-1]).getD i (-1)=r.getD i (-1):=by
 simp only [ZaV]
 by_cases h:i<r.length
 · rw [Zau h]
 · rw [Zbc (by omega),Za2 (by omega:r.length≤i)]
   cases h2:i-r.length with
   | zero=>rfl
   | succ m=>rfl
theorem Agn {w:Ax} (d:AO) {r:List Int} (hl:r.length=w.duties.length):∀ (k day:Nat)(st:List Aw×List Az),CV (KQ w d) (r++[-1]) k day st=CV w r k day st
 | 0,_,_=>rfl
 | k+1,day,st=>by
  simp only [CV]
  have:D4 (KQ w d) (r++[-1]) (day:Int) 0 st (KQ w d).duties=D4 w r (day:Int) 0 st w.duties:=by
   show D4 (KQ w d) (r++[-1]) (day:Int) 0 st (w.duties++[d])=_
   rw [Aj1,Ak5 (by rw [Aj4,ZaV,Za2 (by omega)]; rfl)]
   exact Aj3 (w:=w) (w':=KQ w d) rfl rfl rfl (Aj4 r) _ _ _ _
  rw [this,Agn d hl k]
theorem Aoq {w:Ax} {d:AO} {r:List Int} (h:KP w r=true) (hw:Ba (KQ w d)=0):KP (KQ w d) (r++[-1])=true:=by
 obtain⟨h1,h2,h3⟩:=OX.1 h
 refine OX.2 ⟨hw,⟨by simp [KQ,h2.1],fun x hx=>?_⟩,?_⟩
 · rcases Zal.1 hx with hx | hx
   · exact h2.2 x hx
   · rw [Zaz.1 hx]; exact⟨by omega,by omega⟩
 · obtain⟨b1,b2⟩:=OW.1 h3
   have e:=Agn d h2.1 7 0 ([],AS w)
   refine OW.2 ?_
   show(CV (KQ w d) (r++[-1]) 7 0 ([],AS w)).1=[]∧_
   rw [show AS (KQ w d)=AS w from rfl,e]
   exact⟨b1,b2⟩
def Ago (n:Nat) (a b:List Az):Prop:=a.length=6∧b.length=6∧(∀ k:Nat,k<n→a.getD k Om=b.getD k Om)∧(a.getD n Om).used=0
theorem AqS {w w':Ax} (h1:w'.rest=w.rest) (h2:w'.run=w.run) {x:AT} (h3:w'.drivers=w.drivers++[x]) {r:List Int} (hr:∀ i:Nat,-1≤r.getD i (-1)∧r.getD i (-1)<(w.drivers.length:Int)) (day:Int) {st st':List Aw×List Az} (hs:Ago w.drivers.length st'.2 st.2) (he:st'.1=st.1) (i:Nat) (d:AO):(D9 w' r day st' i d).1=(D9 w r day st i d).1∧Ago w.drivers.length (D9 w' r day st' i d).2 (D9 w r day st i d).2:=by
 unfold D9
 cases decide (d.day=day) with
 | false=>exact⟨he,hs⟩
 | true =>
  obtain⟨b0,b1⟩:=hr i
  by_cases hn:r.getD i (-1)=-1
  · rw [Zaf hn]; exact⟨he,hs⟩
  · rw [Zae hn]
    simp only [Zab,Zad]
    obtain⟨k,hk⟩:∃ k:Nat,r.getD i (-1)=k:=⟨(r.getD i (-1)).toNat,by omega⟩
    rw [hk]
    rw [hk] at b1
    rw [show((k:Int)).toNat=k from rfl]
    have hkn:k<w.drivers.length:=by omega
    obtain⟨l1,l2,hall,hu⟩:=hs
    have hi:A3 w'.drivers (k:Int)=A3 w.drivers (k:Int):=by
     show w'.drivers[k]? = w.drivers[k]?
     rw [h3,Zau hkn]
    rw [hall k hkn,Aj2 h1 h2 hi,he]
    refine⟨rfl,by simp [l1],by simp [l2],fun j hj=>?_,?_⟩
    · rw [Aa6,Aa6]
      by_cases hjk:k=j
      · by_cases hk6:k<6
        · rw [if_pos ⟨hjk,by omega⟩,if_pos ⟨hjk,by omega⟩]
        · rw [if_neg fun h=>hk6 (by omega),if_neg fun h=>hk6 (by omega)]
          exact hall j hj
      · rw [if_neg fun h=>hjk h.1,if_neg fun h=>hjk h.1]
        exact hall j hj
    · rw [Aa6,if_neg fun h=>by omega]
      exact hu
theorem Amj {w w':Ax} (h1:w'.rest=w.rest) (h2:w'.run=w.run) {x:AT} (h3:w'.drivers=w.drivers++[x]) {r:List Int} (hr:∀ i:Nat,-1≤r.getD i (-1)∧r.getD i (-1)<(w.drivers.length:Int)) (day:Int):∀ (l:List AO)(i:Nat)(st st':List Aw×List Az),Ago w.drivers.length st'.2 st.2→st'.1=st.1→(D4 w' r day i st' l).1=(D4 w r day i st l).1∧Ago w.drivers.length (D4 w' r day i st' l).2 (D4 w r day i st l).2
 | [],i,st,st',hs,he=>⟨he,hs⟩
 | d::l,i,st,st',hs,he=>by
  obtain⟨a,b⟩:=AqS h1 h2 h3 hr day hs he i d
  exact Amj h1 h2 h3 hr day l (i+1) _ _ b a
theorem Aj5 {w:Ax} {k0 off:Int} {r:List Int} (hr:∀ i:Nat,-1≤r.getD i (-1)∧r.getD i (-1)<(w.drivers.length:Int)):∀ (k day:Nat)(st st':List Aw×List Az),Ago w.drivers.length st'.2 st.2→st'.1=st.1→(CV (J8 w k0 off) r k day st').1=(CV w r k day st).1∧Ago w.drivers.length (CV (J8 w k0 off) r k day st').2 (CV w r k day st).2
 | 0,_,_,_,hs,he=>⟨he,hs⟩
 | k+1,day,st,st',hs,he=>by
  simp only [CV]
  obtain⟨a,b⟩:=Amj (w:=w) (w':=J8 w k0 off) rfl rfl rfl hr (day:Int) w.duties 0 st st' hs he
  exact Aj5 hr k (day+1) _ _ b a
theorem Aor {w:Ax} {k0 off:Int} (h:w.drivers.length<6):Ago w.drivers.length (AS (J8 w k0 off)) (AS w):=by
 refine⟨Q6 (by simp [J8]; omega),Q6 (by omega),fun k hk=>?_,?_⟩
 · unfold AS J8
   simp only [ZaV]
   rw [Zau (by simp; omega),Zau (by simp; omega),List.map_append,Zau (by simp; omega)]
 · unfold AS J8
   simp only [ZaV]
   rw [Zau (by simp),List.map_append,Zbc (by simp)]
   simp
theorem Ak6 {w:Ax} {k0 off:Int} {r:List Int} (h:KP w r=true) (hw:Ba (J8 w k0 off)=0) (hh:w.hours=3000):KP (J8 w k0 off) r=true:=by
 obtain⟨h1,h2,h3⟩:=OX.1 h
 have hl:w.drivers.length<6:=by
  have:=(B5 hw).2
  simp [J8] at this
  omega
 by_cases hr:∀ i:Nat,-1≤r.getD i (-1)∧r.getD i (-1)<(w.drivers.length:Int)
 · refine OX.2 ⟨hw,⟨h2.1,fun x hx=>by have:=h2.2 x hx; refine⟨this.1,?_⟩; simp [J8]; omega⟩,?_⟩
   obtain⟨b1,b2⟩:=OW.1 h3
   obtain⟨e1,e2⟩:=Aj5 (k0:=k0) (off:=off) hr 7 0 ([],AS w) ([],AS (J8 w k0 off)) (Aor hl) rfl
   refine OW.2 ⟨by rw [e1]; exact b1,fun j hj=>?_⟩
   have hj':j<w.drivers.length+1:=by simpa [J8] using hj
   by_cases hjn:j<w.drivers.length
   · rw [e2.2.2.1 j hjn]; exact b2 j hjn
   · have:j=w.drivers.length:=by omega
     rw [this,e2.2.2.2,show(J8 w k0 off).hours=3000 from hh]; omega
 · exact absurd (fun i=>by have:=Aa7 h2 i; exact⟨this.1,by omega⟩) hr
def Tc (s:An):Prop:=KP s.week s.roster=true
theorem Ak7:Tc Bf:=by unfold Tc; decide
theorem Amk {s:An} (hg:Gr s) (h:Tc s) {f:Int} {l:List Int} (h0:(BL s f l).2=0):Tc (BL s f l).1:=by
 unfold BL at h0 ⊢
 split at h0
 · by_cases q0:f=189
   · rw [if_pos q0] at h0 ⊢; rw [Q8 h0]; exact h
   rw [if_neg q0] at h0 ⊢
   by_cases q0:f=190
   · rw [if_pos q0] at h0 ⊢; rw [Q8 h0]; exact h
   rw [if_neg q0] at h0 ⊢
   by_cases q0:f=191
   · rw [if_pos q0] at h0 ⊢; rw [Q8 h0]; exact h
   rw [if_neg q0] at h0 ⊢
   by_cases q0:f=192
   · rw [if_pos q0] at h0 ⊢; rw [Q8 h0]; exact h
   rw [if_neg q0] at h0 ⊢
   by_cases q0:f=193
   · rw [if_pos q0] at h0 ⊢; rw [(Aok h0).2.2.2.2]; exact h
   rw [if_neg q0] at h0 ⊢
   by_cases q0:f=194
   · rw [if_pos q0] at h0 ⊢; obtain⟨_,_,_,e,_⟩:=AsB h0; rw [e]; exact h
   rw [if_neg q0] at h0 ⊢
   by_cases q0:f=195
   · rw [if_pos q0] at h0 ⊢; rw [(Aga h0).1]; exact h
   rw [if_neg q0] at h0 ⊢
   by_cases q0:f=196
   · rw [if_pos q0] at h0 ⊢; rw [(Aga h0).1]; exact h
   rw [if_neg q0] at h0 ⊢
   by_cases q0:f=197
   · rw [if_pos q0] at h0 ⊢; rw [(Aga h0).1]; exact h
   rw [if_neg q0] at h0 ⊢
   by_cases q0:f=198
   · rw [if_pos q0] at h0 ⊢
     unfold AeD at h0 ⊢
     split at h0
     · rename_i c
       rw [if_pos c]
       exact Ak6 h c hg.hours
     · rename_i c; exact absurd h0 c
   rw [if_neg q0] at h0 ⊢
   by_cases q0:f=199
   · rw [if_pos q0] at h0 ⊢
     unfold AeE at h0 ⊢
     split at h0
     · rename_i c
       rw [if_pos c]
       exact Aoq h c
     · rename_i c; exact absurd h0 c
   rw [if_neg q0] at h0 ⊢
   unfold AeF at h0 ⊢
   split at h0
   · rename_i c1
     rw [if_pos c1]
     split at h0
     · rename_i c2
       rw [if_pos c2]
       exact c2
     · cases h0
   · cases h0
 · cases h0
theorem Aml {s:An} (hg:Gr s) (h:Tc s) (t:ByteArray):Tc (BT s t).1:=by
 by_cases h0:(BT s t).2=0
 · obtain⟨y,_,hw,e⟩:=Ajx h0
   rw [e]; exact Amk hg h hw
 · rw [Agc h0]; exact h
def Amm (a b:Ag):Prop:=CS a≠CS b∧(a.machine=b.machine→(a.seq<b.seq→a.minute≤b.minute)∧(b.seq<a.seq→b.minute≤a.minute))
theorem Amm.symm {a b:Ag} (h:Amm a b):Amm b a:=⟨fun e=>h.1 e.symm,fun e=>⟨(h.2 e.symm).2,(h.2 e.symm).1⟩⟩
theorem AsL {a b:Ag}:CS a≠CS b↔¬ (a.machine=b.machine∧a.seq=b.seq):=by simp [CS]
abbrev AqT (l:List Ag):Prop:=l.Pairwise fun a b=>CS a≠CS b
theorem AqU {m:List (Nw×Ag)} {k:Nw}:Dl AI m k=false↔En AI m k=none:=by
 unfold Dl
 cases En AI m k <;> simp
theorem AsM:∀ (l:List Ag)(m:List (Nw×Ag))(o:List Ag),AqT l→(∀ a∈l,Dl AI m (CS a)=false)→Aix m o l=some (o++l)
 | [],m,o,_,_=>by simp [Aix]
 | r::l,m,o,hd,hm=>by
  obtain⟨h1,h2⟩:=Zba.1 hd
  unfold Aix
  rw [hm r (by simp),Zad,AsM l _ _ h2 fun a ha=>?_]
  · simp
  · cases hb:Dl AI (JA AI m (CS r) r) (CS a) with
    | false=>rfl
    | true =>
     rcases(WY OV _ _ _ _).1 hb with h | h
     · exact absurd h (h1 a ha)
     · rw [hm a (by simp [ha])] at h; cases h
theorem ApM:∀ (l:List Ag)(m:List (Nw×Ag))(o:List Ag)(r:Ag),AqT l→(∀ a∈l,Dl AI m (CS a)=false)→((∃ d,En AI m (CS r)=some d∧d≠r)∨∃ a∈l,CS a=CS r∧a≠r)→Aix m o (l++[r])=none
 | [],m,o,r,_,_,h=>by
  rcases h with⟨d,h1,h2⟩ | ⟨a,h,_⟩
  · have hh:Dl AI m (CS r)=true:=by unfold Dl; rw [h1]; rfl
    have hs:B6 (AV AI m (CS r) zR) r=false:=by
     have e:AV AI m (CS r) zR=d:=by unfold AV; rw [h1]; rfl
     rw [e]
     cases hb:B6 d r with
     | false=>rfl
     | true=>exact absurd (II.1 hb) h2
    show Aix m o [r]=none
    unfold Aix
    rw [hh,Zab,hs]; rfl
  · simp at h
 | x::l,m,o,r,hd,hm,h=>by
  obtain⟨h1,h2⟩:=Zba.1 hd
  show Aix m o (x::(l++[r]))=none
  unfold Aix
  rw [hm x (by simp),Zad]
  refine ApM l _ _ r h2 (fun a ha=>?_) ?_
  · cases hb:Dl AI (JA AI m (CS x) x) (CS a) with
    | false=>rfl
    | true =>
     rcases(WY OV _ _ _ _).1 hb with h | h
     · exact absurd h (h1 a ha)
     · rw [hm a (by simp [ha])] at h; cases h
  · rcases h with⟨d,e1,e2⟩ | ⟨a,ha,e1,e2⟩
    · left
      refine⟨d,?_,e2⟩
      rw [K1 OV,if_neg ?_]
      · exact e1
      · intro hx
        have:=hm x (by simp)
        rw [hx] at this
        rw [AqU.1 this] at e1; cases e1
    · rcases Zak.1 ha with rfl | ha
      · left
        exact⟨a,by rw [K1 OV,if_pos e1],e2⟩
      · exact .inr ⟨a,ha,e1,e2⟩
theorem AqV {a b:Ag}:Aca a b=true↔a.machine<b.machine∨(a.machine=b.machine∧a.seq≤b.seq):=by simp [Aca]
theorem AqW (a b c:Ag) (h1:Aca a b=true) (h2:Aca b c=true):Aca a c=true:=by
 rw [AqV] at *; omega
theorem AqX (a b:Ag) (h:Aca a b=false):Aca b a=true:=by
 have : ¬ Aca a b=true:=by rw [h]; simp
 rw [AqV] at *; omega
theorem AuP (l:List Ag):(KG Aca l).Pairwise fun a b=>Aca a b=true:=QI AqW AqX l
theorem Amn:∀ {l:List Ag},l.Pairwise (fun a b=>Aca a b=true)→(Y9 l=true↔l.Pairwise fun a b=>a.machine=b.machine→a.minute≤b.minute)
 | [],_=>by simp [Y9]
 | [a],_=>by simp [Y9]
 | a::b::r,hs=>by
  obtain⟨h1,h2⟩:=Zba.1 hs
  have ih:=Amn h2
  have hb:(!Asu a b)=true↔(a.machine=b.machine→a.minute≤b.minute):=by
   unfold Asu
   simp only [Bool.not_eq_true',Bool.and_eq_false_iff,decide_eq_false_iff_not]
   constructor
   · rintro(h | h) e
     · exact absurd e h
     · omega
   · intro h
     by_cases e:a.machine=b.machine
     · right; have:=h e; omega
     · exact .inl e
  show(!Asu a b && Y9 (b::r))=true↔_
  rw [Zaq,hb,ih]
  constructor
  · rintro⟨p,q⟩
    refine Zba.2 ⟨fun c hc=>?_,q⟩
    rcases Zak.1 hc with rfl | hc
    · exact p
    · intro e
      have hab:=AqV.1 (h1 b (by simp))
      have hbc:=AqV.1 ((Zba.1 h2).1 c hc)
      have e2:a.machine=b.machine:=by omega
      have:=p e2
      have:=(Zba.1 q).1 c hc (by omega)
      omega
  · intro h
    obtain⟨p,q⟩:=Zba.1 h
    exact⟨p b (by simp),q⟩
theorem AuQ {l:List Ag} (hd:AqT l):Y9 (KG Aca l)=true↔l.Pairwise Amm:=by
 have hp:=OS (le:=Aca) l
 have hs:=AuP l
 have hd':AqT (KG Aca l):=(List.Perm.pairwise_iff (fun {a b} (h:CS a≠CS b)=>h.symm) hp).2 hd
 rw [Amn hs,← List.Perm.pairwise_iff (fun {a b} (h:Amm a b)=>h.symm) hp]
 constructor
 · intro h
   refine(hs.and (hd'.and h)).imp ?_
   rintro a b ⟨p,q,s⟩
   refine⟨q,fun e=>⟨fun _=>s e,fun hlt=>?_⟩⟩
   rw [AqV] at p
   omega
 · intro h
   refine(hs.and (hd'.and h)).imp ?_
   rintro a b ⟨p,q,s⟩ e
   rw [AqV] at p
   rw [AsL] at q
   exact(s.2 e).1 (by omega)
structure Up (l:List Ag):Prop where
 cmp:l.Pairwise Amm
 right:∀ r∈l,Bm r=true
 len:l.length≤60
theorem Up.dist {l:List Ag} (h:Up l):AqT l:=h.cmp.imp fun h=>h.1
theorem Aa8 {α:Type} {R:α→α→Prop} {l:List α} {x:α}:(l++[x]).Pairwise R↔l.Pairwise R∧∀ a∈l,R a x:=by
 rw [List.pairwise_append]
 simp
open Classical in
theorem Aj6 {l:List Ag} (h:Up l) {r:Ag} (hn:l.any (B6 r)=false):NB [l,[r]]=if Bm r=false then 1 else if ¬ ∀ a∈l,Amm a r then 6 else if 60≤l.length then 3 else 0:=by
 have hl:=h.len
 have hne:∀ a∈l,a≠r:=fun a ha e=>by
  have:l.any (B6 r)=true:=ZaX.2 ⟨a,ha,II.2 e.symm⟩
  rw [this] at hn; cases hn
 have hc:UB [l,[r]]=if Bm r=false then 1 else 0:=by
  unfold UB
  have e1:l.all Bm=true:=ZaD.2 h.right
  rw [if_neg (by simp)]
  simp only [ZaU,List.all_nil,Bool.and_true,Za6,Zbp,e1,ZaJ]
  rw [Zaf hl]
  cases Bm r <;> rfl
 unfold NB SW
 rw [hc]
 cases hr:Bm r with
 | false=>simp
 | true =>
  simp only [Bool.true_eq_false,if_false,ne_eq,not_true_eq_false]
  have hf:([l,[r]]:List (List Ag)).flatten=l++[r]:=by simp
  rw [hf]
  by_cases hw:∀ a∈l,CS a≠CS r
  · have hd:AqT (l++[r]):=Aa8.2 ⟨h.dist,hw⟩
    rw [AsM _ _ _ hd (fun a _=>rfl)]
    simp only [Zav]
    have hoc:=AuQ hd
    by_cases hcm:∀ a∈l,Amm a r
    · rw [hoc.2 (Aa8.2 ⟨h.cmp,hcm⟩),Zab]
      have e6:(if ¬ ∀ a∈l,Amm a r then(6:Int) else if 60≤l.length then 3 else 0)=if 60≤l.length then 3 else 0:=if_neg fun h=>h hcm
      rw [e6]
      simp only [Vk,Zat,Za6,Zbp]
      by_cases h60:60≤l.length
      · rw [if_pos h60,if_pos (by omega)]
      · rw [if_neg h60,if_neg (by omega)]
    · have:Y9 (KG Aca (l++[r]))=false:=by
       cases ho:Y9 (KG Aca (l++[r])) with
       | false=>rfl
       | true=>exact absurd (Aa8.1 (hoc.1 ho)).2 hcm
      rw [this,Zad,if_pos hcm]
  · have hcm : ¬ ∀ a∈l,Amm a r:=fun hh=>hw fun a ha=>(hh a ha).1
    rw [if_pos hcm]
    have:∃ a∈l,CS a=CS r:=by
     refine Classical.byContradiction fun hh=>hw fun a ha e=>hh ⟨a,ha,e⟩
    obtain⟨a,ha,e⟩:=this
    rw [ApM l [] [] r h.dist (fun a _=>rfl) (.inr ⟨a,ha,e,hne a ha⟩)]
theorem AuR {s:An} (h:Up s.records) {r:Ag}:(MC s r).2=0↔Bm r=true∧(∀ a∈s.records,Amm a r)∧s.records.length<60:=by
 unfold MC
 cases hs:s.records.any (B6 r) with
 | true =>
  simp only [if_true]
  constructor
  · intro h; cases h
  · rintro⟨_,h2,_⟩
    obtain⟨a,ha,e⟩:=ZaX.1 hs
    exact absurd rfl ((II.1 e▸h2 a ha).1)
 | false =>
  have hm:=Aj6 h hs
  simp only [Za0,if_false]
  constructor
  · intro h0
    have hz:NB [s.records,[r]]=0:=by
     by_cases c:NB [s.records,[r]]=0
     · exact c
     · rw [if_neg c] at h0; exact absurd h0 c
    rw [hm] at hz
    by_cases c1:Bm r=false
    · rw [if_pos c1] at hz; cases hz
    · rw [if_neg c1] at hz
      by_cases c2:∀ a∈s.records,Amm a r
      · rw [if_neg (fun h=>h c2)] at hz
        by_cases c3:60≤s.records.length
        · rw [if_pos c3] at hz; cases hz
        · exact⟨by simpa using c1,c2,by omega⟩
      · rw [if_pos c2] at hz; cases hz
  · rintro⟨p,q,t⟩
    have hz:NB [s.records,[r]]=0:=by
     rw [hm,if_neg (by simp [p]),if_neg (fun h=>h q),if_neg (by omega)]
    rw [if_pos hz]
theorem Awo {s:An} (h:Up s.records) {r:Ag} (h0:(MC s r).2=0):Up (s.records++[r]):=by
 obtain⟨p,q,t⟩:=(AuR h).1 h0
 refine⟨Aa8.2 ⟨h.cmp,q⟩,fun a ha=>?_,by simp; omega⟩
 rcases Zal.1 ha with ha | ha
 · exact h.right a ha
 · rw [Zaz.1 ha]; exact p
def Acs (f:Int):List Int→Ag
 | [a,b,c,d,e]=>if f=195 then Ag.mk a b c (IK.mk 0) d e else if f=196 then Ag.mk a b c (IK.mk 1) d 0 else Ag.mk a b c (IK.mk 2) d e
 | _=>zR
def Aa9 (t:ByteArray):Bool:=match DB t with
 | some (f,_)=>decide (195≤f) && decide (f≤197)
 | none=>false
def Amo (t:ByteArray):Ag:=match DB t with
 | some (f,l)=>if 195≤f∧f≤197 then Acs f l else zR
 | none=>zR
theorem AsN {s:An} {t:ByteArray} (hc:Aa9 t=true):((BT s t).2=(MC s (Amo t)).2)∧((BT s t).2=0→(BT s t).1={ s with records:=s.records++[Amo t] }):=by
 unfold Aa9 at hc
 unfold BT Amo
 cases hp:DB t with
 | none=>rw [hp] at hc; cases hc
 | some y =>
  obtain⟨f,l⟩:=y
  rw [hp] at hc
  simp only at hc ⊢
  have hf:195≤f∧f≤197:=by simpa using hc
  obtain⟨_,_,h5⟩:=AsJ hp
  rw [if_pos hf]
  have hw:BL s f l=MC s (Acs f l):=by
   match l,h5 with
   | [a,b,c,d,e],_ =>
    unfold BL Acs
    simp only
    rw [if_neg (by omega),if_neg (by omega),if_neg (by omega),if_neg (by omega),if_neg (by omega),if_neg (by omega)]
    by_cases q:f=195
    · rw [if_pos q,if_pos q]
    rw [if_neg q,if_neg q]
    by_cases q:f=196
    · rw [if_pos q,if_pos q]
    rw [if_neg q,if_neg q,if_pos (show f=197 by omega)]
  rw [hw]
  by_cases h0:(MC s (Acs f l)).2=0
  · rw [if_pos h0]
    exact⟨rfl,fun _=>(Aga h0).1⟩
  · rw [if_neg h0]
    exact⟨rfl,fun h=>absurd h h0⟩
theorem AqY {s:An} {f:Int} {l:List Int} (hf : ¬ (195≤f∧f≤197)) (h0:(BL s f l).2=0):(BL s f l).1.records=s.records:=by
 unfold BL at h0 ⊢
 split at h0
 · by_cases q0:f=189
   · rw [if_pos q0] at h0 ⊢; rw [Q8 h0]
   rw [if_neg q0] at h0 ⊢
   by_cases q0:f=190
   · rw [if_pos q0] at h0 ⊢; rw [Q8 h0]
   rw [if_neg q0] at h0 ⊢
   by_cases q0:f=191
   · rw [if_pos q0] at h0 ⊢; rw [Q8 h0]
   rw [if_neg q0] at h0 ⊢
   by_cases q0:f=192
   · rw [if_pos q0] at h0 ⊢; rw [Q8 h0]
   rw [if_neg q0] at h0 ⊢
   by_cases q0:f=193
   · rw [if_pos q0] at h0 ⊢; rw [(Aok h0).2.2.2.2]
   rw [if_neg q0] at h0 ⊢
   by_cases q0:f=194
   · rw [if_pos q0] at h0 ⊢; obtain⟨_,_,_,e,_⟩:=AsB h0; rw [e]
   rw [if_neg q0,if_neg (by omega),if_neg (by omega),if_neg (by omega)]
   rw [if_neg q0,if_neg (by omega),if_neg (by omega),if_neg (by omega)] at h0
   by_cases q0:f=198
   · rw [if_pos q0]; unfold AeD; split <;> rfl
   rw [if_neg q0]
   by_cases q0:f=199
   · rw [if_pos q0]; unfold AeE; split <;> rfl
   rw [if_neg q0]
   unfold AeF
   split
   · split <;> rfl
   · rfl
 · cases h0
theorem Aos {s:An} {t:ByteArray} (h:Aa9 t=false):(BT s t).1.records=s.records:=by
 by_cases h0:(BT s t).2=0
 · obtain⟨y,hy,hw,e⟩:=Ajx h0
   unfold Aa9 at h
   rw [hy] at h
   rw [e]
   exact AqY (fun hc=>by simp [hc.1,hc.2] at h) hw
 · rw [Agc h0]
theorem Aot {s:An} (h:Up s.records) (t:ByteArray):Up (BT s t).1.records:=by
 cases hb:Aa9 t with
 | false=>rw [Aos hb]; exact h
 | true =>
  obtain⟨e1,e2⟩:=AsN (s:=s) hb
  by_cases h0:(BT s t).2=0
  · rw [e2 h0]
    exact Awo h (by rw [← e1]; exact h0)
  · rw [Agc h0]; exact h
theorem Amp:Up Bf.records:=⟨List.Pairwise.nil,by simp [Bf],by simp [Bf]⟩
theorem AsO {p:ByteArray} {x:FX} (h:En Fi Em p=some x):(p=B [115,97,108,101]∧x.do_.f=195∧x.many=5)∨(p=B [115,121,110,99]∧x.do_.f=196∧x.many=4)∨(p=B [99,108,111,115,101]∧x.do_.f=197∧x.many=5)∨(p≠B [115,97,108,101]∧p≠B [115,121,110,99]∧p≠B [99,108,111,115,101]∧¬ (195≤x.do_.f∧x.do_.f≤197)):=by
 have:=RP Fi (fun a b h=>(Vl a b).1 h) _ _ _ h
 simp only [Em,Zak,Prod.mk.injEq,List.not_mem_nil,or_false] at this
 rcases this with⟨rfl,rfl⟩ | ⟨rfl,rfl⟩ | ⟨rfl,rfl⟩ | ⟨rfl,rfl⟩ | ⟨rfl,rfl⟩ | ⟨rfl,rfl⟩ | ⟨rfl,rfl⟩ | ⟨rfl,rfl⟩ | ⟨rfl,rfl⟩ | ⟨rfl,rfl⟩ | ⟨rfl,rfl⟩ | ⟨rfl,rfl⟩ <;> first | exact .inl ⟨rfl,rfl,rfl⟩ | exact .inr (.inl ⟨rfl,rfl,rfl⟩) | exact .inr (.inr (.inl ⟨rfl,rfl,rfl⟩)) | exact .inr (.inr (.inr ⟨by decide,by decide,by decide,by decide⟩))
theorem AqZ {n:Nat} {t:ByteArray} (ht:t.size≤1000000) (hn:t.size+30≤n):Rh n t=some (Amo t,Aa9 t,()):=by
 unfold Rh
 rw [Agg ht hn,Zaa]
 unfold YD Aa9 Amo
 cases hp:C8 t with
 | nil=>unfold C8 at hp; exact absurd (Zb4.1 hp) (ML 32 _)
 | cons p r =>
  rw [Il hp]
  simp only
  cases hw:En Fi Em p with
  | none=>rfl
  | some x =>
   simp only
   by_cases hl:((r.length+1:Nat):Int)=x.many+1
   · rw [if_pos hl,if_pos hl]
     cases hv:J9 r with
     | none=>rfl
     | some vs =>
      have hlen:=OM hv
      simp only [Ak4,Option.map_some,ZaB,Zad]
      rcases AsO hw with⟨rfl,hf,hm⟩ | ⟨rfl,hf,hm⟩ | ⟨rfl,hf,hm⟩ | ⟨h1,h2,h3,hf⟩
      · rw [hm] at hl
        obtain⟨a,b,c,d,e,rfl⟩:∃ a b c d e,vs=[a,b,c,d,e]:=by
         rcases vs with _ | ⟨a,_ | ⟨b,_ | ⟨c,_ | ⟨d,_ | ⟨e,_ | ⟨f,g⟩⟩⟩⟩⟩⟩ <;> first | exact⟨_,_,_,_,_,rfl⟩ | (simp at hlen; omega)
        rw [hf]; rfl
      · rw [hm] at hl
        obtain⟨a,b,c,d,rfl⟩:∃ a b c d,vs=[a,b,c,d]:=by
         rcases vs with _ | ⟨a,_ | ⟨b,_ | ⟨c,_ | ⟨d,_ | ⟨e,f⟩⟩⟩⟩⟩ <;> first | exact⟨_,_,_,_,rfl⟩ | (simp at hlen; omega)
        rw [hf]; rfl
      · rw [hm] at hl
        obtain⟨a,b,c,d,e,rfl⟩:∃ a b c d e,vs=[a,b,c,d,e]:=by
         rcases vs with _ | ⟨a,_ | ⟨b,_ | ⟨c,_ | ⟨d,_ | ⟨e,_ | ⟨f,g⟩⟩⟩⟩⟩⟩ <;> first | exact⟨_,_,_,_,_,rfl⟩ | (simp at hlen; omega)
        rw [hf]; rfl
      · have hb:(decide (195≤x.do_.f) && decide (x.do_.f≤197))=false:=by
         cases hc:(decide (195≤x.do_.f) && decide (x.do_.f≤197)) with
         | false=>rfl
         | true=>exact absurd (by simpa using hc) hf
        rw [Bx h1,Bx h2,Bx h3,hb,if_neg hf]; rfl
   · rw [if_neg hl,if_neg hl]; rfl
theorem Ak8 (n:Nat) (x lo hi:Int):Gh n x lo hi=some (Cp x lo hi,()):=by
 unfold Gh Cp
 show(bif decide (lo≤x) then _ else _)=_
 cases decide (lo≤x) <;> rfl
theorem AaA (n:Nat) (x lo hi:Int):AU n x lo hi=some (Cp x lo hi,()):=by
 unfold AU Cp
 show(bif decide (lo≤x) then _ else _)=_
 cases decide (lo≤x) <;> rfl
theorem AuS (n:Nat) (x lo hi:Int):Gi n x lo hi=some (Cp x lo hi,()):=by
 unfold Gi Cp
 show(bif decide (lo≤x) then _ else _)=_
 cases decide (lo≤x) <;> rfl
theorem Aou (n:Nat) (c:A1) (hk:KM c):L4 n c=some (Jo c,()):=by
 obtain⟨k0,k3⟩:=hk
 have h4:c.kind.n=0∨c.kind.n=1∨c.kind.n=2∨c.kind.n=3:=by omega
 unfold L4 Jo AnX
 simp only [Ak8,Zaa]
 cases Cp c.bus 0 99 with
 | false=>rfl
 | true =>
 cases Cp c.number 1 999 with
 | false=>rfl
 | true =>
 cases Cp c.minute 0 1000000 with
 | false=>rfl
 | true =>
 rcases h4 with h | h | h | h <;> rw [h]
 · cases Cp c.part 0 15 <;> rfl
 · cases Cp c.part 0 15 <;> rfl
 · cases decide (c.part=0) <;> cases Cp c.sg 1 999 <;> rfl
 · cases decide (c.part=0) with
   | false=>rfl
   | true=>cases hs:decide (c.sg=0) <;> simp
def JP (a b:A1):Bool:=decide (a.number=b.number) && !Ej a b
def Ms {α:Type} (bad:α→α→Bool):List α→List α→Bool
 | _,[]=>false
 | pre,c::r=>pre.any (bad c) || Ms bad (pre++[c]) r
theorem Aj7 {α:Type} {l:List α} {i k:Nat} (hi:i≤l.length) (hk:k<i):(l.take i).drop k=l[k]::(l.take i).drop (k+1):=by
 have h:k<(l.take i).length:=by rw [ZaE]; omega
 rw [Zaj h,List.getElem_take]
theorem Agp {l:List A1} {i:Nat} (hi:i<l.length) (hl:l.length≤1000):∀ (n k:Nat),i-k<n→k≤i→Ev n l (i:Int) (k:Int)=some (bif ((l.take i).drop k).any (JP l[i]) then .inr (6,()) else .inl (l,((i:Int),())))
 | 0,_,h,_=>absurd h (Zam _)
 | n+1,k,h,hk=>by
  rw [Ev]
  by_cases hx:k<i
  · have ih:=Agp hi hl n (k+1) (by omega) (by omega)
    rw [Zaf (show(k:Int)<(i:Int) by omega),Zab,BS hi,Zaa,BS (show k<l.length by omega),Zaa,wN k (by omega),Aj7 (by omega) hx,Zb1,ih]
    show(bif decide (l[i].number=l[k].number) then(bif !Ej l[i] l[k] then(some (.inr (6,())):Option ((List A1×Int×Unit) ⊕ (Int×Unit))) else _) else _)=some (bif (decide (l[i].number=l[k].number) && !Ej l[i] l[k]) || _ then _ else _)
    cases decide (l[i].number=l[k].number) <;> cases Ej l[i] l[k] <;> rfl
  · have hd:(l.take i).drop k=[]:=by simp; omega
    rw [Zae (show ¬ (k:Int)<(i:Int) by omega),hd]; rfl
theorem Agq (l:List A1) (hl:l.length≤1000):∀ (n i:Nat),l.length+(l.length-i)<n→i≤l.length→Hf n l (i:Int)=some (bif Ms JP (l.take i) (l.drop i) then .inr (6,()) else .inl ())
 | 0,_,h,_=>absurd h (Zam _)
 | n+1,i,h,hi=>by
  rw [Hf]
  by_cases hx:i<l.length
  · have hd:l.drop i=l[i]::l.drop (i+1):=Zaj hx
    have h3:=Agp hx hl n 0 (by omega) (by omega)
    rw [show((0:Nat):Int)=0 from rfl,Zar] at h3
    rw [show decide ((i:Int)<(l.length:Int))=true by simp; omega,Zab,h3,Zaa,hd]
    unfold Ms
    cases (l.take i).any (JP l[i]) with
    | true=>rfl
    | false =>
     simp only [Zad,Za3,Bool.false_or]
     rw [wN i (by omega),Agq l hl n (i+1) (by omega) (by omega),ZaK hx]
  · have hd:l.drop i=[]:=by simp; omega
    rw [show decide ((i:Int)<(l.length:Int))=false by simp; omega,hd]; rfl
theorem Agr:∀ (l pre:List A1)(m:List (Int×A1))(o:List Int),(∀ c∈pre,En Ce m c.number=some c)→(∀ k d,En Ce m k=some d→d∈pre∧d.number=k)→(AnN m o l=none↔Ms JP pre l=true)
 | [],_,_,_,_,_=>by simp [AnN,Ms]
 | c::l,pre,m,o,h1,h2=>by
  unfold AnN Ms
  cases hm:Dl Ce m c.number with
  | true =>
   simp only [Zab]
   obtain⟨d,hd⟩:∃ d,En Ce m c.number=some d:=by
    unfold Dl at hm
    exact Option.isSome_iff_exists.1 hm
   obtain⟨hdp,hdn⟩:=h2 _ _ hd
   have hg:AV Ce m c.number zC=d:=by unfold AV; rw [hd]; rfl
   rw [hg]
   cases hs:Ej d c with
   | true =>
    have:=RM.1 hs
    subst this
    have hno:pre.any (JP d)=false:=by
     rw [Zbz]
     intro x hx hb
     unfold JP at hb
     rw [Zaq] at hb
     have hn:d.number=x.number:=by simpa using hb.1
     have:=h1 x hx
     rw [← hn,hd] at this
     cases this
     rw [RM.2 rfl] at hb
     simp at hb
    simp only [Zab]
    rw [hno,Bool.false_or]
    refine Agr l (pre++[d]) m o (fun x hx=>?_) (fun k x hx=>?_)
    · rcases Zal.1 hx with hx | hx
      · exact h1 x hx
      · rw [Zaz.1 hx]; exact hd
    · obtain⟨p,q⟩:=h2 k x hx
      exact⟨ZaM _ p,q⟩
   | false =>
    have hyes:pre.any (JP c)=true:=by
     rw [ZaX]
     refine⟨d,hdp,?_⟩
     unfold JP
     rw [Zaf hdn.symm]
     cases hc:Ej c d with
     | false=>rfl
     | true =>
      have:=RM.1 hc
      subst this
      rw [RM.2 rfl] at hs; cases hs
    rw [hyes]
    simp
  | false =>
   simp only [Zad]
   have hno:pre.any (JP c)=false:=by
    rw [Zbz]
    intro x hx hb
    unfold JP at hb
    rw [Zaq] at hb
    have hn:c.number=x.number:=by simpa using hb.1
    unfold Dl at hm
    rw [hn,h1 x hx] at hm; cases hm
   rw [hno,Bool.false_or]
   refine Agr l (pre++[c]) _ _ (fun x hx=>?_) (fun k x hx=>?_)
   · rw [K1 RO]
     rcases Zal.1 hx with hx | hx
     · rw [if_neg ?_]
       · exact h1 x hx
       · intro e
         unfold Dl at hm
         rw [e,h1 x hx] at hm; cases hm
     · rw [Zaz.1 hx,if_pos rfl]
   · rw [K1 RO] at hx
     by_cases e:c.number=k
     · rw [if_pos e] at hx
       cases hx
       exact⟨by simp,e⟩
     · rw [if_neg e] at hx
       obtain⟨p,q⟩:=h2 k x hx
       exact⟨ZaM _ p,q⟩
theorem Aov {n:Nat} {l:List A1} (hk:∀ c∈l,KM c) (hl:l.length≤1000) (hn:2100<n∨2*l.length+1<n):O8 n l=some (AlG l,()):=by
 unfold O8 AlG Mq
 by_cases h40:40<l.length
 · rw [show decide ((l.length:Int)>40)=true by simp; omega,Zab,if_pos h40]
 · rw [show decide ((l.length:Int)>40)=false by simp; omega,Zad,if_neg h40]
   obtain⟨s1,s2⟩:=Gt (F:=fun n i=>He n l i) (G:=fun n i v0=>(L4 n v0).bind fun v1=>bif !v1.fst then(some (.inr (1,()))) else He n l (IntKind.i64.wrap (i+1))) l Jo (l,()) (fun _=>(1,())) 0 (by omega) (fun _ _=>rfl) (fun n i hi _=>by
    rw [Aou n _ (hk _ (Za1 hi)),Zaa]
    cases Jo l[i] <;> rfl) (n:=n) (by omega)
   cases ha:l.all Jo with
   | false =>
    obtain⟨k,hk⟩:=s2 ha
    rw [hk,if_pos rfl]; rfl
   | true =>
    have s1:=s1 ha
    rw [s1,if_neg (by simp),Zaa]
    simp only [Za3]
    have h2:=Agq l hl n 0 (by omega) (by omega)
    rw [show((0:Nat):Int)=0 from rfl,List.take_zero,Zar] at h2
    rw [h2,Zaa]
    have hp:=Agr l [] [] [] (fun c hc=>by cases hc) (fun k d h=>by cases h)
    cases hr:AnN [] [] l with
    | none=>rw [hp.1 hr]; rfl
    | some y =>
     have:Ms JP [] l=false:=by
      cases hb:Ms JP [] l with
      | false=>rfl
      | true=>rw [hp.2 hb] at hr; cases hr
     rw [this]; rfl
theorem Ara {n:Nat} {l:List A1} {d:A1} {at_:Int} (hl:l.length≤1000) (hn:l.length<n):QV n l d at_=some (!decide (at_<d.minute) && l.all fun p=>!(decide (p.minute≤at_) && Yn p d),()):=by
 unfold QV
 show(bif decide (at_<d.minute) then _ else _)=_
 cases decide (at_<d.minute) with
 | true=>rfl
 | false =>
  simp only [Zad,Za4,ZaJ]
  obtain⟨s1,s2⟩:=Gt (F:=fun n i=>AJ n l at_ d i) (G:=fun n i v0=>bif !v0.bus != d.bus then(bif !decide (v0.minute<d.minute) then(bif decide (v0.minute>at_) then(AJ n l at_ d (IntKind.i64.wrap (i+1))) else bif decide (v0.kind.n=2) then(bif !decide (v0.sg=d.number) then(bif decide (v0.kind.n=3) then(bif decide (d.kind.n=0) then(some (.inr (d,(false,())))) else AJ n l at_ d (IntKind.i64.wrap (i+1))) else AJ n l at_ d (IntKind.i64.wrap (i+1))) else some (.inr (d,(false,())))) else bif decide (v0.kind.n=3) then(bif decide (d.kind.n=0) then(some (.inr (d,(false,())))) else AJ n l at_ d (IntKind.i64.wrap (i+1))) else AJ n l at_ d (IntKind.i64.wrap (i+1))) else AJ n l at_ d (IntKind.i64.wrap (i+1))) else AJ n l at_ d (IntKind.i64.wrap (i+1))) l (fun p=>!(decide (p.minute≤at_) && Yn p d)) (d,()) (fun _=>(d,(false,()))) 0 (by omega) (fun _ _=>rfl) (fun n i hi _=>by
   generalize l[i]=v
   unfold Yn
   by_cases hm:v.minute≤at_
   · rw [Zaf hm,Zae (show ¬ v.minute>at_ by omega)]
     rw [show(v.kind.n == 2)=decide (v.kind.n=2) from rfl,show(v.sg == d.number)=decide (v.sg=d.number) from rfl,show(v.kind.n == 3)=decide (v.kind.n=3) from rfl,show(d.kind.n == 0)=decide (d.kind.n=0) from rfl]
     cases v.bus != d.bus <;> cases decide (v.minute<d.minute) <;> cases decide (v.kind.n=2) <;> cases decide (v.sg=d.number) <;> cases decide (v.kind.n=3) <;> cases decide (d.kind.n=0) <;> rfl
   · rw [Zae hm,Zaf (show v.minute>at_ by omega)]
     cases v.bus != d.bus <;> cases decide (v.minute<d.minute) <;> rfl) (n:=n) (by omega)
  cases ha:l.all fun p=>!(decide (p.minute≤at_) && Yn p d) with
  | true =>
   have s1:=s1 ha
   rw [s1]; rfl
  | false =>
   obtain⟨k,hk⟩:=s2 ha
   rw [hk]; rfl
theorem Ags (l:List A1) (hk:∀ c∈l,KM c) (hl:l.length≤1000) (bus at_:Int) (out:List Int) (m:Int):∀ (n i:Nat)(is:Bool),l.length+(l.length-i)<n→i≤l.length→BK n l bus at_ out m is (i:Int)=some (l,(bus,(at_,(out,(m,(is || (l.drop i).any (fun c=>decide (c.number=m) && Amf l bus at_ c),()))))))
 | 0,_,_,h,_=>absurd h (Zam _)
 | n+1,i,is,h,hi=>by
  rw [BK]
  by_cases hx:i<l.length
  · have hd:l.drop i=l[i]::l.drop (i+1):=Zaj hx
    have ih:=fun is=>Ags l hk hl bus at_ out m n (i+1) is (by omega) (by omega)
    have hkd:=hk _ (Za1 hx)
    rw [show decide ((i:Int)<(l.length:Int))=true by simp; omega,Zab,BS hx,Zaa,wN i (by omega),hd,Zb1]
    simp only [Zaa]
    rw [Ara hl (by omega)]
    unfold RC
    simp only [Zaa,ih]
    have hdef:(decide (l[i].kind.n=0) || decide (l[i].kind.n=1))=decide (l[i].kind.n<2):=by
     rw [Bool.eq_iff_iff]
     simp only [ZaT,decide_eq_true_eq]
     have:=hkd.1
     omega
    unfold Amf
    rw [hdef]
    cases is with
    | true=>simp
    | false =>
     cases decide (l[i].number=m) <;> cases decide (l[i].bus=bus) <;> cases decide (l[i].kind.n<2) <;> simp
  · have hd:l.drop i=[]:=by simp; omega
    rw [show decide ((i:Int)<(l.length:Int))=false by simp; omega,hd]
    simp
def AvL (q:Int→Bool):Nat→Nat→List Int
 | 0,_=>[]
 | k+1,s=>(bif q (s:Int) then [(s:Int)] else [])++AvL q k (s+1)
theorem ApN {q:Int→Bool} {x:Int}:∀ (k s:Nat),x∈AvL q k s↔(s:Int)≤x∧x<(s:Int)+(k:Int)∧q x=true
 | 0,s=>by simp [AvL]; omega
 | k+1,s=>by
  unfold AvL
  rw [Zal,ApN k (s+1)]
  have h1:x∈(bif q (s:Int) then [(s:Int)] else [])↔x=(s:Int)∧q x=true:=by
   cases hq:q (s:Int) with
   | true=>simp; rintro rfl; exact hq
   | false =>
    simp
    rintro rfl
    exact hq
  rw [h1]
  constructor
  · rintro(⟨rfl,h⟩ | ⟨a,b,c⟩)
    · exact⟨by omega,by omega,h⟩
    · exact⟨by omega,by omega,c⟩
  · rintro⟨a,b,c⟩
    by_cases e:x=(s:Int)
    · exact .inl ⟨e,c⟩
    · exact .inr ⟨by omega,by omega,c⟩
def Agt (l:List A1) (bus at_:Int) (m:Int):Bool:=l.any fun c=>decide (c.number=m) && Amf l bus at_ c
theorem YE (l:List A1) (hk:∀ c∈l,KM c) (hl:l.length≤40) (bus at_:Int):∀ (n k s:Nat)(out:List Int),s+k=1000→100+k<n→out.length≤s→Ew n l bus at_ out (s:Int)=some (out++AvL (Agt l bus at_) k s,())
 | 0,_,_,_,_,h,_=>absurd h (Zam _)
 | n+1,k,s,out,hsk,h,ho=>by
  rw [Ew]
  cases k with
  | zero =>
   rw [Zae (show ¬ (s:Int)≤999 by omega)]
   simp [AvL]
  | succ k =>
   have h2:=Ags l hk (by omega) bus at_ out (s:Int) n 0 false (by omega) (by omega)
   rw [show((0:Nat):Int)=0 from rfl,Zar,Bool.false_or] at h2
   rw [show(l.any fun c=>decide (c.number=(s:Int)) && Amf l bus at_ c)=Agt l bus at_ (s:Int) from rfl] at h2
   rw [Zaf (show(s:Int)≤999 by omega),Zab,h2,Zaa]
   simp only
   rw [wN s (by omega),AvL]
   cases Agt l bus at_ (s:Int) with
   | true =>
    simp only [Zab]
    rw [AH (by simp; omega),Zaa,YE l hk hl bus at_ n k (s+1) _ (by omega) (by omega) (by simp; omega),Za8]
   | false =>
    simp only [Zad]
    rw [YE l hk hl bus at_ n k (s+1) _ (by omega) (by omega) (by omega),Zav]
def YF (l:List A1) (bus at_:Int):List Int:=AvL (Agt l bus at_) 999 1
theorem AsP {n:Nat} {l:List A1} (hk:∀ c∈l,KM c) (hl:l.length≤40) (hn:1200<n) (bus at_:Int):OB n l bus at_=some (YF l bus at_,()):=by
 unfold OB YF
 have h:=YE l hk hl bus at_ n 999 1 [] (by omega) (by omega) (by simp)
 rw [show((1:Nat):Int)=1 from rfl,Zav] at h
 rw [h]; rfl
theorem Arb {l:List A1} {bus at_:Int} (h:AlG l=0) (hb:(Cp bus 0 99 && Cp at_ 0 1000000)=true) (x:Int):x∈YF l bus at_↔x∈(J7 l bus at_).1:=by
 have hall:∀ c∈l,1≤c.number∧c.number≤999:=fun c hc=>by
  unfold AlG at h
  cases hr:Mq l with
  | inl e=>rw [hr] at h; have:=RN hr; simp only at h; omega
  | inr y =>
   obtain⟨_,ha,_⟩:=WX hr
   have:=ZaD.1 ha c hc
   unfold Jo at this
   simp only [Zaq,D8] at this
   exact this.2.1
 unfold YF
 rw [ApN,AsI h hb]
 unfold Agt
 rw [ZaX]
 constructor
 · rintro⟨_,_,c,hc,hq⟩
   rw [Zaq,decide_eq_true_eq] at hq
   exact⟨c,hc,hq.1,hq.2⟩
 · rintro⟨c,hc,hn,hq⟩
   have:=hall c hc
   exact⟨by omega,by omega,c,hc,by rw [Zaq,decide_eq_true_eq]; exact⟨hn,hq⟩⟩
theorem Arc {l:List A1} {bus at_:Int} (h:AlG l=0) (hb:(Cp bus 0 99 && Cp at_ 0 1000000)=true):YF l bus at_=[]↔(J7 l bus at_).1=[]:=by
 rw [List.eq_nil_iff_forall_not_mem,List.eq_nil_iff_forall_not_mem]
 exact forall_congr' fun x=>not_congr (Arb h hb x)
theorem Aow (n:Nat) (r:Ag) (hk:Xu r):O5 n r=some (Bm r,()):=by
 obtain⟨k0,k2⟩:=hk
 have h4:r.kind.n=0∨r.kind.n=1∨r.kind.n=2:=by omega
 unfold O5 Bm
 simp only [AuS,Zaa]
 cases Cp r.machine 0 999 with
 | false=>rfl
 | true =>
 cases Cp r.seq 1 9999 with
 | false=>rfl
 | true =>
 cases Cp r.minute 0 1000000 with
 | false=>rfl
 | true =>
 rcases h4 with h | h | h <;> rw [h]
 · cases Cp r.a 0 99 <;> cases Cp r.b 0 10000 <;> rfl
 · cases Cp r.a 0 1000000 <;> rfl
 · cases Cp r.a 0 9999 <;> cases Cp r.b 0 10000000 <;> rfl
theorem Agu {lists:List (List Ag)} (hk:∀ l∈lists,∀ r∈l,Xu r) {i:Nat} (hi:i<lists.length) (hl:lists[i].length≤1000):∀ (n k:Nat),lists[i].length-k<n→k≤lists[i].length→Hh n lists (i:Int) (k:Int)=some (bif (lists[i].drop k).all Bm then .inl (lists,((i:Int),())) else .inr (1,()))
 | 0,_,h,_=>absurd h (Zam _)
 | n+1,k,h,hkk=>by
  rw [Hh,BS hi,Zaa]
  by_cases hx:k<lists[i].length
  · have hd:lists[i].drop k=lists[i][k]::lists[i].drop (k+1):=Zaj hx
    rw [show decide ((k:Int)<(lists[i].length:Int))=true by simp; omega,Zab,Zaa,BS hx,Zaa,Aow n _ (hk _ (Za1 hi) _ (Za1 hx)),Zaa,hd,ZaU,wN k (by omega),Agu hk hi hl n (k+1) (by omega) (by omega)]
    cases Bm lists[i][k] <;> rfl
  · have hd:lists[i].drop k=[]:=by simp; omega
    rw [show decide ((k:Int)<(lists[i].length:Int))=false by simp; omega,hd]; rfl
theorem Agv {lists:List (List Ag)} (hk:∀ l∈lists,∀ r∈l,Xu r) (hl:lists.length≤1000) (hl2:∀ l∈lists,l.length≤1000):∀ (n i:Nat),1001+(lists.length-i)<n→i≤lists.length→Hi n lists (i:Int)=some (bif (lists.drop i).all (fun l=>l.all Bm) then .inl () else .inr (1,()))
 | 0,_,h,_=>absurd h (Zam _)
 | n+1,i,h,hi=>by
  rw [Hi]
  by_cases hx:i<lists.length
  · have hd:lists.drop i=lists[i]::lists.drop (i+1):=Zaj hx
    have h2:=hl2 _ (Za1 hx)
    have h3:=Agu hk hx h2 n 0 (by omega) (by omega)
    rw [show((0:Nat):Int)=0 from rfl,Zar] at h3
    rw [show decide ((i:Int)<(lists.length:Int))=true by simp; omega,Zab,h3,Zaa,hd,ZaU]
    cases lists[i].all Bm with
    | false=>rfl
    | true =>
     simp only [Zab,Za3,ZaJ]
     rw [wN i (by omega),Agv hk hl hl2 n (i+1) (by omega) (by omega)]
  · have hd:lists.drop i=[]:=by simp; omega
    rw [show decide ((i:Int)<(lists.length:Int))=false by simp; omega,hd]; rfl
theorem Aox {n:Nat} {lists:List (List Ag)} (hk:∀ l∈lists,∀ r∈l,Xu r) (hl:lists.length≤100) (hl2:∀ l∈lists,l.length≤1000) (hn:1200<n):O9 n lists=some (UB lists,()):=by
 unfold O9 UB
 by_cases h6:6<lists.length
 · rw [show decide ((lists.length:Int)>6)=true by simp; omega,if_pos h6]; rfl
 · rw [show decide ((lists.length:Int)>6)=false by simp; omega,if_neg h6,Zad]
   obtain⟨s1,s2⟩:=Gt (F:=fun n i=>Hg n lists i) (G:=fun n i v0=>bif decide ((↑v0.length:Int)>60) then(some (.inr (3,()))) else Hg n lists (IntKind.i64.wrap (i+1))) lists (fun l=>decide (l.length≤60)) (lists,()) (fun _=>(3,())) 0 (by omega) (fun _ _=>rfl) (fun n i hi _=>by
    by_cases hc:lists[i].length≤60
    · rw [Zaf hc,Zae (show ¬ ((lists[i].length:Int)>60) by omega)]; rfl
    · rw [Zae hc,Zaf (show((lists[i].length:Int)>60) by omega)]; rfl) (n:=n) (by omega)
   cases ha:lists.all fun l=>decide (l.length≤60) with
   | false =>
    obtain⟨k,hk⟩:=s2 ha
    rw [hk]; rfl
   | true =>
    rw [s1 ha,Zaa]
    have h2:=Agv hk (by omega) hl2 n 0 (by omega) (by omega)
    rw [show((0:Nat):Int)=0 from rfl,Zar] at h2
    simp only [Za3]
    rw [h2]
    cases lists.all fun l=>l.all Bm <;> rfl
def Ard (a b:Ag):Bool:=!B6 a b && (decide (a.machine=b.machine) && (decide (a.seq=b.seq) || (decide (a.seq>b.seq) && decide (a.minute<b.minute) || decide (a.seq<b.seq) && decide (a.minute>b.minute))))
theorem AiB (n:Nat) (a b:Ag):L1 n a b=some (Ard a b,()):=by
 show(bif !B6 a b then _ else _)=_
 unfold Ard
 rw [show(a.machine != b.machine)=!decide (a.machine=b.machine) from rfl]
 cases B6 a b <;> cases decide (a.machine=b.machine) <;> cases decide (a.seq=b.seq) <;> cases decide (a.seq>b.seq) <;> cases decide (a.minute<b.minute) <;> cases decide (a.seq<b.seq) <;> cases decide (a.minute>b.minute) <;> rfl
theorem Amq {l:List Ag} {i:Nat} (hi:i<l.length) (hl:l.length≤1000):∀ (n k:Nat),i-k<n→k≤i→BP n l (i:Int) (k:Int)=some (bif ((l.take i).drop k).any (Ard l[i]) then .inr (true,()) else .inl (l,((i:Int),())))
 | 0,_,h,_=>absurd h (Zam _)
 | n+1,k,h,hk=>by
  rw [BP]
  by_cases hx:k<i
  · rw [Zaf (show(k:Int)<(i:Int) by omega),Zab,BS hi,Zaa,BS (show k<l.length by omega),Zaa,AiB,Zaa,wN k (by omega),Aj7 (by omega) hx,Zb1,Amq hi hl n (k+1) (by omega) (by omega)]
    cases Ard l[i] l[k] <;> rfl
  · have hd:(l.take i).drop k=[]:=by simp; omega
    rw [Zae (show ¬ (k:Int)<(i:Int) by omega),hd]; rfl
theorem Amr (l:List Ag) (hl:l.length≤1000):∀ (n i:Nat),l.length+(l.length-i)<n→i≤l.length→BQ n l (i:Int)=some (bif Ms Ard (l.take i) (l.drop i) then .inr (true,()) else .inl ())
 | 0,_,h,_=>absurd h (Zam _)
 | n+1,i,h,hi=>by
  rw [BQ]
  by_cases hx:i<l.length
  · have hd:l.drop i=l[i]::l.drop (i+1):=Zaj hx
    have h3:=Amq hx hl n 0 (by omega) (by omega)
    rw [show((0:Nat):Int)=0 from rfl,Zar] at h3
    rw [show decide ((i:Int)<(l.length:Int))=true by simp; omega,Zab,h3,Zaa,hd]
    unfold Ms
    cases (l.take i).any (Ard l[i]) with
    | true=>rfl
    | false =>
     simp only [Zad,Za3,Bool.false_or]
     rw [wN i (by omega),Amr l hl n (i+1) (by omega) (by omega),ZaK hx]
  · have hd:l.drop i=[]:=by simp; omega
    rw [show decide ((i:Int)<(l.length:Int))=false by simp; omega,hd]; rfl
theorem Acu {n:Nat} {l:List Ag} (hl:l.length≤500) (hn:1100<n):EI n l=some (Ms Ard [] l,()):=by
 unfold EI
 have h:=Amr l (by omega) n 0 (by omega) (by omega)
 rw [show((0:Nat):Int)=0 from rfl,List.take_zero,Zar] at h
 rw [h]
 cases Ms Ard [] l <;> rfl
theorem AdP {α:Type} {bad:α→α→Bool}:∀ {l pre:List α},Ms bad pre l=false↔(∀ c∈l,∀ a∈pre,bad c a=false)∧l.Pairwise fun a c=>bad c a=false
 | [],pre=>by simp [Ms]
 | x::l,pre=>by
  unfold Ms
  rw [Zbl,Zbz,AdP,Zba]
  constructor
  · rintro⟨h1,h2,h3⟩
    refine⟨fun c hc a ha=>?_,fun c hc=>h2 c hc x (by simp),h3⟩
    rcases Zak.1 hc with rfl | hc
    · simpa using h1 a ha
    · exact h2 c hc a (ZaM _ ha)
  · rintro⟨h1,h2,h3⟩
    refine⟨fun a ha=>by simpa using h1 x (by simp) a ha,fun c hc a ha=>?_,h3⟩
    rcases Zal.1 ha with ha | ha
    · exact h1 c (by simp [hc]) a ha
    · rw [Zaz.1 ha]; exact h2 c hc
theorem Ak9 {a c:Ag} (hne:a≠c):Ard c a=false↔Amm a c:=by
 have hs:B6 c a=false:=by
  cases hb:B6 c a with
  | false=>rfl
  | true=>exact absurd (II.1 hb).symm hne
 unfold Ard Amm
 rw [hs,AsL]
 simp only [Za4,ZaJ,Bool.and_eq_false_iff,Zbl,decide_eq_false_iff_not]
 constructor
 · rintro(h | ⟨h1,h2,h3⟩)
   · exact⟨fun e=>h e.1.symm,fun e=>absurd e.symm h⟩
   · exact⟨fun e=>h1 e.2.symm,fun e=>⟨fun hlt=>by omega,fun hlt=>by omega⟩⟩
 · rintro⟨h1,h2⟩
   by_cases e:c.machine=a.machine
   · right
     have:=h2 e.symm
     refine⟨fun e2=>h1 ⟨e.symm,e2.symm⟩,?_,?_⟩
     · by_cases q:c.seq>a.seq
       · right; have:=this.1 q; omega
       · exact .inl q
     · by_cases q:c.seq<a.seq
       · right; have:=this.2 q; omega
       · exact .inl q
   · exact .inl e
open Classical in
theorem Aoy {n:Nat} {s:An} (hr:Up s.records) (hk:∀ r∈s.records,Xu r) {r:Ag} (hkr:Xu r) (hn:1300<n):N6 n s r=some ((MC s r).1,((MC s r).2,())):=by
 have h60:=hr.len
 unfold N6
 obtain⟨s1,s2⟩:=Gt (F:=fun n i=>I9 n s r (An.mk [] [] [] [] (Ax.mk 0 [] [] 0 0 0) []) i) (G:=fun n i v0=>bif B6 v0 r then(some (.inr (s,(r,(s,((),(6,()))))))) else I9 n s r (An.mk [] [] [] [] (Ax.mk 0 [] [] 0 0 0) []) (IntKind.i64.wrap (i+1))) s.records (fun v0=>!B6 v0 r) (s,(r,(An.mk [] [] [] [] (Ax.mk 0 [] [] 0 0 0) [],((),((),((),())))))) (fun _=>(s,(r,(s,((),(6,())))))) 0 (by omega) (fun _ _=>rfl) (fun n i hi _=>by
  cases B6 s.records[i] r <;> rfl) (n:=n) (by omega)
 cases hs:s.records.any (B6 r) with
 | true =>
  have ha:(s.records.all fun v0=>!B6 v0 r)=false:=by
   rw [List.all_eq_false]
   obtain⟨x,hx,e⟩:=ZaX.1 hs
   exact⟨x,hx,by rw [II.2 (II.1 e).symm]; simp⟩
  obtain⟨k,hk2⟩:=s2 ha
  rw [hk2]
  unfold MC
  rw [hs]; rfl
 | false =>
  have ha:(s.records.all fun v0=>!B6 v0 r)=true:=by
   rw [ZaD]
   intro x hx
   cases hb:B6 x r with
   | false=>rfl
   | true =>
    have:s.records.any (B6 r)=true:=ZaX.2 ⟨x,hx,II.2 (II.1 hb).symm⟩
    rw [this] at hs; cases hs
  rw [s1 ha,Zaa]
  simp only [Za3]
  have hne:∀ a∈s.records,a≠r:=fun a ha e=>by
   have:s.records.any (B6 r)=true:=ZaX.2 ⟨a,ha,II.2 e.symm⟩
   rw [this] at hs; cases hs
  have hF:=Aox (n:=n) (lists:=[s.records,[r]]) (fun l hl=>by
   rcases Zak.1 hl with rfl | hl
   · exact hk
   · rw [Zaz.1 hl]
     intro r' hr'
     rw [Zaz.1 hr']; exact hkr) (by simp) (fun l hl=>by
   rcases Zak.1 hl with rfl | hl
   · omega
   · rw [Zaz.1 hl]; simp) (by omega)
  have hchk:UB [s.records,[r]]=if Bm r=false then 1 else 0:=by
   unfold UB
   have e1:s.records.all Bm=true:=ZaD.2 hr.right
   rw [if_neg (by simp)]
   simp only [ZaU,List.all_nil,Bool.and_true,Za6,Zbp,e1,ZaJ]
   rw [Zaf h60]
   cases Bm r <;> rfl
  have hA:app [] s.records=some s.records:=by rw [AH (by simp; omega)]; rfl
  have hB:app s.records [r]=some (s.records++[r]):=AH (by simp; omega)
  have hC:=Acu (n:=n) (l:=s.records++[r]) (by simp; omega) (by omega)
  have hm:=Aj6 hr hs
  rw [hF,hchk,Zaa]
  unfold MC
  simp only [hs,Za0,if_false]
  rw [hm]
  cases hrr:Bm r with
  | false=>rfl
  | true =>
   simp only [Bool.true_eq_false,if_false]
   rw [show((0:Int) != 0)=false from rfl,Zad,hA,Zaa,hB,Zaa,hC,Zaa]
   have hp:Ms Ard [] (s.records++[r])=false↔∀ a∈s.records,Amm a r:=by
    rw [AdP,Aa8]
    constructor
    · rintro⟨_,_,h⟩ a ha
      exact(Ak9 (hne a ha)).1 (h a ha)
    · intro h
      refine⟨fun c _ a ha=>by simp at ha,hr.cmp.imp (fun {a b} hab=>?_),fun a ha=>(Ak9 (hne a ha)).2 (h a ha)⟩
      exact(Ak9 (fun e=>hab.1 (by rw [e]))).2 hab
   by_cases hcm:∀ a∈s.records,Amm a r
   · rw [hp.2 hcm]
     have e6:(if ¬ ∀ a∈s.records,Amm a r then(6:Int) else if 60≤s.records.length then 3 else 0)=if 60≤s.records.length then 3 else 0:=if_neg fun h=>h hcm
     rw [e6]
     simp only [Zad]
     by_cases h6:60≤s.records.length
     · rw [if_pos h6,Zaf (show(((s.records++[r]).length:Nat):Int)>60 by simp; omega)]; rfl
     · rw [if_neg h6,Zae (show ¬ (((s.records++[r]).length:Nat):Int)>60 by simp; omega)]; rfl
   · have hb:Ms Ard [] (s.records++[r])=true:=by
      cases h:Ms Ard [] (s.records++[r]) with
      | true=>rfl
      | false=>exact absurd (hp.1 h) hcm
     rw [hb,if_pos hcm]; rfl
theorem AsQ {n:Nat} {s:An} (hg:Gr s) {c:A1} (hk:KM c) (hn:300<n):SG n s c=some ((Ik s c).1,((Ik s c).2,())):=by
 have h40:=hg.cards
 unfold SG
 obtain⟨s1,s2⟩:=Gt (F:=fun n i=>LC n s c (An.mk [] [] [] [] (Ax.mk 0 [] [] 0 0 0) []) i) (G:=fun n i v0=>bif Ej v0 c then(some (.inr (s,(c,(s,((),(6,()))))))) else LC n s c (An.mk [] [] [] [] (Ax.mk 0 [] [] 0 0 0) []) (IntKind.i64.wrap (i+1))) s.cards (fun v0=>!Ej v0 c) (s,(c,(An.mk [] [] [] [] (Ax.mk 0 [] [] 0 0 0) [],((),((),((),())))))) (fun _=>(s,(c,(s,((),(6,())))))) 0 (by omega) (fun _ _=>rfl) (fun n i hi _=>by
  cases Ej s.cards[i] c <;> rfl) (n:=n) (by omega)
 unfold Ik
 cases hs:s.cards.any (fun a=>Ej a c) with
 | true =>
  have ha:(s.cards.all fun v0=>!Ej v0 c)=false:=by
   rw [List.all_eq_false]
   obtain⟨x,hx,e⟩:=ZaX.1 hs
   exact⟨x,hx,by rw [e]; simp⟩
  obtain⟨k,hk2⟩:=s2 ha
  rw [hk2]; rfl
 | false =>
  have ha:(s.cards.all fun v0=>!Ej v0 c)=true:=by
   rw [ZaD]
   intro x hx
   have:=Zbz.1 hs x hx
   simpa using this
  rw [s1 ha,Zaa]
  simp only [Za3]
  rw [AH (by simp; omega),Zaa,Zav,AH (by simp; omega),Zaa,Aov (fun a ha=>by
   rcases Zal.1 ha with ha | ha
   · exact hg.kind a ha
   · rw [Zaz.1 ha]; exact hk) (by simp; omega) (.inr (by simp; omega)),Zaa]
  by_cases h0:AlG (s.cards++[c])=0
  · rw [h0]; rfl
  · rw [show(AlG (s.cards++[c]) != 0)=true by simpa using h0,if_neg (by simp),if_neg h0]; rfl
theorem Agw (s:An) (bus:Int) (hl:s.outs.length≤1000):∀ (n i:Nat),s.outs.length-i<n→i≤s.outs.length→L6 n bus s (i:Int)=some (match (s.outs.drop i).findIdx? (fun o=>decide (o.bus=bus)) with | some k=>.inr (s,(((i+k:Nat):Int),())) | none=>.inl (s,()))
 | 0,_,h,_=>absurd h (Zam _)
 | n+1,i,h,hi=>by
  rw [L6]
  by_cases hx:i<s.outs.length
  · have hd:s.outs.drop i=s.outs[i]::s.outs.drop (i+1):=Zaj hx
    rw [show decide ((i:Int)<(s.outs.length:Int))=true by simp; omega,Zab,BS hx,Zaa,hd,wN i (by omega),List.findIdx?_cons]
    cases decide (s.outs[i].bus=bus) with
    | true=>simp
    | false =>
     rw [Zad,Agw s bus hl n (i+1) (by omega) (by omega)]
     cases (s.outs.drop (i+1)).findIdx? (fun o=>decide (o.bus=bus)) with
     | none=>rfl
     | some k =>
      show(some (.inr (s,(((i+1+k:Nat):Int),()))):Option ((An×Unit) ⊕ (An×Int×Unit)))=some (.inr (s,(((i+(k+1):Nat):Int),())))
      rw [show i+1+k=i+(k+1) by omega]
  · have hd:s.outs.drop i=[]:=by simp; omega
    rw [show decide ((i:Int)<(s.outs.length:Int))=false by simp; omega,hd]
    rfl
theorem Ams {n:Nat} {s:An} (hl:s.outs.length≤1000) (bus:Int) (hn:s.outs.length<n):Xn n s bus=some (Q7 s.outs bus,()):=by
 unfold Xn Q7 Vn
 have h:=Agw s bus hl n 0 (by omega) (by omega)
 rw [show((0:Nat):Int)=0 from rfl,Zar] at h
 rw [h]
 cases s.outs.findIdx? (fun o=>decide (o.bus=bus)) <;> simp
theorem Awp {n:Nat} {s:An} (hg:Gr s) {a b c:Int} (hn:300<n):GS n s (B [105,110]) [a,b,c]=some ((ApI s a b c).1,((ApI s a b c).2,())):=by
 have h1:=hg.outs
 have h2:=hg.runs
 have i0:A3 [a,b,c] 0=some a:=rfl
 have i1:A3 [a,b,c] 1=some b:=rfl
 have i2:A3 [a,b,c] 2=some c:=rfl
 unfold GS ApI
 rw [i0,Zaa,Ams (by omega) a (by omega),Zaa,show(B [105,110]).beq (B [105,110])=true by decide,Zab,i1,i2]
 simp only [Zaa,Ak8]
 unfold Q7
 cases hgo:Vn s.outs a with
 | none=>rfl
 | some k =>
  obtain⟨hk,_⟩:=AfX hgo
  simp only
  rw [Zae (show ¬ ((k:Int)<0) by omega),Zad,BS hk,Zaa,Zan hk,Au8 (by omega),Zaa,wN k (by omega),AfZ (by omega) (Zap _),AH (by rw [ZaE]; simp; omega),Zaa,Zav,Zaa,AH (by simp only [ZaE,ZaG]; omega),Zaa,AH (by simp; omega),Zaa,Zav,AH (by simp; omega),Zaa]
  have he:s.outs.take k++(s.outs.drop (k+1)).take (s.outs.length-(k+1))=s.outs.eraseIdx k:=by
   rw [ZaL (l:=s.outs.drop (k+1)) (by rw [ZaG]; omega),List.eraseIdx_eq_take_drop_succ]
  rw [he]
  simp only
  by_cases c1:b<s.outs[k].fr
  · rw [Zaf c1,show Cp b s.outs[k].fr 1000000=false from WV.2 (by omega)]; rfl
  · by_cases c2:b>1000000
    · rw [Zae c1,Zaf c2,show Cp b s.outs[k].fr 1000000=false from WV.2 (by omega)]; rfl
    · rw [Zae c1,Zae c2,show Cp b s.outs[k].fr 1000000=true from D8.2 (by omega)]
      cases Cp c 0 1000 <;> rfl
theorem AuT {n:Nat} {s:An} (hg:Gr s) {a b:Int} (hn:1300<n):GS n s (B [111,117,116]) [a,b]=some ((Aa4 s a b).1,((Aa4 s a b).2,())):=by
 have h1:=hg.outs
 have h2:=hg.runs
 have h3:=hg.cards
 have i0:A3 [a,b] 0=some a:=rfl
 have i1:A3 [a,b] 1=some b:=rfl
 unfold GS
 rw [i0,Zaa,Ams (by omega) a (by omega),Zaa,show(B [111,117,116]).beq (B [105,110])=false by decide,Zad,i1,Zaa]
 simp only [Zaa,Ak8]
 unfold Aa4
 cases hb1:Cp a 0 99 with
 | false=>rfl
 | true =>
  cases hb2:Cp b 0 1000000 with
  | false=>rfl
  | true =>
   simp only [ZaB,Za4,Zab,Zad,Zb0,if_true]
   by_cases hgo:Q7 s.outs a<0
   · rw [Zae (show ¬ Q7 s.outs a≥0 by omega),if_pos hgo,Zad]
     obtain⟨s1,s2⟩:=Gt (F:=fun n i=>C6 n [a,b] s (An.mk [] [] [] [] (Ax.mk 0 [] [] 0 0 0) []) i) (G:=fun n i v0=>bif decide (v0.bus=a) then((A3 s.runs i).bind fun v2=>bif decide (v2.to_>b) then(some (.inr (s,(s,((),(8,())))))) else C6 n [a,b] s (An.mk [] [] [] [] (Ax.mk 0 [] [] 0 0 0) []) (IntKind.i64.wrap (i+1))) else C6 n [a,b] s (An.mk [] [] [] [] (Ax.mk 0 [] [] 0 0 0) []) (IntKind.i64.wrap (i+1))) s.runs (fun r=>!decide (r.bus=a) || decide (r.to_≤b)) (s,(An.mk [] [] [] [] (Ax.mk 0 [] [] 0 0 0) [],([a,b],((),((),()))))) (fun _=>(s,(s,((),(8,()))))) 0 (by omega) (fun n i=>by
       show C6 (n+1) [a,b] s _ i=_
       rw [C6,i0,i1]
       rfl) (fun n i hi _=>by
      rw [BS hi,Zaa]
      by_cases c1:s.runs[i].bus=a
      · by_cases c2:s.runs[i].to_>b
        · rw [Zaf c1,Zaf c2,Zae (show ¬ s.runs[i].to_≤b by omega)]; rfl
        · rw [Zaf c1,Zae c2,Zaf (show s.runs[i].to_≤b by omega)]; rfl
      · rw [Zae c1]; rfl) (n:=n) (by omega)
     unfold AdM
     cases hr:s.runs.all fun r=>!decide (r.bus=a) || decide (r.to_≤b) with
     | false =>
      obtain⟨k,hk⟩:=s2 hr
      rw [hk]; rfl
     | true =>
      rw [s1 hr,Zaa]
      simp only [Za3]
      have hz:(J7 s.cards a b).2=0:=by
       have hc:=hg.chk
       unfold AlG at hc
       unfold J7
       cases hr:Mq s.cards with
       | inl e=>rw [hr] at hc; have:=RN hr; simp only at hc; omega
       | inr y=>simp only; rw [hb1,hb2]; rfl
      have hnil:=Arc (bus:=a) (at_:=b) hg.chk (by rw [hb1,hb2]; rfl)
      rw [i0,Zaa,i1,Zaa,AsP hg.kind h3 (by omega),Zaa]
      simp only [if_true,if_pos hz,Zaa]
      by_cases hl:(J7 s.cards a b).1=[]
      · rw [hnil.2 hl,if_pos hl]
        rw [AH (by simp; omega),Zaa,Zav,AH (by simp; omega),Zaa]
        rfl
      · have:YF s.cards a b≠[]:=fun h=>hl (hnil.1 h)
        rw [if_neg hl,Zaf (show(((YF s.cards a b).length:Nat):Int)>0 by have:=List.length_pos_iff.2 this; omega)]
        rfl
   · rw [Zaf (show Q7 s.outs a≥0 by omega),if_neg hgo]; rfl
end Go.Proofs.YtkpgggfibljflaaGreatDoor
