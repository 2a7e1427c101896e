/- The plain law. -/
import Derived.Test.YtkpgggfibljflaaGreatDoorgFL03
set_option linter.all false
set_option maxRecDepth 100000
namespace Go.Proofs.YtkpgggfibljflaaGreatDoor
open Go Go.RowKit Go.Proofs
def IP (b:Bool) (e:Int):Unit ⊕ (AI×Unit):=bif b then .inl () else .inr (AI.mk e,())
theorem Is (n:Nat) (b:Bool) (e:Int):AE n b e=some (IP b e):=by cases b <;> rfl
theorem Ab7 (n:Nat) (e:Int):Dn n e=some (IP (decide (e=0)) e):=by
 unfold Dn
 rw [Is]
 cases decide (e=0) <;> rfl
theorem KO (n:Nat) (x lo hi:Int):Bz n x lo hi=some (Co x lo hi,()):=by
 unfold Bz Co
 cases decide (lo≤x) <;> rfl
theorem Lj {α:Type} {l:List α} (h:l.length≤1000000000):app [] l=some l:=AK (a:=[]) (by simpa using h)
theorem Aos {n:Nat} {l:List A0} {x:A0} (h:l.length<1000000000):HN n l x=some (l++[x],()):=by
 unfold HN Akf
 rw [Lj (by omega)]
 simp only [Zaa]
 rw [AK (by simp; omega)]; rfl
theorem Aqs {n:Nat} {l:List Sm} {x:Sm} (h:l.length<1000000000):Gc n l x=some (l++[x],()):=by
 unfold Gc UB
 rw [Lj (by omega)]
 simp only [Zaa]
 rw [AK (by simp; omega)]; rfl
theorem Aqt {n:Nat} {l:List SM} {x:SM} (h:l.length<1000000000):Gd n l x=some (l++[x],()):=by
 unfold Gd AnE
 rw [Lj (by omega)]
 simp only [Zaa]
 rw [AK (by simp; omega)]; rfl
theorem AkA {n:Nat} {l:List Ag} {x:Ag} (h:l.length<1000000000):FG n l x=some (l++[x],()):=by
 unfold FG AnF
 rw [Lj (by omega)]
 simp only [Zaa]
 rw [AK (by simp; omega)]; rfl
theorem AkB {n:Nat} {l:List AJ} {x:AJ} (h:l.length<1000000000):FH n l x=some (l++[x],()):=by
 unfold FH Akb
 rw [Lj (by omega)]
 simp only [Zaa]
 rw [AK (by simp; omega)]; rfl
theorem Aot {n:Nat} {l:List AP} {x:AP} (h:l.length<1000000000):HT n l x=some (l++[x],()):=by
 unfold HT Akd
 rw [Lj (by omega)]
 simp only [Zaa]
 rw [AK (by simp; omega)]; rfl
theorem Aqu {n:Nat} {l:List Int} {x:Int} (h:l.length<1000000000):Ja n l x=some (l++[x],()):=by
 unfold Ja Aa6
 rw [Lj (by omega)]
 simp only [Zaa]
 rw [AK (by simp; omega)]; rfl
def Aqv (c:A0):Bool:=bif decide (c.kind.n<2) then Co c.part 0 15 && decide (c.sg=0) else decide (c.part=0) && (decide (c.kind.n=2) && Co c.sg 1 999 || decide (c.kind.n=3) && decide (c.sg=0))
def J0 (c:A0):Bool:=Co c.bus 0 99 && (Co c.number 1 999 && (Co c.minute 0 1000000 && Aqv c))
theorem Au3 (n:Nat) (c:A0) (hk:0≤c.kind.n∧c.kind.n≤3):Hb n c=some (J0 c,()):=by
 have h4:c.kind.n=0∨c.kind.n=1∨c.kind.n=2∨c.kind.n=3:=by omega
 unfold Hb J0 Aqv Co
 obtain⟨bus,number,minute,⟨k⟩,part,sg⟩:=c
 simp only at h4 ⊢
 cases decide (0≤bus) with
 | false=>rfl
 | true =>
 cases decide (bus≤99) with
 | false=>rfl
 | true =>
 cases decide (1≤number) with
 | false=>rfl
 | true =>
 cases decide (number≤999) with
 | false=>rfl
 | true =>
 cases decide (0≤minute) with
 | false=>rfl
 | true =>
 cases decide (minute≤1000000) with
 | false=>rfl
 | true =>
 rcases h4 with rfl | rfl | rfl | rfl
 · show(bif decide (0≤part) then(bif decide (part≤15) then(some (decide (sg=0),())) else some (false,())) else some (false,()))=_
   cases decide (0≤part) <;> cases decide (part≤15) <;> simp
 · show(bif decide (0≤part) then(bif decide (part≤15) then(some (decide (sg=0),())) else some (false,())) else some (false,()))=_
   cases decide (0≤part) <;> cases decide (part≤15) <;> simp
 · show(bif decide (part=0) then(bif decide (1≤sg) then(some (decide (sg≤999),())) else some (false,())) else some (false,()))=_
   cases decide (part=0) <;> cases decide (1≤sg) <;> simp
 · show(bif decide (part=0) then(some (decide (sg=0),())) else some (false,()))=_
   cases decide (part=0) <;> simp
def En (a c:A0):Bool:=decide (a.bus=c.bus) && (decide (a.number=c.number) && (decide (a.minute=c.minute) && (decide (a.kind.n=c.kind.n) && (decide (a.part=c.part) && (decide (a.sg=c.sg) && true)))))
theorem SO {a c:A0}:En a c=true↔a=c:=by
 obtain⟨a1,a2,a3,⟨a4⟩,a5,a6⟩:=a
 obtain⟨c1,c2,c3,⟨c4⟩,c5,c6⟩:=c
 simp [En]
theorem Aqw {n:Nat} (g:Aj) (c:A0) (l:List A0) (hl:l.length≤4000000000000000000) (h:l.length+1≤n):Bt n g c l (l.length:Int) 0=some (bif l.any (fun a=>En a c) then .inr (g,(c,(AI.mk 6,()))) else .inl (g,(c,((),((),()))))):=by
 have key:=Al1 (F:=fun n (_:Unit) i=>Bt n g c l (l.length:Int) i) (l:=l) (N:=0) (T:=fun s i a=>bif En a c then .inr (.inr (g,(c,(AI.mk 6,())))) else .inl s) (E:=fun _=>.inl (g,(c,((),((),())))))
  (B:=fun n _ i v0=>(AE n (!En v0 c) 6).bind fun v1=>Sum.elim (fun v2=>Bt n g c l (l.length:Int) (IntKind.i64.wrap (i+1))) (fun v2=>some (.inr (g,(c,(v2.fst,()))))) (v1)) (fun _ _=>True)
  (fun _ _ _=>rfl) (fun n s i hi _ _=>by
   rw [Is]
   cases En l[i] c
   · exact⟨rfl,trivial⟩
   · rfl) hl l.length () 0 n (by simp) (by omega) trivial
 rw [show((0:Nat):Int)=0 from rfl,Zar] at key
 rw [key]
 congr 1
 suffices H:∀ (l:List A0)(i:Nat),Auo (fun(s:Unit)(i:Nat) a=>bif En a c then .inr (.inr (g,(c,(AI.mk 6,())))) else .inl s) (fun _=>(.inl (g,(c,((),((),())))):(Aj×A0×Unit×Unit×Unit) ⊕ ((Aj×A0×AI×Unit)))) i () l=(bif l.any (fun a=>En a c) then .inr (g,(c,(AI.mk 6,()))) else .inl (g,(c,((),((),()))))) from H l 0
 intro l
 induction l with
 | nil=>intro i; rfl
 | cons a l ih =>
  intro i
  unfold Auo
  rw [Zby]
  cases En a c
  · exact ih (i+1)
  · rfl
def Lk (c:A0):Prop:=0≤c.kind.n∧c.kind.n≤3
theorem AmF {α R:Type} (p:α→Bool) (r:Nat→R) (E:R):∀ (l:List α)(i:Nat),(l.all p=true→Auo (fun(s:Unit) i a=>bif p a then .inl s else .inr (r i)) (fun _=>E) i () l=E)∧(l.all p=false→∃ k,Auo (fun(s:Unit) i a=>bif p a then .inl s else .inr (r i)) (fun _=>E) i () l=r k)
 | [],i=>⟨fun _=>rfl,fun h=>by cases h⟩
 | a::l,i=>by
  obtain⟨h1,h2⟩:=AmF p r E l (i+1)
  unfold Auo
  rw [ZaN]
  cases hp:p a with
  | false=>exact⟨(fun h=>by cases h),fun _=>⟨i,rfl⟩⟩
  | true =>
   simp only [ZaD,Zab]
   exact⟨h1,h2⟩
theorem Aqx {n:Nat} {l:List A0} (hk:∀ c∈l,Lk c) (hl:l.length≤1000) (h:l.length<n):(l.all J0=true→G1 n l (l.length:Int) 0=some (.inl ((((),()),()),())))∧(l.all J0=false→∃ k:Nat,G1 n l (l.length:Int) 0=some (.inr ((((),()),()),((k:Int),())))):=by
 have key:=Al1 (F:=fun n (_:Unit) i=>G1 n l (l.length:Int) i) (l:=l) (N:=0) (T:=fun s i a=>bif J0 a then .inl s else .inr (.inr ((((),()),()),((i:Int),())))) (E:=fun _=>.inl ((((),()),()),()))
  (B:=fun n _ i v0=>(Hb n v0).bind fun v1=>bif !v1.fst then(some (.inr ((((),()),()),(i,())))) else G1 n l (l.length:Int) (IntKind.i64.wrap (i+1))) (fun _ _=>True)
  (fun _ _ _=>rfl) (fun n s i hi _ _=>by
   rw [Au3 n _ (hk _ (Zax hi))]
   cases J0 l[i]
   · rfl
   · exact⟨rfl,trivial⟩) (by omega) l.length () 0 n (by simp) (by omega) trivial
 rw [show((0:Nat):Int)=0 from rfl,Zar] at key
 obtain⟨h1,h2⟩:=AmF (R:=((((Unit×Unit)×Unit)×Unit) ⊕ ((((Unit×Unit)×Unit)×Int×Unit)))) J0 (fun i=>.inr ((((),()),()),((i:Int),()))) (.inl ((((),()),()),())) l 0
 exact⟨fun h=>by rw [key,h1 h],fun h=>by obtain⟨k,hk⟩:=h2 h; exact⟨k,by rw [key,hk]⟩⟩
def zC:A0:=A0.mk 0 0 0 (IK.mk 0) 0 0
def Aqp:List (Int×A0)→List Int→List A0→Option (List (Int×A0)×List Int)
 | m,o,[]=>some (m,o)
 | m,o,c::l=>bif Dm Ce m c.number then(bif En (AY Ce m c.number zC) c then Aqp m o l else none) else Aqp (JI Ce m c.number c) (o++[c.number]) l
theorem AhX (full:List A0) (hl:full.length≤1000):∀ (n i:Nat)(m:List (Int×A0))(o:List Int),full.length-i<n→i≤full.length→o.length≤i→match Aqp m o (full.drop i) with
  | some (m',o')=>Cv n m o full (full.length:Int) (i:Int)=some (.inl ((m',(o',())),((),((),()))))
  | none=>∃ m' o',Cv n m o full (full.length:Int) (i:Int)=some (.inr ((m',(o',())),((),((),(6,())))))
 | 0,_,_,_,h,_,_=>absurd h (Zan _)
 | n+1,i,m,o,h,hi,ho=>by
  rw [Cv]
  by_cases hx:i<full.length
  · have hd:full.drop i=full[i]::full.drop (i+1):=Zaj hx
    rw [show decide ((i:Int)<(full.length:Int))=true by simp; omega,Zab,B3 hx,Zaa,hd,wN i (by omega)]
    have ih:=fun m o=>AhX full hl n (i+1) m o (by omega) (by omega)
    have happ:app o [full[i].number]=some (o++[full[i].number]):=AK (by simp; omega)
    unfold Aqp
    cases hm:Dm Ce m full[i].number with
    | true =>
     simp only [Zab,ZaC,Zad]
     show(match (bif En (AY Ce m full[i].number zC) full[i] then Aqp m o (full.drop (i+1)) else none) with | some (m',o')=>(bif !En (AY Ce m full[i].number zC) full[i] then _ else _)=_ | none=>∃ m' o',(bif !En (AY Ce m full[i].number zC) full[i] then _ else _)=_)
     cases En (AY Ce m full[i].number zC) full[i] with
     | true =>
      simp only [Zab,ZaC,Zad]
      exact ih m o (by omega)
     | false=>exact⟨m,o,rfl⟩
    | false =>
     simp only [Zab,Za4,Zad]
     rw [happ,Zaa]
     exact ih _ _ (by simp; omega)
  · have hd:full.drop i=[]:=by simp; omega
    rw [show decide ((i:Int)<(full.length:Int))=false by simp; omega,hd]
    rfl
theorem Ah5:∀ (l:List A0)(m:List (Int×A0))(o:List Int)(m':List (Int×A0))(o':List Int),Aqp m o l=some (m',o')→o'.length≤o.length+l.length
 | [],m,o,m',o',h=>by cases h; simp
 | c::l,m,o,m',o',h=>by
  unfold Aqp at h
  cases hm:Dm Ce m c.number with
  | true =>
   rw [hm,Zab] at h
   cases hs:En (AY Ce m c.number zC) c with
   | true =>
    rw [hs,Zab] at h
    have:=Ah5 l m o m' o' h
    simp; omega
   | false=>rw [hs] at h; cases h
  | false =>
   rw [hm,Zad] at h
   have:=Ah5 l _ _ m' o' h
   simp at this ⊢; omega
theorem AwE {o:List Int} (h:o.length≤1000000):Ar0 o=some (Le (fun a b=>decide (a≤b)) o):=by
 unfold Ar0
 have hl:∀ (l:List Int),BL l=l.length:=fun l=>by induction l with
  | nil=>rfl
  | cons a l ih=>simp [BL,ih]
 rw [show Nat.blt (BL o) 4611686018427387904=true by rw [hl]; exact Za7 (by omega)]
 rfl
def MK (l:List A0):Int ⊕ (List (Int×A0)×List Int) :=
 if 40<l.length then .inl 3 else if l.all J0=false then .inl 1 else match Aqp [] [] l with
  | none=>.inl 6
  | some (m,o)=>.inr (m,Le (fun a b=>decide (a≤b)) o)
theorem ArV {n:Nat} {l:List A0} (hk:∀ c∈l,Lk c) (hl:l.length≤1000) (h:l.length<n):Tj n l=some (match MK l with | .inl e=>.inl ((),(e,())) | .inr y=>.inr ((y.1,(y.2,())),(0,()))):=by
 unfold Tj MK
 by_cases h40:40<l.length
 · rw [show decide ((l.length:Int)>40)=true by simp; omega,Zab,if_pos h40]
 · rw [show decide ((l.length:Int)>40)=false by simp; omega,Zad,if_neg h40]
   obtain⟨r1,r2⟩:=Aqx hk hl h
   have r3:=AhX l hl n 0 [] [] (by omega) (by omega) (by simp)
   rw [show((0:Nat):Int)=0 from rfl,Zar] at r3
   cases ha:l.all J0 with
   | false =>
    obtain⟨k,hk⟩:=r2 ha
    rw [hk,if_pos rfl]
    simp only [Zaa,Sum.elim_inr]
    rw [show decide ((k:Int)≥0)=true by simp]
    rfl
   | true =>
    rw [r1 ha,if_neg (by simp)]
    simp only [Zaa,Za1]
    cases hr:Aqp [] [] l with
    | none =>
     rw [hr] at r3
     obtain⟨m',o',e⟩:=r3
     rw [e]; rfl
    | some y =>
     rw [hr] at r3
     have hlen:=Ah5 l [] [] y.1 y.2 hr
     rw [r3]
     simp only [Zaa,Za1]
     rw [AwE (by simp at hlen; omega)]; rfl
def Aoa (l:List A0):Int:=match MK l with
 | .inl e=>e
 | .inr _=>0
theorem AkC {n:Nat} {l:List A0} (hk:∀ c∈l,Lk c) (hl:l.length≤1000) (h:l.length<n):JY n l=some (Aoa l,()):=by
 unfold JY Aoa
 rw [ArV hk hl h]
 cases MK l <;> rfl
def AyG (m:List (Int×A0)) (bus at_:Int) (v:Int):Bool:=decide ((AY Ce m v zC).bus=bus) && ((decide ((AY Ce m v zC).kind.n=0) || decide ((AY Ce m v zC).kind.n=1)) && Acz m (AY Ce m v zC) at_)
def AxR (m:List (Int×A0)) (o:List Int) (bus at_:Int):List Int:=(o.filter (AyG m bus at_)).map fun v=>(AY Ce m v zC).number
theorem AeZ (m:List (Int×A0)) (cl full:List Int) (bus at_:Int) (hl:full.length≤1000):∀ (n i:Nat)(acc:List Int),full.length-i<n→i≤full.length→acc.length≤i→Ba n at_ acc m cl bus full (full.length:Int) (i:Int)=some (.inl (((at_,()),((acc++AxR m (full.drop i) bus at_,()),(((((m,(cl,())),()),()),()),()))),((),((),((),((),((),(((),()),((bus,()),())))))))))
 | 0,_,_,h,_,_=>absurd h (Zan _)
 | n+1,i,acc,h,hi,ha=>by
  rw [Ba]
  by_cases hx:i<full.length
  · have hd:full.drop i=full[i]::full.drop (i+1):=Zaj hx
    have ih:=fun acc=>AeZ m cl full bus at_ hl n (i+1) acc (by omega) (by omega)
    have happ:∀ x,app acc [x]=some (acc++[x]):=fun x=>AK (by simp; omega)
    rw [show decide ((i:Int)<(full.length:Int))=true by simp; omega,Zab,B3 hx,Zaa,hd,wN i (by omega)]
    have e1:AxR m (full[i]::full.drop (i+1)) bus at_=(bif AyG m bus at_ full[i] then [(AY Ce m full[i] zC).number] else [])++AxR m (full.drop (i+1)) bus at_:=by
     unfold AxR
     rw [List.filter_cons]
     cases AyG m bus at_ full[i] <;> simp
    rw [e1]
    unfold AsF AyG
    simp only [Zaa,happ]
    generalize hz:AY Ce m full[i] zC=z
    unfold zC at hz
    rw [hz]
    cases decide (z.bus=bus) with
    | false=>simpa using ih acc (by omega)
    | true =>
     cases decide (z.kind.n=0) with
     | true =>
      cases Acz m z at_ with
      | true=>simpa using ih (acc++[z.number]) (by simp; omega)
      | false=>simpa using ih acc (by omega)
     | false =>
      cases decide (z.kind.n=1) with
      | true =>
       cases Acz m z at_ with
       | true=>simpa using ih (acc++[z.number]) (by simp; omega)
       | false=>simpa using ih acc (by omega)
      | false=>simpa using ih acc (by omega)
  · have hd:full.drop i=[]:=by simp; omega
    rw [show decide ((i:Int)<(full.length:Int))=false by simp; omega,hd]
    simp [AxR]
def Gu (l:List A0) (bus at_:Int):List Int×Int:=match MK l with
 | .inl e=>([],e)
 | .inr y=>if Co bus 0 99 && Co at_ 0 1000000 then(AxR y.1 y.2 bus at_,0) else([],2)
theorem Aou {α:Type} (le:α→α→Bool) (x:α):∀ l,(AjX le x l).length=l.length+1
 | []=>rfl
 | y::r=>by
  unfold AjX
  cases le x y
  · simp [Aou le x r]
  · simp
theorem W5 {α:Type} (le:α→α→Bool):∀ l,(Le le l).length=l.length
 | []=>rfl
 | x::r=>by
  unfold Le
  rw [Aou,W5 le r]; rfl
theorem Aov {α:Type} (le:α→α→Bool) (x z:α):∀ l,z∈AjX le x l↔z=x∨z∈l
 | []=>by simp [AjX]
 | y::r=>by
  unfold AjX
  cases le x y
  · simp only [Zad,Zal,Aov le x z r]
    constructor
    · rintro(h | h | h)
      · exact .inr (.inl h)
      · exact .inl h
      · exact .inr (.inr h)
    · rintro(h | h | h)
      · exact .inr (.inl h)
      · exact .inl h
      · exact .inr (.inr h)
  · simp
theorem Aow {α:Type} (le:α→α→Bool) (z:α):∀ l,z∈Le le l↔z∈l
 | []=>by simp [Le]
 | x::r=>by
  unfold Le
  rw [Aov,Aow le z r,Zal]
theorem Yv {l:List A0} {y:List (Int×A0)×List Int} (h:MK l=.inr y):l.length≤40∧l.all J0=true∧∃ o,Aqp [] [] l=some (y.1,o)∧y.2=Le (fun a b=>decide (a≤b)) o:=by
 unfold MK at h
 split at h
 · cases h
 · rename_i h40
   split at h
   · cases h
   · rename_i ha
     split at h
     · cases h
     · rename_i m o hr
       cases h
       exact⟨by omega,by simpa using ha,o,hr,rfl⟩
theorem SP {l:List A0} {e:Int} (h:MK l=.inl e):e=1∨e=3∨e=6:=by
 unfold MK at h
 split at h
 · cases h; simp
 · split at h
   · cases h; simp
   · split at h
     · cases h; simp
     · cases h
theorem AsO {l:List A0} {y:List (Int×A0)×List Int} (h:MK l=.inr y):y.2.length≤40:=by
 obtain⟨h1,_,o,h2,h3⟩:=Yv h
 have:=Ah5 l _ _ _ _ h2
 rw [h3,W5]
 simp at this; omega
theorem ArW {n:Nat} {l:List A0} {bus at_:Int} (hk:∀ c∈l,Lk c) (hl:l.length≤1000) (h:l.length+50<n):IX n l bus at_=some ((Gu l bus at_).1,((Gu l bus at_).2,())):=by
 unfold IX Gu
 rw [ArV hk hl (by omega)]
 cases hr:MK l with
 | inl e =>
  have he:e≠0:=by have:=SP hr; omega
  simp only [Zaa,Za1]
  rw [show(e != 0)=true by simpa using he]
  rfl
 | inr y =>
  simp only [Zaa,Sum.elim_inr]
  rw [show((0:Int) != 0)=false from rfl,Zad]
  unfold Co
  have hy:=AsO hr
  have ho:=AeZ y.1 y.2 y.2 bus at_ (by omega) n 0 [] (by omega) (by omega) (by simp)
  rw [show((0:Nat):Int)=0 from rfl,Zar,Zau] at ho
  have hb:JZ n y.1 y.2 bus at_=some (((y.1,(y.2,())),((),(AxR y.1 y.2 bus at_,())))):=by
   unfold JZ
   rw [ho]; rfl
  cases decide (0≤bus) <;> cases decide (bus≤99) <;> cases decide (0≤at_) <;> cases decide (at_≤1000000) <;> simp [hb]
section
variable {α β:Type} [DecidableEq α] {q:α→α→Bool} (hq:∀ a b,q a b=true↔a=b)
include hq
theorem Aqy (a:α):q a a=true:=(hq a a).2 rfl
theorem KP (k k':α) (v:β):∀ m:List (α×β),El q (JI q m k v) k' = if k=k' then some v else El q m k'
 | []=>by
  unfold JI El El
  by_cases h:k=k'
  · subst h; simp [Aqy hq]
  · have:q k k' = false:=by
     cases hh:q k k' with
     | false=>rfl
     | true=>exact absurd ((hq _ _).1 hh) h
    rw [this,if_neg h]; rfl
 | p::r=>by
  have ih:=KP k k' v r
  unfold JI
  cases hp:q p.1 k with
  | true =>
   have hpk:=(hq _ _).1 hp
   simp only [Zab]
   unfold El
   by_cases h:k=k'
   · subst h; simp [Aqy hq]
   · have h1:q k k' = false:=by
      cases hh:q k k' with
      | false=>rfl
      | true=>exact absurd ((hq _ _).1 hh) h
     have h2:q p.1 k' = false:=by rw [hpk]; exact h1
     simp only [h1,h2,Zad,if_neg h]
  | false =>
   simp only [Zad]
   unfold El
   cases hp2:q p.1 k' with
   | true =>
    have hpk:=(hq _ _).1 hp2
    have:k≠k':=fun h=>by
     rw [h,← hpk] at hp
     rw [Aqy hq] at hp; cases hp
    rw [if_neg this]; rfl
   | false=>simpa using ih
theorem Yw (m:List (α×β)) (k k':α) (v:β):Dm q (JI q m k v) k' = true↔k=k'∨Dm q m k' = true:=by
 unfold Dm
 rw [KP hq]
 by_cases h:k=k' <;> simp [h]
end
theorem SQ (a b:Int):Ce a b=true↔a=b:=by simp [Ce]
theorem P6 (a b:NM):AM a b=true↔a=b:=by
 obtain⟨a1,a2⟩:=a
 obtain⟨b1,b2⟩:=b
 simp [AM]
theorem SR (a b:ByteArray):Ep a b=true↔a=b:=by simp [Ep]
def YH (r:Ag):Prop:=0≤r.kind.n∧r.kind.n≤2
def BA (v a:Ag):Bool:=decide (v.machine=a.machine) && (decide (v.seq=a.seq) && (decide (v.minute=a.minute) && (decide (v.kind.n=a.kind.n) && (decide (v.a=a.a) && (decide (v.b=a.b) && true)))))
theorem IQ {a c:Ag}:BA a c=true↔a=c:=by
 obtain⟨a1,a2,a3,⟨a4⟩,a5,a6⟩:=a
 obtain⟨c1,c2,c3,⟨c4⟩,c5,c6⟩:=c
 simp [BA]
theorem Aox {n:Nat} {l:List Ag} {v:Ag} (hl:l.length≤1000) (h:l.length<n):CK n l v=some (l.any (BA v),()):=by
 have H:∀ (n i:Nat),l.length-i<n→i≤l.length→((l.drop i).any (BA v)=false→Bu n l v (l.length:Int) (i:Int)=some (.inl (v,())))∧((l.drop i).any (BA v)=true→∃ k:Nat,Bu n l v (l.length:Int) (i:Int)=some (.inr (v,((k:Int),())))):=by
  intro n
  induction n with
  | zero=>intro i h; exact absurd h (Zan _)
  | succ n ih =>
   intro i h hi
   rw [Bu]
   by_cases hx:i<l.length
   · have hd:l.drop i=l[i]::l.drop (i+1):=Zaj hx
     rw [show decide ((i:Int)<(l.length:Int))=true by simp; omega,Zab,B3 hx,Zaa,hd,wN i (by omega),Zby]
     change ((BA v l[i] || (l.drop (i+1)).any (BA v))=false→(bif BA v l[i] then _ else _)=_)∧((BA v l[i] || (l.drop (i+1)).any (BA v))=true→∃ k:Nat,(bif BA v l[i] then _ else _)=_)
     cases BA v l[i] with
     | true=>exact⟨(fun h=>by cases h),fun _=>⟨i,rfl⟩⟩
     | false=>simpa using ih (i+1) (by omega) (by omega)
   · have hd:l.drop i=[]:=by simp; omega
     rw [show decide ((i:Int)<(l.length:Int))=false by simp; omega,hd]
     exact⟨fun _=>rfl,fun h=>by cases h⟩
 obtain⟨h1,h2⟩:=H n 0 (by omega) (by omega)
 rw [show((0:Nat):Int)=0 from rfl,Zar] at h1 h2
 unfold CK I2
 cases hc:l.any (BA v) with
 | false=>rw [h1 hc]; rfl
 | true =>
  obtain⟨k,hk⟩:=h2 hc
  rw [hk]
  simp
def Bp (r:Ag):Bool:=Co r.machine 0 999 && (Co r.seq 1 9999 && (Co r.minute 0 1000000 && (bif decide (r.kind.n=0) then Co r.a 0 99 && Co r.b 0 10000 else bif decide (r.kind.n=1) then Co r.a 0 1000000 && decide (r.b=0) else Co r.a 0 9999 && Co r.b 0 10000000)))
theorem AsP (n:Nat) (r:Ag) (hk:YH r):CZ n r=some (Bp r,()):=by
 obtain⟨hk0,hk1⟩:=hk
 have h4:r.kind.n=0∨r.kind.n=1∨r.kind.n=2:=by omega
 unfold CZ Bp Co
 obtain⟨machine,seq,minute,⟨k⟩,a,b⟩:=r
 simp only at h4 ⊢
 cases decide (0≤machine) with
 | false=>rfl
 | true =>
 cases decide (machine≤999) with
 | false=>rfl
 | true =>
 cases decide (1≤seq) with
 | false=>rfl
 | true =>
 cases decide (seq≤9999) with
 | false=>rfl
 | true =>
 cases decide (0≤minute) with
 | false=>rfl
 | true =>
 cases decide (minute≤1000000) with
 | false=>rfl
 | true =>
 rcases h4 with rfl | rfl | rfl
 · show(bif decide (0≤a) then(bif decide (a≤99) then(bif decide (0≤b) then(some (decide (b≤10000),())) else some (false,())) else some (false,())) else some (false,()))=_
   cases decide (0≤a) <;> cases decide (a≤99) <;> cases decide (0≤b) <;> simp
 · show(bif decide (0≤a) then(bif decide (a≤1000000) then(some (decide (b=0),())) else some (false,())) else some (false,()))=_
   cases decide (0≤a) <;> cases decide (a≤1000000) <;> simp
 · show(bif decide (0≤a) then(bif decide (a≤9999) then(bif decide (0≤b) then(some (decide (b≤10000000),())) else some (false,())) else some (false,())) else some (false,()))=_
   cases decide (0≤a) <;> cases decide (a≤9999) <;> cases decide (0≤b) <;> simp
theorem Gx {α A B:Type} {F:Nat→Int→Option (A ⊕ B)} {G:Nat→Int→α→Option (A ⊕ B)} (l:List α) (p:α→Bool) (okv:A) (bad:Int→B) (N:Nat) (hl:l.length≤4000000000000000000)
  (hF:∀ n i,F (n+1) i=bif decide (i<(l.length:Int)) then(A6 l i).bind (G n i) else some (.inl okv))
  (hG:∀ n (i:Nat) (hi:i<l.length),N≤n→G n (i:Int) l[i]=bif p l[i] then F n (IntKind.i64.wrap ((i:Int)+1)) else some (.inr (bad (i:Int)))) {n:Nat} (hn:N+l.length<n) :
  (l.all p=true→F n 0=some (.inl okv))∧(l.all p=false→∃ k:Nat,F n 0=some (.inr (bad (k:Int)))):=by
 have key:=Al1 (F:=fun n (_:Unit) i=>F n i) (l:=l) (N:=N) (T:=fun s i a=>bif p a then .inl s else .inr (.inr (bad (i:Int)))) (E:=fun _=>.inl okv)
  (B:=fun n _ i v0=>G n i v0) (fun _ _=>True) (fun n _ i=>hF n i) (fun n s i hi hN _=>by
   rw [hG n i hi hN]
   cases p l[i]
   · rfl
   · exact⟨rfl,trivial⟩) hl l.length () 0 n (by simp) (by omega) trivial
 rw [show((0:Nat):Int)=0 from rfl,Zar] at key
 obtain⟨h1,h2⟩:=AmF (R:=A ⊕ B) p (fun i=>.inr (bad (i:Int))) (.inl okv) l 0
 exact⟨fun h=>by rw [key,h1 h],fun h=>by obtain⟨k,hk⟩:=h2 h; exact⟨k,by rw [key,hk]⟩⟩
def Wa (lists:List (List Ag)):Int:=if 6<lists.length then 3 else bif lists.all (fun l=>decide (l.length≤60)) then(bif lists.all (fun l=>l.all Bp) then 0 else 1) else 3
theorem Aqz (lists:List (List Ag)):Wa lists=0∨Wa lists=1∨Wa lists=3:=by
 unfold Wa
 split
 · simp
 · cases lists.all (fun l=>decide (l.length≤60)) <;> cases lists.all (fun l=>l.all Bp) <;> simp
theorem AkD {n:Nat} {l:List Ag} (hk:∀ r∈l,YH r) (hl:l.length≤1000) (h:l.length<n) :
 (l.all Bp=true→BC n l (l.length:Int) 0=some (.inl ((((),()),()),())))∧(l.all Bp=false→∃ k:Nat,BC n l (l.length:Int) 0=some (.inr ((((),()),()),((k:Int),())))):=Gx (F:=fun n i=>BC n l (l.length:Int) i) (G:=fun n i v0=>(CZ n v0).bind fun v1=>bif !v1.fst then(some (.inr ((((),()),()),(i,())))) else BC n l (l.length:Int) (IntKind.i64.wrap (i+1))) l Bp ((((),()),()),()) (fun i=>((((),()),()),(i,()))) 0 (by omega) (fun _ _=>rfl) (fun n i hi _=>by
 rw [AsP n _ (hk _ (Zax hi))]
 cases Bp l[i] <;> rfl) (n:=n) (by omega)
theorem AkE {n:Nat} {lists:List (List Ag)} (hl:lists.length≤1000) (h:lists.length<n) :
 (lists.all (fun l=>decide (l.length≤60))=true→BT n lists (lists.length:Int) 0=some (.inl ((((),()),()),())))∧(lists.all (fun l=>decide (l.length≤60))=false→∃ k:Nat,BT n lists (lists.length:Int) 0=some (.inr ((((),()),()),((k:Int),())))):=Gx (F:=fun n i=>BT n lists (lists.length:Int) i) (G:=fun n i v0=>bif !decide ((v0.length:Int)≤60) then(some (.inr ((((),()),()),(i,())))) else BT n lists (lists.length:Int) (IntKind.i64.wrap (i+1))) lists (fun l=>decide (l.length≤60)) ((((),()),()),()) (fun i=>((((),()),()),(i,()))) 0 (by omega) (fun _ _=>rfl) (fun n i hi _=>by
 have:decide ((lists[i].length:Int)≤60)=decide (lists[i].length≤60):=by
  by_cases h:lists[i].length≤60
  · rw [Zaf h]; exact Zaf (by omega)
  · rw [Zae h]; exact Zae (by omega)
 rw [this]
 cases decide (lists[i].length≤60) <;> rfl) (n:=n) (by omega)
theorem AkF {n:Nat} {lists:List (List Ag)} (hk:∀ l∈lists,∀ r∈l,YH r) (hl:lists.length≤1000) (hl2:∀ l∈lists,l.length≤1000) (h:1001+lists.length<n) :
 (lists.all (fun l=>l.all Bp)=true→Be n lists (lists.length:Int) 0=some (.inl ((((),()),()),())))∧(lists.all (fun l=>l.all Bp)=false→∃ k:Nat,Be n lists (lists.length:Int) 0=some (.inr ((((),()),()),((k:Int),())))):=Gx (F:=fun n i=>Be n lists (lists.length:Int) i) (G:=fun n i v0=>(BC n v0 (v0.length:Int) 0).bind fun v1=>Sum.elim (fun v2=>Be n lists (lists.length:Int) (IntKind.i64.wrap (i+1))) (fun v2=>bif !!decide (v2.snd.fst≥0) then(some (.inr ((((),()),()),(i,())))) else Be n lists (lists.length:Int) (IntKind.i64.wrap (i+1))) (v1)) lists (fun l=>l.all Bp) ((((),()),()),()) (fun i=>((((),()),()),(i,()))) 1001 (by omega) (fun _ _=>rfl) (fun n i hi hn=>by
 obtain⟨h1,h2⟩:=AkD (n:=n) (l:=lists[i]) (hk _ (Zax hi)) (hl2 _ (Zax hi)) (by have:=hl2 _ (Zax hi); omega)
 cases ha:lists[i].all Bp with
 | true=>rw [h1 ha]; rfl
 | false =>
  obtain⟨k,hk⟩:=h2 ha
  rw [hk]
  simp only [Zaa,Sum.elim_inr]
  rw [show decide ((k:Int)≥0)=true by simp]
  rfl) (n:=n) (by omega)
theorem Aq0 {n:Nat} {lists:List (List Ag)} (hk:∀ l∈lists,∀ r∈l,YH r) (hl:lists.length≤1000) (hl2:∀ l∈lists,l.length≤1000) (h:1001+lists.length<n):L9 n lists=some (Wa lists,()):=by
 unfold L9 Wa
 by_cases h6:6<lists.length
 · rw [show decide ((lists.length:Int)>6)=true by simp; omega,if_pos h6]; rfl
 · rw [show decide ((lists.length:Int)>6)=false by simp; omega,if_neg h6,Za4,Zab]
   obtain⟨a1,a2⟩:=AkE (n:=n) (lists:=lists) hl (by omega)
   obtain⟨b1,b2⟩:=AkF (n:=n) hk hl hl2 h
   cases ha:lists.all (fun l=>decide (l.length≤60)) with
   | false =>
    obtain⟨k,hk⟩:=a2 ha
    rw [hk]
    simp only [Zaa,Sum.elim_inr]
    rw [show decide ((k:Int)≥0)=true by simp]
    rfl
   | true =>
    rw [a1 ha]
    simp only [Zaa,Za1]
    cases hb:lists.all (fun l=>l.all Bp) with
    | false =>
     obtain⟨k,hk⟩:=b2 hb
     rw [hk]
     simp only [Zaa,Sum.elim_inr]
     rw [show decide ((k:Int)≥0)=true by simp]
     rfl
    | true=>rw [b1 hb]; rfl
def Aae:List (List Ag)→Nat
 | []=>0
 | l::r=>l.length+Aae r
theorem ArX:∀ (r:List (List Ag)),(∀ l∈r,l.length≤1000)→Aae r≤r.length*1000
 | [],_=>by simp [Aae]
 | l::r,h=>by
  have h1:=ArX r fun x hx=>h x (by simp [hx])
  have h2:=h l (by simp)
  simp only [Aae,Za6]
  omega
theorem Aoy:∀ (r:List (List Ag)),r.flatten.length=Aae r
 | []=>rfl
 | l::r=>by simp [Aae,Aoy r]
theorem Ab8 (full:List (List Ag)) (hl:full.length≤1000) (hl2:∀ l∈full,l.length≤1000):∀ (n i s:Nat),full.length-i<n→i≤full.length→s≤i*1000→PS n full (s:Int) full (full.length:Int) (i:Int)=some (full,(((s+Aae (full.drop i):Nat):Int),()))
 | 0,_,_,h,_,_=>absurd h (Zan _)
 | n+1,i,s,h,hi,hs=>by
  rw [PS]
  by_cases hx:i<full.length
  · have hd:full.drop i=full[i]::full.drop (i+1):=Zaj hx
    have h2:=hl2 _ (Zax hx)
    have e:IntKind.i64.wrap ((s:Int)+(full[i].length:Int))=((s+full[i].length:Nat):Int):=by rw [F7 (by omega) (by omega)]; omega
    rw [show decide ((i:Int)<(full.length:Int))=true by simp; omega,Zab,B3 hx,Zaa,e,show decide (((s+full[i].length:Nat):Int)<0)=false from Zae (by omega),Zad,wN i (by omega),Ab8 full hl hl2 n (i+1) _ (by omega) (by omega) (by omega),hd]
    simp only [Aae]
    rw [Zbm]
  · have hd:full.drop i=[]:=by simp; omega
    rw [show decide ((i:Int)<(full.length:Int))=false by simp; omega,hd]
    simp [Aae]
theorem Ab9 (full:List (List Ag)) (hl:full.length≤1000) (hl2:∀ l∈full,l.length≤1000):∀ (n i:Nat)(acc:List Ag),full.length-i<n→i≤full.length→acc.length≤i*1000→PT n acc full (full.length:Int) (i:Int)=some (acc++(full.drop i).flatten,())
 | 0,_,_,h,_,_=>absurd h (Zan _)
 | n+1,i,acc,h,hi,hs=>by
  rw [PT]
  by_cases hx:i<full.length
  · have hd:full.drop i=full[i]::full.drop (i+1):=Zaj hx
    have h2:=hl2 _ (Zax hx)
    rw [show decide ((i:Int)<(full.length:Int))=true by simp; omega,Zab,B3 hx,Zaa,AK (by omega),Zaa,wN i (by omega),Ab9 full hl hl2 n (i+1) _ (by omega) (by omega) (by simp; omega),hd,List.flatten_cons,ZaF]
  · have hd:full.drop i=[]:=by simp; omega
    rw [show decide ((i:Int)<(full.length:Int))=false by simp; omega,hd]
    simp
theorem AsQ {n:Nat} {lists:List (List Ag)} (hl:lists.length≤1000) (hl2:∀ l∈lists,l.length≤1000) (h:lists.length<n):AhC n lists=some (lists.flatten,()):=by
 unfold AhC
 have h1:=Ab8 lists hl hl2 n 0 0 (by omega) (by omega) (by omega)
 have h2:=Ab9 lists hl hl2 n 0 [] (by omega) (by omega) (by simp)
 have h3:=ArX lists hl2
 rw [show((0:Nat):Int)=0 from rfl] at h1 h2
 rw [Zar,Zas] at h1
 rw [Zar,Zau] at h2
 rw [h1]
 simp only [Zaa]
 rw [show(decide ((0:Int)≤((Aae lists:Nat):Int)) && decide (((Aae lists:Nat):Int)≤1000000000))=true by simp; omega,Zab,Zaa,h2]
 rfl
def zR:Ag:=Ag.mk 0 0 0 (IK.mk 0) 0 0
def CQ (r:Ag):NM:=NM.mk r.machine r.seq
def Ak5:List (NM×Ag)→List Ag→List Ag→Option (List Ag)
 | _,o,[]=>some o
 | m,o,r::l=>bif Dm AM m (CQ r) then(bif BA (AY AM m (CQ r) zR) r then Ak5 m o l else none) else Ak5 (JI AM m (CQ r) r) (o++[r]) l
theorem AbA (full:List Ag) (hl:full.length≤1000000):∀ (n i:Nat)(m:List (NM×Ag))(o:List Ag),full.length-i<n→i≤full.length→o.length≤i→match Ak5 m o (full.drop i) with
  | some o'=>∃ m',B1 n m o full (full.length:Int) (i:Int)=some (.inl (m',(o',())))
  | none=>∃ m',B1 n m o full (full.length:Int) (i:Int)=some (.inr (m',([],(6,()))))
 | 0,_,_,_,h,_,_=>absurd h (Zan _)
 | n+1,i,m,o,h,hi,ho=>by
  rw [B1]
  by_cases hx:i<full.length
  · have hd:full.drop i=full[i]::full.drop (i+1):=Zaj hx
    rw [show decide ((i:Int)<(full.length:Int))=true by simp; omega,Zab,B3 hx,Zaa,hd,wN i (by omega)]
    have ih:=fun m o=>AbA full hl n (i+1) m o (by omega) (by omega)
    have happ:app o [full[i]]=some (o++[full[i]]):=AK (by simp; omega)
    unfold Ak5
    change match (bif Dm AM m (CQ full[i]) then(bif BA (AY AM m (CQ full[i]) zR) full[i] then Ak5 m o (full.drop (i+1)) else none) else Ak5 (JI AM m (CQ full[i]) full[i]) (o++[full[i]]) (full.drop (i+1))) with
     | some o'=>∃ m',(bif Dm AM m (CQ full[i]) then(bif !BA (AY AM m (CQ full[i]) zR) full[i] then _ else(bif !Dm AM m (CQ full[i]) then _ else _)) else(bif !Dm AM m (CQ full[i]) then _ else _))=_
     | none=>∃ m',(bif Dm AM m (CQ full[i]) then(bif !BA (AY AM m (CQ full[i]) zR) full[i] then _ else(bif !Dm AM m (CQ full[i]) then _ else _)) else(bif !Dm AM m (CQ full[i]) then _ else _))=_
    cases hm:Dm AM m (CQ full[i]) with
    | true =>
     cases BA (AY AM m (CQ full[i]) zR) full[i] with
     | true =>
      simp only [Zab,ZaC,Zad]
      exact ih m o (by omega)
     | false=>exact⟨m,rfl⟩
    | false =>
     simp only [Zab,Za4,Zad]
     rw [happ]
     simp only [Zaa]
     exact ih _ _ (by simp; omega)
  · have hd:full.drop i=[]:=by simp; omega
    rw [show decide ((i:Int)<(full.length:Int))=false by simp; omega,hd]
    exact⟨m,rfl⟩
def Au4 (a b:Ag):Bool:=decide (a.machine=b.machine) && decide (a.minute>b.minute)
def Aaf:List Ag→Bool
 | a::b::r=>!Au4 a b && Aaf (b::r)
 | _=>true
theorem AbB (full:List Ag) (hl:full.length≤1000000):∀ (n i:Nat),full.length-i<n→i≤full.length→Ct n full (full.length:Int) (i:Int)=some (bif Aaf (full.drop (i-1)) then .inl (full,()) else .inr ([],(6,())))
 | 0,_,h,_=>absurd h (Zan _)
 | n+1,i,h,hi=>by
  rw [Ct]
  by_cases hx:i<full.length
  · rw [show decide ((i:Int)<(full.length:Int))=true by simp; omega,Zab,B3 hx,Zaa,show((i:Nat):Int).toNat=i from rfl,AmB hx,Zaa,wN i (by omega)]
    have ih:=AbB full hl n (i+1) (by omega) (by omega)
    rw [show i+1-1=i by omega] at ih
    by_cases h0:i=0
    · subst h0
      rw [show decide (((0:Nat):Int)>0)=false from rfl,Zad,ih]
    · have hx1:i-1<full.length:=by omega
      have e:IntKind.i64.wrap ((i:Int)-1)=((i-1:Nat):Int):=by rw [F7 (by omega) (by omega)]; omega
      rw [show decide ((i:Int)>0)=true from Zaf (by omega),Zab,e,B3 hx1,Zaa,show((i-1:Nat):Int).toNat=i-1 from rfl,AmB hx1,Zaa]
      simp only [Zaa]
      have hd:full.drop (i-1)=full[i-1]::full[i]::full.drop (i+1):=by
       rw [Zaj hx1,show i-1+1=i by omega,Zaj hx]
      have hd2:full.drop i=full[i]::full.drop (i+1):=Zaj hx
      rw [hd2] at ih
      rw [hd,ih]
      simp only [Aaf,Au4]
      cases decide (full[i-1].machine=full[i].machine) <;> cases decide (full[i-1].minute>full[i].minute) <;> simp
  · have hi':i=full.length:=by omega
    rw [show decide ((i:Int)<(full.length:Int))=false by simp; omega,Zad]
    have:Aaf (full.drop (i-1))=true:=by
     rcases Zbl full.length with h0 | h0
     · have:full=[]:=Zbh.1 h0
       subst this
       simp [Aaf]
     · have hx1:i-1<full.length:=by omega
       rw [Zaj hx1,show i-1+1=full.length by omega,List.drop_length]
       rfl
    rw [this]; rfl
theorem Al5 {α:Type} (eq:α→α→Bool) (x:α):∀ l,F6 eq (l++[x])=(F6 eq l && !l.any (fun a=>eq a x))
 | []=>by simp [F6]
 | y::r=>by
  rw [ZaP,F6,F6,Al5 eq x r,List.any_append,Zby]
  simp only [Zby,List.any_nil,Bool.or_false]
  cases r.any (eq y) <;> cases eq y x <;> cases F6 eq r <;> cases r.any (fun a=>eq a x) <;> rfl
def AyH (a b:Ag):Bool:=a.machine == b.machine && a.seq == b.seq
theorem AwF {a b:Ag}:AyH a b=true↔CQ a=CQ b:=by simp [AyH,CQ]
theorem AhY:∀ (l:List Ag)(m:List (NM×Ag))(o o':List Ag),Ak5 m o l=some o'→(∀ a∈o,Dm AM m (CQ a)=true)→F6 AyH o=true→F6 AyH o' = true
 | [],m,o,o',h,_,hd=>by cases h; exact hd
 | r::l,m,o,o',h,hm,hd=>by
  unfold Ak5 at h
  cases hr:Dm AM m (CQ r) with
  | true =>
   rw [hr,Zab] at h
   cases hs:BA (AY AM m (CQ r) zR) r with
   | true=>rw [hs,Zab] at h; exact AhY l m o o' h hm hd
   | false=>rw [hs] at h; cases h
  | false =>
   rw [hr,Zad] at h
   refine AhY l _ _ o' h (fun a ha=>?_) ?_
   · rw [Yw P6]
     rcases Zam.1 ha with ha | ha
     · exact .inr (hm a ha)
     · rw [Zaw.1 ha]; exact .inl rfl
   · rw [Al5,hd,ZaD]
     have:o.any (fun a=>AyH a r)=false:=by
      rw [Zbw]
      intro a ha he
      have:=hm a ha
      rw [AwF.1 he,hr] at this; cases this
     rw [this]; rfl
theorem AmG:∀ (l:List Ag)(m:List (NM×Ag))(o o':List Ag),Ak5 m o l=some o'→∀ a∈o',a∈o∨a∈l
 | [],m,o,o',h=>by cases h; exact fun a ha=>.inl ha
 | r::l,m,o,o',h=>by
  unfold Ak5 at h
  cases hr:Dm AM m (CQ r) with
  | true =>
   rw [hr,Zab] at h
   cases hs:BA (AY AM m (CQ r) zR) r with
   | true =>
    rw [hs,Zab] at h
    intro a ha
    rcases AmG l m o o' h a ha with h' | h'
    · exact .inl h'
    · exact .inr (by simp [h'])
   | false=>rw [hs] at h; cases h
  | false =>
   rw [hr,Zad] at h
   intro a ha
   rcases AmG l _ _ o' h a ha with h' | h'
   · rcases Zam.1 h' with h' | h'
     · exact .inl h'
     · exact .inr (by rw [Zaw.1 h']; simp)
   · exact .inr (by simp [h'])
theorem AmH:∀ (l:List Ag)(m:List (NM×Ag))(o o':List Ag),Ak5 m o l=some o'→o'.length≤o.length+l.length
 | [],m,o,o',h=>by cases h; simp
 | r::l,m,o,o',h=>by
  unfold Ak5 at h
  cases hr:Dm AM m (CQ r) with
  | true =>
   rw [hr,Zab] at h
   cases hs:BA (AY AM m (CQ r) zR) r with
   | true =>
    rw [hs,Zab] at h
    have:=AmH l m o o' h
    simp; omega
   | false=>rw [hs] at h; cases h
  | false =>
   rw [hr,Zad] at h
   have:=AmH l _ _ o' h
   simp at this ⊢; omega
theorem AbC {α:Type}:∀ (l:List α),BL l=l.length
 | []=>rfl
 | a::l=>by simp [BL,AbC l]
theorem AwG {o:List Ag} (hl:o.length≤1000000) (hr:∀ a∈o,Bp a=true) (hd:F6 AyH o=true):AtS o=some (Le Adq o):=by
 unfold AtS
 have h1:Nat.blt (BL o) 4611686018427387904=true:=by rw [AbC]; exact Za7 (by omega)
 have h2:o.all (fun a=>An7 a.machine && An7 a.seq)=true:=by
  rw [Za8]
  intro a ha
  have:=hr a ha
  unfold Bp at this
  simp only [Zap,Cp] at this
  simp [An7]; omega
 have h3:F6 (fun a b:Ag=>a.machine == b.machine && a.seq == b.seq) o=true:=hd
 rw [h1,h2,h3]; rfl
def Ul (lists:List (List Ag)):Int ⊕ List Ag :=
 if Wa lists≠0 then .inl (Wa lists) else match Ak5 [] [] lists.flatten with
  | none=>.inl 6
  | some o=>bif Aaf (Le Adq o) then .inr (Le Adq o) else .inl 6
theorem Aoz {lists:List (List Ag)} {e:Int} (h:Ul lists=.inl e):e=1∨e=3∨e=6:=by
 unfold Ul at h
 have:=Aqz lists
 split at h
 · cases h; omega
 · split at h
   · cases h; simp
   · rename_i o _
     cases ho:Aaf (Le Adq o) with
     | true=>rw [ho] at h; cases h
     | false=>rw [ho] at h; cases h; simp
theorem AsR {lists:List (List Ag)} (h:Wa lists=0):lists.length≤6∧(∀ l∈lists,l.length≤60)∧∀ l∈lists,∀ r∈l,Bp r=true:=by
 unfold Wa at h
 split at h
 · omega
 · rename_i h6
   cases ha:lists.all (fun l=>decide (l.length≤60)) with
   | false=>rw [ha] at h; simp at h
   | true =>
    rw [ha,Zab] at h
    cases hb:lists.all (fun l=>l.all Bp) with
    | false=>rw [hb] at h; simp at h
    | true=>exact⟨by omega,fun l hl=>by simpa using Za8.1 ha l hl,fun l hl=>Za8.1 (Za8.1 hb l hl)⟩
theorem AsS {n:Nat} {lists:List (List Ag)} (hk:∀ l∈lists,∀ r∈l,YH r) (hl:lists.length≤1000) (hl2:∀ l∈lists,l.length≤1000) (h:1001+lists.length<n):N7 n lists=some (match Ul lists with | .inl e=>([],(e,())) | .inr s=>(s,(0,()))):=by
 unfold N7 Ul
 rw [Aq0 hk hl hl2 h,Zaa]
 simp only
 by_cases hc:Wa lists=0
 · rw [hc,show((0:Int) != 0)=false from rfl,Zad,if_neg (by simp)]
   obtain⟨h6,h60,hR⟩:=AsR hc
   have hs:Aae lists≤360:=by
    have H:∀ (r:List (List Ag)),(∀ l∈r,l.length≤60)→Aae r≤r.length*60:=by
     intro r
     induction r with
     | nil=>intro _; simp [Aae]
     | cons l r ih =>
      intro h
      have h1:=ih fun x hx=>h x (by simp [hx])
      have h2:=h l (by simp)
      simp only [Aae,Za6]
      omega
    have:=H lists h60
    omega
   have hfl:=Aoy lists
   rw [AsQ hl hl2 (by omega),Zaa]
   simp only
   have h1:=AbA lists.flatten (by omega) n 0 [] [] (by omega) (by omega) (by simp)
   rw [show((0:Nat):Int)=0 from rfl,Zar] at h1
   cases hm:Ak5 [] [] lists.flatten with
   | none =>
    rw [hm] at h1
    obtain⟨m',e⟩:=h1
    rw [e]; rfl
   | some o =>
    rw [hm] at h1
    obtain⟨m',e⟩:=h1
    have hol:o.length≤360:=by
     have:=AmH _ _ _ _ hm
     rw [Zbo,Zas] at this
     omega
    have hod:=AhY _ _ _ _ hm (by simp) rfl
    have hos:=AmG _ _ _ _ hm
    have hor:∀ a∈o,Bp a=true:=fun a ha=>by
     rcases hos a ha with h' | h'
     · simp at h'
     · obtain⟨l,hl1,hl2⟩:=List.mem_flatten.1 h'
       exact hR l hl1 a hl2
    have hsl:(Le Adq o).length=o.length:=W5 _ _
    have h2:=AbB (Le Adq o) (by omega) n 0 (by omega) (by omega)
    rw [show((0:Nat):Int)=0 from rfl,Zar] at h2
    rw [e]
    simp only [Zaa,Za1]
    rw [AwG (by omega) hor hod]
    simp only [Zaa]
    rw [h2]
    cases Aaf (Le Adq o) <;> rfl
 · rw [show(Wa lists != 0)=true by simpa using hc,Zab,if_pos hc]
def NZ (lists:List (List Ag)):Int:=match Ul lists with
 | .inl e=>e
 | .inr s=>if 60<s.length then 3 else 0
theorem Au5 {n:Nat} {lists:List (List Ag)} (hk:∀ l∈lists,∀ r∈l,YH r) (hl:lists.length≤1000) (hl2:∀ l∈lists,l.length≤1000) (h:1001+lists.length<n):∃ x,OT n lists=some (x,(NZ lists,())):=by
 unfold OT NZ
 rw [AsS hk hl hl2 h,Zaa]
 cases hm:Ul lists with
 | inl e =>
  have:=Aoz hm
  simp only
  rw [show(e != 0)=true by simp; omega]
  exact⟨_,rfl⟩
 | inr s =>
  simp only
  rw [show((0:Int) != 0)=false from rfl,Zad]
  by_cases h60:60<s.length
  · rw [show decide ((s.length:Int)>60)=true from Zaf (by omega),if_pos h60]; exact⟨_,rfl⟩
  · rw [show decide ((s.length:Int)>60)=false from Zae (by omega),if_neg h60]; exact⟨_,rfl⟩
def wkOk (w:Ar):Prop:=w.days=7∧w.rest=600∧w.run=5∧w.hours=3000∧w.duties.length≤13∧w.drivers.length≤7∧∀ d∈w.drivers,∃ k off,d=AJ.mk [k] [] [] off 0 0
def Ll (d:AP):Bool:=Co d.day 0 6 && (Co d.on 0 1439 && (decide (d.on≤d.off.lo) && (decide (d.off.lo≤d.off.hi) && (decide (d.off.hi≤d.on+1440) && Co d.route 0 15))))
def Aag (d:AJ):Bool:=(d.knows.all fun k=>Co k 0 15) && Co d.off (-10080) 1440
theorem AwH (n:Nat) (w:Ar) (d:AP) (hw:w.days=7):EE n w d=some (Ll d,()):=by
 unfold EE Ll Co
 rw [hw,show IntKind.i64.wrap (7-1)=6 from rfl]
 cases decide (0≤d.day) with
 | false=>rfl
 | true =>
 cases decide (d.day≤6) with
 | false=>rfl
 | true =>
 by_cases h0:0≤d.on
 · by_cases h1:d.on≤1439
   · rw [Zaf h0,Zaf h1,F7 (x:=d.on+1440) (by omega) (by omega)]
     cases decide (d.on≤d.off.lo) <;> cases decide (d.off.lo≤d.off.hi) <;> cases decide (d.off.hi≤d.on+1440) <;> cases decide (0≤d.route) <;> simp
   · rw [Zaf h0,Zae h1]; rfl
 · rw [Zae h0]; rfl
theorem AsT (n:Nat) (k lo hi:Int):Hy (n+2) [k] lo hi=some (Co k lo hi,()):=by
 show((bif decide (lo≤k) then(bif !!decide (k≤hi) then _ else some (.inr (false,()))) else some (.inr (false,()))):Option (Unit ⊕ ((Bool×Unit)))).bind _=_
 unfold Co
 cases decide (lo≤k) <;> cases decide (k≤hi) <;> rfl
theorem AsU (n:Nat) (lo hi:Int):Hy (n+1) [] lo hi=some (true,()):=rfl
theorem AsV (n:Nat) (w:Ar) (d:AJ) (hw:w.days=7) (hh:w.hours=3000) (hd:∃ k off,d=AJ.mk [k] [] [] off 0 0):Dd (n+2) w d=some (Aag d,()):=by
 obtain⟨k,off,rfl⟩:=hd
 unfold Dd Aag
 rw [hw,hh,AsT]
 simp only [Zaa,AsU]
 simp only [ZaN,List.all_nil,Bool.and_true]
 unfold Co
 cases (decide (0≤k) && decide (k≤15)) <;> cases decide (-10080≤off) <;> cases decide (off≤1440) <;> rfl
def Bc (w:Ar):Int:=if 12<w.duties.length then 3 else if 6<w.drivers.length then 3 else bif w.duties.all Ll then(bif w.drivers.all Aag then 0 else 1) else 1
theorem Aq1 {n:Nat} {w:Ar} (hw:wkOk w) (h:20<n) :
  (w.duties.all Ll=true→Bg n w.duties w (w.duties.length:Int) 0=some (.inl ((((w,()),()),()),())))∧(w.duties.all Ll=false→∃ k:Nat,Bg n w.duties w (w.duties.length:Int) 0=some (.inr ((((w,()),()),()),((k:Int),())))) :=
 Gx (F:=fun n i=>Bg n w.duties w (w.duties.length:Int) i) (G:=fun n i v0=>(EE n w v0).bind fun v1=>bif !v1.fst then(some (.inr ((((w,()),()),()),(i,())))) else Bg n w.duties w (w.duties.length:Int) (IntKind.i64.wrap (i+1))) w.duties Ll ((((w,()),()),()),()) (fun i=>((((w,()),()),()),(i,()))) 0 (by have:=hw.2.2.2.2.1; omega) (fun _ _=>rfl) (fun n i hi _=>by
  rw [AwH n w _ hw.1]
  cases Ll w.duties[i] <;> rfl) (n:=n) (by have:=hw.2.2.2.2.1; omega)
theorem Aq2 {n:Nat} {w:Ar} (hw:wkOk w) (h:20<n) :
  (w.drivers.all Aag=true→Bh n w.drivers w (w.drivers.length:Int) 0=some (.inl ((((w,()),()),()),())))∧(w.drivers.all Aag=false→∃ k:Nat,Bh n w.drivers w (w.drivers.length:Int) 0=some (.inr ((((w,()),()),()),((k:Int),())))) :=
 Gx (F:=fun n i=>Bh n w.drivers w (w.drivers.length:Int) i) (G:=fun n i v0=>(Dd n w v0).bind fun v1=>bif !v1.fst then(some (.inr ((((w,()),()),()),(i,())))) else Bh n w.drivers w (w.drivers.length:Int) (IntKind.i64.wrap (i+1))) w.drivers Aag ((((w,()),()),()),()) (fun i=>((((w,()),()),()),(i,()))) 2 (by have:=hw.2.2.2.2.2.1; omega) (fun _ _=>rfl) (fun n i hi hn=>by
  obtain⟨m,rfl⟩:∃ m,n=m+2:=⟨n-2,by omega⟩
  rw [AsV m w _ hw.1 hw.2.2.2.1 (hw.2.2.2.2.2.2 _ (Zax hi))]
  cases Aag w.drivers[i] <;> rfl) (n:=n) (by have:=hw.2.2.2.2.2.1; omega)
theorem Um {n:Nat} {w:Ar} (hw:wkOk w) (h:20<n):CM n w=some (Bc w,()):=by
 unfold CM Bc
 have hw':=hw
 obtain⟨h1,h2,h3,h4,_⟩:=hw'
 rw [h1,h2,h3,h4]
 by_cases h12:12<w.duties.length
 · rw [show decide ((w.duties.length:Int)>12)=true from Zaf (by omega),if_pos h12]; rfl
 · rw [show decide ((w.duties.length:Int)>12)=false from Zae (by omega),if_neg h12]
   by_cases h6:6<w.drivers.length
   · rw [show decide ((w.drivers.length:Int)>6)=true from Zaf (by omega),if_pos h6]; rfl
   · rw [show decide ((w.drivers.length:Int)>6)=false from Zae (by omega),if_neg h6]
     obtain⟨a1,a2⟩:=Aq1 hw h
     obtain⟨b1,b2⟩:=Aq2 hw h
     show(Bg n w.duties w (w.duties.length:Int) 0).bind _=_
     cases ha:w.duties.all Ll with
     | false =>
      obtain⟨k,hk⟩:=a2 ha
      rw [hk]
      simp only [Zaa,Sum.elim_inr]
      rw [show decide ((k:Int)≥0)=true by simp]
      rfl
     | true =>
      rw [a1 ha]
      simp only [Zaa,Za1]
      cases hb:w.drivers.all Aag with
      | false =>
       obtain⟨k,hk⟩:=b2 hb
       rw [hk]
       simp only [Zaa,Sum.elim_inr]
       rw [show decide ((k:Int)≥0)=true by simp]
       rfl
      | true=>rw [b1 hb]; rfl
abbrev Ag7 (x:Int):Int:=IntKind.i64.wrap x
def OH:A1:=A1.mk 0 0 0 0
def ML (s:A1) (d:AP) (e:Int):A1 :=
 bif decide (s.day=d.day) then A1.mk s.free s.row (Ag7 (s.used+Ag7 (e-d.on))) s.day else
 bif s.day != Ag7 (d.day-1) then A1.mk (Ag7 (Ag7 (d.day*1440)+e)) (Ag7 (0+1)) (Ag7 (s.used+Ag7 (e-d.on))) d.day else
 A1.mk (Ag7 (Ag7 (d.day*1440)+e)) (Ag7 (s.row+1)) (Ag7 (s.used+Ag7 (e-d.on))) d.day
theorem ArY (n:Nat) (s:A1) (d:AP) (e:Int):DL n s d e=some (ML s d e,()):=by
 unfold DL ML
 cases decide (s.day=d.day)
 · cases s.day != IntKind.i64.wrap (d.day-1) <;> rfl
 · rfl
def It (w:Ar) (k:Int) (d:AP) (s:A1):Nat→Bool
 | 0=>match A6 w.drivers k with
  | some v=>v.knows.any fun x=>decide (d.route=x)
  | none=>true
 | 1=>true
 | 2=>s.day != d.day
 | 3=>bif !decide (s.day=d.day) then decide (Ag7 (Ag7 (Ag7 (d.day*1440)+d.on)-s.free)≥w.rest) else true
 | _=>bif !decide (s.day=d.day) then decide ((ML s d d.on).row≤w.run) else true
theorem Au6 {n:Nat} {w:Ar} {k:Int} {d:AP} {s:A1} {v:AJ} (hv:A6 w.drivers k=some v) (hk:∃ x off,v=AJ.mk [x] [] [] off 0 0):DK (n+2) w k d s=some (It w k d s 0,()):=by
 obtain⟨x,off,rfl⟩:=hk
 unfold DK It
 rw [hv]
 show((bif decide (d.route=x) then some (.inr (0,())) else some (.inl ()):Option (Unit ⊕ (Int×Unit))).bind _)=_
 simp only [Zby,List.any_nil,Bool.or_false]
 cases decide (d.route=x) <;> rfl
theorem AwI {n:Nat} {w:Ar} {k:Int} {d:AP} {s:A1} {v:AJ} (hv:A6 w.drivers k=some v) (hk:∃ x off,v=AJ.mk [x] [] [] off 0 0):EG (n+1) w k d s=some (It w k d s 1,()):=by
 obtain⟨x,off,rfl⟩:=hk
 unfold EG It
 rw [hv]; rfl
theorem AsW {n:Nat} {w:Ar} {k:Int} {d:AP} {s:A1}:FP n w k d s=some (It w k d s 2,()):=rfl
theorem AsX {n:Nat} {w:Ar} {k:Int} {d:AP} {s:A1}:De n w k d s=some (It w k d s 3,()):=by
 unfold De
 show _=some ((bif !decide (s.day=d.day) then decide (Ag7 (Ag7 (Ag7 (d.day*1440)+d.on)-s.free)≥w.rest) else true),())
 cases decide (s.day=d.day) <;> rfl
theorem Au7 {n:Nat} {w:Ar} {k:Int} {d:AP} {s:A1}:DM n w k d s=some (It w k d s 4,()):=by
 unfold DM
 show _=some ((bif !decide (s.day=d.day) then decide ((ML s d d.on).row≤w.run) else true),())
 rw [ArY]
 cases decide (s.day=d.day) <;> rfl
def Ah6 (w:Ar) (k i:Int) (d:AP) (s:A1) (j:Nat):List Ay:=bif It w k d s j then [] else [Ay.mk (IK.mk (j:Int)) k i]
def Sj (w:Ar) (k i:Int) (d:AP) (s:A1):List Ay:=Ah6 w k i d s 0++(Ah6 w k i d s 1++(Ah6 w k i d s 2++(Ah6 w k i d s 3++Ah6 w k i d s 4)))
abbrev AkG:List Bb:=[Bb.mk (IK.mk 0) (Fp.mk (↑238:Int)),Bb.mk (IK.mk 1) (Fp.mk (↑239:Int)),Bb.mk (IK.mk 2) (Fp.mk (↑240:Int)),Bb.mk (IK.mk 3) (Fp.mk (↑241:Int)),Bb.mk (IK.mk 4) (Fp.mk (↑242:Int))]
section
variable {w:Ar} {truth:List Int} {now:List A1} {i k:Int} {d:AP} {s:A1} {v:AJ}
theorem AyQ {n:Nat} {out:List Ay} (h6:now.length.beq 6=true) (hn:A6 now k=some s) (hg:now.get?Internal k.toNat=some s) (hv:A6 w.drivers k=some v) (hk:∃ x off,v=AJ.mk [x] [] [] off 0 0) (ho:out.length≤1000) :
  Ai (n+3) w truth out now i d k AkG 5 0=Ai (n+2) w truth (out++Ah6 w k i d s 0) now i d k AkG 5 1:=by
 rw [Ai]
 show(bif now.length.beq 6 then((A6 now k).bind fun v2=>(now.get?Internal k.toNat).bind fun v3=>((DK (n+2) w k d v3).bind fun v4=>bif !v4.fst then((app out [Ay.mk (IK.mk 0) k i]).bind fun v5=>Ai (n+2) w truth v5 now i d k AkG 5 1) else Ai (n+2) w truth out now i d k AkG 5 1)) else none)=_
 rw [h6,Zab,hn,Zaa,hg,Zaa,Au6 hv hk,Zaa,AK (by simp; omega)]
 unfold Ah6
 cases It w k d s 0 <;> simp
theorem AyR {n:Nat} {out:List Ay} (h6:now.length.beq 6=true) (hn:A6 now k=some s) (hg:now.get?Internal k.toNat=some s) (hv:A6 w.drivers k=some v) (hk:∃ x off,v=AJ.mk [x] [] [] off 0 0) (ho:out.length≤1000) :
  Ai (n+3) w truth out now i d k AkG 5 1=Ai (n+2) w truth (out++Ah6 w k i d s 1) now i d k AkG 5 2:=by
 rw [Ai]
 show(bif now.length.beq 6 then((A6 now k).bind fun v2=>(now.get?Internal k.toNat).bind fun v3=>((EG (n+2) w k d v3).bind fun v4=>bif !v4.fst then((app out [Ay.mk (IK.mk 1) k i]).bind fun v5=>Ai (n+2) w truth v5 now i d k AkG 5 2) else Ai (n+2) w truth out now i d k AkG 5 2)) else none)=_
 rw [h6,Zab,hn,Zaa,hg,Zaa,AwI hv hk,Zaa,AK (by simp; omega)]
 unfold Ah6
 cases It w k d s 1 <;> simp
theorem AyS {n:Nat} {out:List Ay} (h6:now.length.beq 6=true) (hn:A6 now k=some s) (hg:now.get?Internal k.toNat=some s) (hv:A6 w.drivers k=some v) (hk:∃ x off,v=AJ.mk [x] [] [] off 0 0) (ho:out.length≤1000) :
  Ai (n+3) w truth out now i d k AkG 5 2=Ai (n+2) w truth (out++Ah6 w k i d s 2) now i d k AkG 5 3:=by
 rw [Ai]
 show(bif now.length.beq 6 then((A6 now k).bind fun v2=>(now.get?Internal k.toNat).bind fun v3=>((FP (n+2) w k d v3).bind fun v4=>bif !v4.fst then((app out [Ay.mk (IK.mk 2) k i]).bind fun v5=>Ai (n+2) w truth v5 now i d k AkG 5 3) else Ai (n+2) w truth out now i d k AkG 5 3)) else none)=_
 rw [h6,Zab,hn,Zaa,hg,Zaa,AsW,Zaa,AK (by simp; omega)]
 unfold Ah6
 cases It w k d s 2 <;> simp
theorem AyT {n:Nat} {out:List Ay} (h6:now.length.beq 6=true) (hn:A6 now k=some s) (hg:now.get?Internal k.toNat=some s) (hv:A6 w.drivers k=some v) (hk:∃ x off,v=AJ.mk [x] [] [] off 0 0) (ho:out.length≤1000) :
  Ai (n+3) w truth out now i d k AkG 5 3=Ai (n+2) w truth (out++Ah6 w k i d s 3) now i d k AkG 5 4:=by
 rw [Ai]
 show(bif now.length.beq 6 then((A6 now k).bind fun v2=>(now.get?Internal k.toNat).bind fun v3=>((De (n+2) w k d v3).bind fun v4=>bif !v4.fst then((app out [Ay.mk (IK.mk 3) k i]).bind fun v5=>Ai (n+2) w truth v5 now i d k AkG 5 4) else Ai (n+2) w truth out now i d k AkG 5 4)) else none)=_
 rw [h6,Zab,hn,Zaa,hg,Zaa,AsX,Zaa,AK (by simp; omega)]
 unfold Ah6
 cases It w k d s 3 <;> simp
theorem AyU {n:Nat} {out:List Ay} (h6:now.length.beq 6=true) (hn:A6 now k=some s) (hg:now.get?Internal k.toNat=some s) (hv:A6 w.drivers k=some v) (hk:∃ x off,v=AJ.mk [x] [] [] off 0 0) (ho:out.length≤1000) :
  Ai (n+3) w truth out now i d k AkG 5 4=Ai (n+2) w truth (out++Ah6 w k i d s 4) now i d k AkG 5 5:=by
 rw [Ai]
 show(bif now.length.beq 6 then((A6 now k).bind fun v2=>(now.get?Internal k.toNat).bind fun v3=>((DM (n+2) w k d v3).bind fun v4=>bif !v4.fst then((app out [Ay.mk (IK.mk 4) k i]).bind fun v5=>Ai (n+2) w truth v5 now i d k AkG 5 5) else Ai (n+2) w truth out now i d k AkG 5 5)) else none)=_
 rw [h6,Zab,hn,Zaa,hg,Zaa,Au7,Zaa,AK (by simp; omega)]
 unfold Ah6
 cases It w k d s 4 <;> simp
theorem ArZ (j:Nat):(Ah6 w k i d s j).length≤1:=by
 unfold Ah6
 cases It w k d s j <;> simp
theorem AyV {n:Nat} {out:List Ay} (h6:now.length.beq 6=true) (hn:A6 now k=some s) (hg:now.get?Internal k.toNat=some s) (hv:A6 w.drivers k=some v) (hk:∃ x off,v=AJ.mk [x] [] [] off 0 0) (ho:out.length≤900) :
  Ai (n+10) w truth out now i d k AkG 5 0=some (w,((truth,()),((out++Sj w k i d s,()),(now,(d,((),((),(i,((),(k,())))))))))):=by
 have b:=fun j=>ArZ (w:=w) (i:=i) (k:=k) (d:=d) (s:=s) j
 have b0:=b 0; have b1:=b 1; have b2:=b 2; have b3:=b 3
 rw [show n+10=(n+7)+3 by omega,AyQ h6 hn hg hv hk (by omega),show n+7+2=(n+6)+3 by omega,AyR h6 hn hg hv hk (by simp; omega),show n+6+2=(n+5)+3 by omega,AyS h6 hn hg hv hk (by simp; omega),show n+5+2=(n+4)+3 by omega,AyT h6 hn hg hv hk (by simp; omega),show n+4+2=(n+3)+3 by omega,AyU h6 hn hg hv hk (by simp; omega)]
 rw [Ai]
 simp only [Sj,ZaF]
 rfl
end
def DC (w:Ar) (roster:List Int) (day:Int) (st:List Ay×List A1) (i:Nat) (d:AP):List Ay×List A1 :=
 bif decide (d.day=day) then(bif decide (roster.getD i (-1)=-1) then st else
  (st.1++Sj w (roster.getD i (-1)) (i:Int) d (st.2.getD (roster.getD i (-1)).toNat OH),st.2.set (roster.getD i (-1)).toNat (ML (st.2.getD (roster.getD i (-1)).toNat OH) d d.off.hi))) else st
def D7 (w:Ar) (roster:List Int) (day:Int):Nat→List Ay×List A1→List AP→List Ay×List A1
 | _,st,[]=>st
 | i,st,d::r=>D7 w roster day (i+1) (DC w roster day st i d) r
def E5 (w:Ar) (roster:List Int):Prop:=roster.length=w.duties.length∧∀ x∈roster,-1≤x∧x<(w.drivers.length:Int)
theorem Ao0 (w:Ar) (k i:Int) (d:AP) (s:A1):(Sj w k i d s).length≤5:=by
 have b:=fun j=>ArZ (w:=w) (i:=i) (k:=k) (d:=d) (s:=s) j
 have b0:=b 0; have b1:=b 1; have b2:=b 2; have b3:=b 3; have b4:=b 4
 simp only [Sj,Zaz]
 omega
theorem AxS {w:Ar} {roster truth:List Int} (hw:wkOk w) (h6d:w.drivers.length≤6) (hro:E5 w roster) (htr:truth=w.duties.map fun d=>d.off.hi) (day:Int):∀ (n i:Nat)(st:List Ay×List A1),100+(w.duties.length-i)<n→i≤w.duties.length→st.1.length≤500+i*5→st.2.length=6 →
  Bj n w roster truth st.1 st.2 day w.duties (w.duties.length:Int) (i:Int)=some (.inl ((w,((roster,()),((truth,()),(((D7 w roster day i st (w.duties.drop i)).1,()),((D7 w roster day i st (w.duties.drop i)).2,()))))),((),((),((),((),((),((day,()),()))))))))
 | 0,_,_,h,_,_,_=>absurd h (Zan _)
 | n+1,i,st,h,hi,ho,hs=>by
  have hwl:=hw.2.2.2.2.1
  rw [Bj]
  by_cases hx:i<w.duties.length
  · have hd:w.duties.drop i=w.duties[i]::w.duties.drop (i+1):=Zaj hx
    have ih:=AxS hw h6d hro htr day n (i+1)
    rw [show decide ((i:Int)<(w.duties.length:Int))=true by simp; omega,Zab,B3 hx,Zaa,hd,wN i (by omega)]
    simp only [D7]
    generalize hst:DC w roster day st i w.duties[i]=st'
    unfold DC at hst
    cases hday:decide (w.duties[i].day=day) with
    | false =>
     rw [hday,Zad] at hst
     subst hst
     exact ih st (by omega) (by omega) (by omega) hs
    | true =>
     rw [hday,Zab] at hst
     have hxr:i<roster.length:=by rw [hro.1]; exact hx
     have hrg:roster.getD i (-1)=roster[i]:=by simp [List.getD,Zak hxr]
     rw [Zab,B3 hxr,Zaa]
     rw [hrg] at hst
     have hb:=hro.2 _ (Zax hxr)
     generalize hk:roster[i]=k at *
     by_cases h1:k=-1
     · rw [Zaf h1] at hst ⊢
       simp only [Zab] at hst ⊢
       subst hst
       exact ih st (by omega) (by omega) (by omega) hs
     · rw [Zae h1] at hst ⊢
       simp only [Zad] at hst ⊢
       obtain⟨j,rfl⟩:∃ j:Nat,k=j:=⟨k.toNat,by omega⟩
       have hj:j<w.drivers.length:=by omega
       have hj6:j<st.2.length:=by omega
       have hg:st.2.getD ((j:Int)).toNat OH=st.2[j]:=by simp [List.getD,Zak hj6]
       rw [hg] at hst
       have h6:st.2.length.beq 6=true:=by rw [hs]; rfl
       obtain⟨m,rfl⟩:∃ m,n=m+10:=⟨n-10,by omega⟩
       have hl2:=AyV (n:=m) (w:=w) (truth:=truth) (now:=st.2) (i:=(i:Int)) (k:=(j:Int)) (d:=w.duties[i]) (s:=st.2[j]) (v:=w.drivers[j]) (out:=st.1) h6 (B3 hj6) (AmB hj6) (B3 hj) (hw.2.2.2.2.2.2 _ (Zax hj)) (by omega)
       have hl5:(([Bb.mk (IK.mk 0) (Fp.mk (↑238:Int)),Bb.mk (IK.mk 1) (Fp.mk (↑239:Int)),Bb.mk (IK.mk 2) (Fp.mk (↑240:Int)),Bb.mk (IK.mk 3) (Fp.mk (↑241:Int)),Bb.mk (IK.mk 4) (Fp.mk (↑242:Int))]:List Bb).length:Int)=5:=rfl
       rw [hl5,hl2]
       simp only [Zaa]
       have htl:i<truth.length:=by rw [htr,ZaX]; exact hx
       have hti:truth[i]=w.duties[i].off.hi:=by subst htr; simp
       rw [h6,Zab,B3 hj6,Zaa,show((j:Nat):Int).toNat=j from rfl,AmB hj6,Zaa,B3 htl,Zaa,ArY,Zaa,Zab,Zaa,Zaa,hti]
       rw [show((j:Nat):Int).toNat=j from rfl] at hst
       have hbl:=Ao0 w (j:Int) (i:Int) w.duties[i] st.2[j]
       rw [← hst]
       have:=ih (st.1++Sj w (j:Int) (i:Int) w.duties[i] st.2[j],st.2.set j (ML st.2[j] w.duties[i] w.duties[i].off.hi)) (by omega) (by omega) (by simp; omega) (by simp [hs])
       exact this
  · have hd:w.duties.drop i=[]:=by simp; omega
    rw [show decide ((i:Int)<(w.duties.length:Int))=false by simp; omega,hd]
    rfl
theorem AsY (w:Ar) (roster:List Int) (day:Int) (st:List Ay×List A1) (i:Nat) (d:AP):(DC w roster day st i d).1.length≤st.1.length+5∧(DC w roster day st i d).2.length=st.2.length:=by
 unfold DC
 have:=Ao0 w (roster.getD i (-1)) (i:Int) d (st.2.getD (roster.getD i (-1)).toNat OH)
 cases decide (d.day=day)
 · exact⟨by simp,rfl⟩
 · cases decide (roster.getD i (-1)=-1)
   · exact⟨by simp only [Zab,Zad,Zaz]; omega,by simp⟩
   · exact⟨by simp,rfl⟩
theorem AhZ (w:Ar) (roster:List Int) (day:Int):∀ (l:List AP)(i:Nat)(st:List Ay×List A1),(D7 w roster day i st l).1.length≤st.1.length+5*l.length∧(D7 w roster day i st l).2.length=st.2.length
 | [],_,st=>⟨by simp [D7],rfl⟩
 | d::l,i,st=>by
  obtain⟨h1,h2⟩:=AhZ w roster day l (i+1) (DC w roster day st i d)
  obtain⟨h3,h4⟩:=AsY w roster day st i d
  simp only [D7,Za6]
  exact⟨by omega,by rw [h2,h4]⟩
def CX (w:Ar) (roster:List Int):Nat→Nat→List Ay×List A1→List Ay×List A1
 | 0,_,st=>st
 | k+1,day,st=>CX w roster k (day+1) (D7 w roster (day:Int) 0 st w.duties)
theorem AxT {w:Ar} {roster truth:List Int} (hw:wkOk w) (h6d:w.drivers.length≤6) (hro:E5 w roster) (htr:truth=w.duties.map fun d=>d.off.hi):∀ (k day n:Nat)(st:List Ay×List A1),day+k=7→200+k<n→st.1.length≤day*65→st.2.length=6 →
  Bk n w roster truth st.1 st.2 7 (day:Int)=some (w,((roster,()),((truth,()),(((CX w roster k day st).1,()),((CX w roster k day st).2,((),((),((),()))))))))
 | _,_,0,_,_,h,_,_=>absurd h (Zan _)
 | 0,day,n+1,st,hd,h,ho,hs=>by
  rw [Bk,show decide ((day:Int)<7)=false from Zae (by omega)]
  rfl
 | k+1,day,n+1,st,hd,h,ho,hs=>by
  have hwl:=hw.2.2.2.2.1
  have h4:=AxS hw h6d hro htr (day:Int) n 0 st (by omega) (by omega) (by omega) hs
  rw [show((0:Nat):Int)=0 from rfl,Zar] at h4
  obtain⟨a1,a2⟩:=AhZ w roster (day:Int) w.duties 0 st
  rw [Bk,show decide ((day:Int)<7)=true from Zaf (by omega),Zab,h4,wN day (by omega)]
  simp only [Zaa,Za1]
  have:=AxT hw h6d hro htr k (day+1) n (D7 w roster (day:Int) 0 st w.duties) (by omega) (by omega) (by omega) (by omega)
  exact this
def Lm (w:Ar) (now:List A1):Nat→Nat→List Ay
 | 0,_=>[]
 | k+1,i=>(bif decide ((now.getD i OH).used>w.hours) then [Ay.mk (IK.mk 5) (i:Int) 0] else [])++Lm w now k (i+1)
theorem Au8 {w:Ar} {now:List A1} (h6d:w.drivers.length≤6) (hs:now.length=6):∀ (k i n:Nat)(out:List Ay),i+k=w.drivers.length→k<n→out.length≤900+i→Bl n w out now (w.drivers.length:Int) (i:Int)=some (w,((out++Lm w now k i,()),(now,((),()))))
 | _,_,0,_,_,h,_=>absurd h (Zan _)
 | 0,i,n+1,out,hk,h,ho=>by
  rw [Bl,show decide ((i:Int)<(w.drivers.length:Int))=false from Zae (by omega)]
  simp [Lm]
 | k+1,i,n+1,out,hk,h,ho=>by
  have hi:i<now.length:=by omega
  have h6:now.length.beq 6=true:=by rw [hs]; rfl
  have hg:now.getD i OH=now[i]:=by simp [List.getD,Zak hi]
  rw [Bl,show decide ((i:Int)<(w.drivers.length:Int))=true from Zaf (by omega),Zab,h6,Zab,B3 hi,Zaa,show((i:Nat):Int).toNat=i from rfl,AmB hi,Zaa,wN i (by omega),AK (by simp; omega)]
  simp only [Lm,hg,Zaa]
  cases decide (now[i].used>w.hours) with
  | true =>
   have:=Au8 h6d hs k (i+1) n (out++[Ay.mk (IK.mk 5) (i:Int) 0]) (by omega) (by omega) (by simp; omega)
   simpa using this
  | false =>
   have:=Au8 h6d hs k (i+1) n out (by omega) (by omega) (by omega)
   simpa using this
def AW (w:Ar):List A1:=(w.drivers.map fun d=>A1.mk d.off d.row d.used (-1))++List.replicate (6-w.drivers.length) OH
theorem Afa (full:List AJ) (h6:full.length≤6):∀ (n i:Nat),full.length-i<n→i≤full.length→BY n ((full.take i).map (fun d=>A1.mk d.off d.row d.used (-1))++List.replicate (6-i) OH) full (full.length:Int) (i:Int)=some ((full.map fun d=>A1.mk d.off d.row d.used (-1))++List.replicate (6-full.length) OH,((),()))
 | 0,_,h,_=>absurd h (Zan _)
 | n+1,i,h,hi=>by
  have hlen:((full.take i).map (fun d=>A1.mk d.off d.row d.used (-1))++List.replicate (6-i) OH).length=6:=by
   rw [Zaz,ZaX,ZaK,List.length_replicate]; omega
  rw [BY]
  by_cases hx:i<full.length
  · rw [show decide ((i:Int)<(full.length:Int))=true by simp; omega,Zab,B3 hx,Zaa,hlen,show Nat.beq 6 6=true from rfl,Zab,B3 (by omega),Zaa,show((i:Nat):Int).toNat=i from rfl,AmB (by omega),Zaa,wN i (by omega)]
    have:((full.take i).map (fun d=>A1.mk d.off d.row d.used (-1))++List.replicate (6-i) OH).set i (A1.mk full[i].off full[i].row full[i].used (-1))=(full.take (i+1)).map (fun d=>A1.mk d.off d.row d.used (-1))++List.replicate (6-(i+1)) OH:=by
     rw [ZaQ hx,List.map_append,ZaF,List.set_append_right _ _ (by rw [ZaX,ZaK]; omega)]
     congr 1
     rw [ZaX,ZaK,Nat.min_eq_left hi,Nat.sub_self,show 6-i=(6-(i+1))+1 by omega,List.replicate_succ]
     rfl
    rw [this]
    exact Afa full h6 n (i+1) (by omega) (by omega)
  · have:i=full.length:=by omega
    subst this
    rw [show decide ((full.length:Int)<(full.length:Int))=false by simp,Zad,ZaV (Zaq _)]
theorem AsZ {n:Nat} {w:Ar} (h6:w.drivers.length≤6) (hn:10<n):FN n w=some (AW w,()):=by
 unfold FN
 have h:=Afa w.drivers h6 n 0 (by omega) (by omega)
 rw [show((0:Nat):Int)=0 from rfl] at h
 have e:([A1.mk 0 0 0 0,A1.mk 0 0 0 0,A1.mk 0 0 0 0,A1.mk 0 0 0 0,A1.mk 0 0 0 0,A1.mk 0 0 0 0]:List A1)=(w.drivers.take 0).map (fun d=>A1.mk d.off d.row d.used (-1))++List.replicate (6-0) OH:=rfl
 rw [e,h]
 have hl:((w.drivers.map fun d=>A1.mk d.off d.row d.used (-1))++List.replicate (6-w.drivers.length) OH).length=6:=by
  rw [Zaz,ZaX,List.length_replicate]; omega
 simp only [Zaa,hl]
 rfl
theorem R1 {w:Ar} (h6:w.drivers.length≤6):(AW w).length=6:=by
 unfold AW
 rw [Zaz,ZaX,List.length_replicate]; omega
theorem Al6 (full:List AP) (hl:full.length≤1000):∀ (n i:Nat),full.length-i<n→i≤full.length→CD n ((full.take i).map fun d=>d.off.hi) full (full.length:Int) (i:Int)=some (full.map fun d=>d.off.hi,())
 | 0,_,h,_=>absurd h (Zan _)
 | n+1,i,h,hi=>by
  rw [CD]
  by_cases hx:i<full.length
  · rw [show decide ((i:Int)<(full.length:Int))=true by simp; omega,Zab,B3 hx,Zaa,AK (by rw [ZaX,ZaK]; simp; omega),Zaa,wN i (by omega)]
    have:(full.take i).map (fun d=>d.off.hi)++[full[i].off.hi]=(full.take (i+1)).map fun d=>d.off.hi:=by
     rw [ZaQ hx,List.map_append]; rfl
    rw [this]
    exact Al6 full hl n (i+1) (by omega) (by omega)
  · have:i=full.length:=by omega
    subst this
    rw [show decide ((full.length:Int)<(full.length:Int))=false by simp,Zad,ZaV (Zaq _)]
theorem AwJ {n:Nat} {w:Ar} (h:w.duties.length≤1000) (hn:w.duties.length<n):HU n w=some (w.duties.map fun d=>d.off.hi,()):=by
 unfold HU
 have h:=Al6 w.duties h n 0 (by omega) (by omega)
 rw [show((0:Nat):Int)=0 from rfl,List.take_zero,List.map_nil] at h
 rw [h]; rfl
def AkH (a b:Ay):Bool:=a.driver == b.driver && a.kind.n == b.kind.n && a.duty == b.duty
theorem E6 {α:Type} (eq:α→α→Bool):∀ (a b:List α),F6 eq a=true→F6 eq b=true→(∀ x∈a,∀ y∈b,eq x y=false)→F6 eq (a++b)=true
 | [],b,_,hb,_=>hb
 | x::a,b,ha,hb,h=>by
  unfold F6 at ha
  obtain⟨h1,h2⟩:=A8 ha
  rw [ZaP]
  unfold F6
  rw [List.any_append,E6 eq a b h2 hb fun x' hx'=>h x' (by simp [hx'])]
  have:b.any (eq x)=false:=by
   rw [Zbw]
   intro y hy he
   rw [h x (by simp) y hy] at he; cases he
  rw [this,Bool.or_false,h1]; rfl
theorem Dj {w:Ar} {k i:Int} {d:AP} {s:A1} {j:Nat} {b:Ay} (h:b∈Ah6 w k i d s j):b=Ay.mk (IK.mk (j:Int)) k i:=by
 unfold Ah6 at h
 cases hr:It w k d s j with
 | true=>rw [hr] at h; cases h
 | false=>rw [hr] at h; simpa using h
theorem Ao1 {w:Ar} {k i:Int} {d:AP} {s:A1} {b:Ay} (h:b∈Sj w k i d s):∃ j:Nat,j≤4∧b=Ay.mk (IK.mk (j:Int)) k i:=by
 unfold Sj at h
 rcases Zam.1 h with h | h
 · exact⟨0,by omega,Dj h⟩
 rcases Zam.1 h with h | h
 · exact⟨1,by omega,Dj h⟩
 rcases Zam.1 h with h | h
 · exact⟨2,by omega,Dj h⟩
 rcases Zam.1 h with h | h
 · exact⟨3,by omega,Dj h⟩
 · exact⟨4,by omega,Dj h⟩
theorem W6 (w:Ar) (k i:Int) (d:AP) (s:A1) (j:Nat):F6 AkH (Ah6 w k i d s j)=true:=by
 unfold Ah6
 cases It w k d s j <;> rfl
theorem Ata (w:Ar) (k i:Int) (d:AP) (s:A1):F6 AkH (Sj w k i d s)=true:=by
 have hne:∀ (a b:Nat),a≠b→AkH (Ay.mk (IK.mk (a:Int)) k i) (Ay.mk (IK.mk (b:Int)) k i)=false:=fun a b h=>by
  simp only [AkH,beq_self_eq_true,ZaD,Bool.and_true,beq_eq_false_iff_ne,ne_eq]; omega
 unfold Sj
 refine E6 _ _ _ (W6 ..) (E6 _ _ _ (W6 ..) (E6 _ _ _ (W6 ..) (E6 _ _ _ (W6 ..) (W6 ..) ?_) ?_) ?_) ?_
 · intro x hx y hy
   rw [Dj hx,Dj hy]; exact hne 3 4 (by omega)
 · intro x hx y hy
   rw [Dj hx]
   rcases Zam.1 hy with hy | hy
   · rw [Dj hy]; exact hne 2 3 (by omega)
   · rw [Dj hy]; exact hne 2 4 (by omega)
 · intro x hx y hy
   rw [Dj hx]
   rcases Zam.1 hy with hy | hy
   · rw [Dj hy]; exact hne 1 2 (by omega)
   rcases Zam.1 hy with hy | hy
   · rw [Dj hy]; exact hne 1 3 (by omega)
   · rw [Dj hy]; exact hne 1 4 (by omega)
 · intro x hx y hy
   rw [Dj hx]
   rcases Zam.1 hy with hy | hy
   · rw [Dj hy]; exact hne 0 1 (by omega)
   rcases Zam.1 hy with hy | hy
   · rw [Dj hy]; exact hne 0 2 (by omega)
   rcases Zam.1 hy with hy | hy
   · rw [Dj hy]; exact hne 0 3 (by omega)
   · rw [Dj hy]; exact hne 0 4 (by omega)
def Aq3 (w:Ar) (day:Int) (i:Nat) (out:List Ay):Prop:=F6 AkH out=true∧∀ b∈out,∃ (j:Nat)(hj:j<w.duties.length),b.duty=(j:Int)∧(w.duties[j].day<day∨(w.duties[j].day=day∧j<i))∧0≤b.kind.n∧b.kind.n≤4∧0≤b.driver∧b.driver≤10
theorem Asa {w:Ar} {roster:List Int} (h6d:w.drivers.length≤6) (hro:E5 w roster) (day:Int):∀ (l:List AP)(i:Nat)(st:List Ay×List A1),w.duties.drop i=l→Aq3 w day i st.1→Aq3 w day w.duties.length (D7 w roster day i st l).1
 | [],i,st,hd,h=>by
  refine⟨h.1,fun b hb=>?_⟩
  obtain⟨j,hj,e1,e2,e3⟩:=h.2 b hb
  exact⟨j,hj,e1,e2.imp id (fun h=>⟨h.1,hj⟩),e3⟩
 | d::l,i,st,hd,h=>by
  have hx:i<w.duties.length:=by
   rcases Za5 i w.duties.length with h' | h'
   · exact h'
   · rw [List.drop_eq_nil_of_le h'] at hd; cases hd
  have hd2:=Zaj hx
  rw [hd] at hd2
  obtain⟨e1,e2⟩:=List.cons.inj hd2
  simp only [D7]
  refine Asa h6d hro day l (i+1) _ e2.symm ?_
  have mono:∀ out,Aq3 w day i out→Aq3 w day (i+1) out:=fun out h=>⟨h.1,fun b hb=>by
   obtain⟨j,hj,e1,e2,e3⟩:=h.2 b hb
   exact⟨j,hj,e1,e2.imp id (fun h=>⟨h.1,by omega⟩),e3⟩⟩
  unfold DC
  by_cases hday:d.day=day
  · rw [Zaf hday,Zab]
    have hxr:i<roster.length:=by rw [hro.1]; exact hx
    have hrg:roster.getD i (-1)=roster[i]:=by simp [List.getD,Zak hxr]
    rw [hrg]
    have hb:=hro.2 _ (Zax hxr)
    generalize roster[i]=k at *
    by_cases h1:k=-1
    · rw [Zaf h1,Zab]; exact mono _ h
    · rw [Zae h1,Zad]
      have m:=mono _ h
      refine⟨E6 _ _ _ h.1 (Ata ..) fun x hx' y hy=>?_,fun b hb'=>?_⟩
      · obtain⟨j,hj,q1,q2,_⟩:=h.2 x hx'
        obtain⟨j',_,q4⟩:=Ao1 hy
        have hne:x.duty≠y.duty:=by
         rw [q1,q4]
         intro hc
         have hc:(j:Int)=(i:Int):=hc
         have:j=i:=by omega
         subst this
         rcases q2 with q2 | q2
         · rw [← e1,hday] at q2; omega
         · omega
        simp [AkH,hne]
      · rcases Zam.1 hb' with hb' | hb'
        · exact m.2 b hb'
        · obtain⟨j',q3,q4⟩:=Ao1 hb'
          subst q4
          exact⟨i,hx,rfl,.inr ⟨by rw [← e1]; exact hday,by omega⟩,by simp,by show(j':Int)≤4; omega,by show 0≤k; omega,by show k≤10; omega⟩
  · rw [Zae hday,Zad]; exact mono _ h
theorem Ao2 {w:Ar} {roster:List Int} (h6d:w.drivers.length≤6) (hro:E5 w roster):∀ (k day:Nat)(st:List Ay×List A1),Aq3 w (day:Int) 0 st.1→Aq3 w ((day+k:Nat):Int) 0 (CX w roster k day st).1
 | 0,day,st,h=>h
 | k+1,day,st,h=>by
  simp only [CX]
  have h1:=Asa h6d hro (day:Int) w.duties 0 st rfl h
  have h2:Aq3 w ((day+1:Nat):Int) 0 (D7 w roster (day:Int) 0 st w.duties).1:=⟨h1.1,fun b hb=>by
   obtain⟨j,hj,e1,e2,e3⟩:=h1.2 b hb
   exact⟨j,hj,e1,.inl (by rcases e2 with e2 | e2 <;> omega),e3⟩⟩
  have:=Ao2 h6d hro k (day+1) _ h2
  rw [show day+1+k=day+(k+1) by omega] at this
  exact this
theorem Un {w:Ar} {now:List A1}:∀ (k i:Nat)(b:Ay),b∈Lm w now k i→∃ j:Nat,i≤j∧j<i+k∧b=Ay.mk (IK.mk 5) (j:Int) 0
 | 0,_,b,h=>by cases h
 | k+1,i,b,h=>by
  simp only [Lm] at h
  rcases Zam.1 h with h | h
  · cases hd:decide ((now.getD i OH).used>w.hours) with
    | false=>rw [hd] at h; cases h
    | true =>
     rw [hd] at h
     exact⟨i,by omega,by omega,by simpa using h⟩
  · obtain⟨j,h1,h2,h3⟩:=Un k (i+1) b h
    exact⟨j,by omega,by omega,h3⟩
theorem Afb (w:Ar) (now:List A1):∀ (k i:Nat),F6 AkH (Lm w now k i)=true
 | 0,_=>rfl
 | k+1,i=>by
  simp only [Lm]
  refine E6 _ _ _ ?_ (Afb w now k (i+1)) fun x hx y hy=>?_
  · cases decide ((now.getD i OH).used>w.hours) <;> rfl
  · obtain⟨j,h1,h2,h3⟩:=Un _ _ _ hy
    have hx':x=Ay.mk (IK.mk 5) (i:Int) 0:=by
     cases hd:decide ((now.getD i OH).used>w.hours) with
     | false=>rw [hd] at hx; cases hx
     | true=>rw [hd] at hx; simpa using hx
    rw [hx',h3]
    have:(i:Int)≠(j:Int):=by omega
    simp [AkH,this]
def Gy (w:Ar) (roster:List Int):List Ay:=(CX w roster 7 0 ([],AW w)).1++Lm w (CX w roster 7 0 ([],AW w)).2 w.drivers.length 0
theorem Al7 {w:Ar} {roster:List Int}:∀ (k day:Nat)(st:List Ay×List A1),(CX w roster k day st).1.length≤st.1.length+k*(5*w.duties.length)∧(CX w roster k day st).2.length=st.2.length
 | 0,_,st=>⟨by simp [CX],rfl⟩
 | k+1,day,st=>by
  obtain⟨h1,h2⟩:=AhZ w roster (day:Int) w.duties 0 st
  obtain⟨h3,h4⟩:=Al7 (w:=w) (roster:=roster) k (day+1) (D7 w roster (day:Int) 0 st w.duties)
  simp only [CX]
  rw [Nat.succ_mul]
  exact⟨by omega,by rw [h4,h2]⟩
theorem Aia (w:Ar) (now:List A1):∀ (k i:Nat),(Lm w now k i).length≤k
 | 0,_=>by simp [Lm]
 | k+1,i=>by
  have:=Aia w now k (i+1)
  simp only [Lm,Zaz]
  cases decide ((now.getD i OH).used>w.hours)
  · simp; omega
  · simp; omega
theorem Au9 {out:List Ay} (hl:out.length≤1000000) (hs:∀ b∈out,0≤b.driver∧b.driver≤10∧0≤b.duty∧b.duty≤100∧0≤b.kind.n∧b.kind.n≤5) (hd:F6 AkH out=true):Am2 out=some (Le AyE out):=by
 unfold Am2
 have h1:Nat.blt (BL out) 4611686018427387904=true:=by rw [AbC]; exact Za7 (by omega)
 have h2:out.all (fun a=>An7 a.driver && An7 a.duty && (decide (0≤a.kind.n) && decide (a.kind.n≤255)))=true:=by
  rw [Za8]
  intro a ha
  have:=hs a ha
  simp [An7]; omega
 have h3:F6 (fun a b:Ay=>a.driver == b.driver && a.kind.n == b.kind.n && a.duty == b.duty) out=true:=hd
 rw [h1,h2,h3]; rfl
theorem Atb {n:Nat} {w:Ar} {roster:List Int} (hw:wkOk w) (h6d:w.drivers.length≤6) (hro:E5 w roster) (hn:300<n):FQ n w roster (w.duties.map fun d=>d.off.hi)=some (Le AyE (Gy w roster),()):=by
 unfold FQ
 have hsl:=R1 h6d
 have hwl:=hw.2.2.2.2.1
 rw [AsZ h6d (by omega)]
 simp only [Zaa,hsl,hw.1]
 rw [show(([A1.mk 0 0 0 0,A1.mk 0 0 0 0,A1.mk 0 0 0 0,A1.mk 0 0 0 0,A1.mk 0 0 0 0,A1.mk 0 0 0 0]:List A1).length.beq 6 && Nat.beq 6 6)=true from rfl,Zab]
 have h1:=AxT hw h6d hro rfl 7 0 n ([],AW w) (by omega) (by omega) (by simp) hsl
 rw [show((0:Nat):Int)=0 from rfl] at h1
 rw [h1]
 simp only [Zaa]
 obtain⟨d1,d2⟩:=Al7 (w:=w) (roster:=roster) 7 0 ([],AW w)
 simp only [Zbo,Zas] at d1
 have h3:=Au8 (w:=w) (now:=(CX w roster 7 0 ([],AW w)).2) h6d (by rw [d2]; exact hsl) w.drivers.length 0 n (CX w roster 7 0 ([],AW w)).1 (by omega) (by omega) (by omega)
 rw [show((0:Nat):Int)=0 from rfl] at h3
 rw [h3]
 simp only [Zaa]
 have ok:=Ao2 h6d hro 7 0 ([],AW w) ⟨rfl,fun b hb=>by cases hb⟩
 have hh:=Aia w (CX w roster 7 0 ([],AW w)).2 w.drivers.length 0
 have:=Au9 (out:=Gy w roster) (by unfold Gy; rw [Zaz]; omega) (fun b hb=>by
  unfold Gy at hb
  rcases Zam.1 hb with hb | hb
  · obtain⟨j,hj,e1,_,e3,e4,e5,e6⟩:=ok.2 b hb
    omega
  · obtain⟨j,e1,e2,e3⟩:=Un _ _ _ hb
    subst e3
    simp only
    omega) (by
  unfold Gy
  refine E6 _ _ _ ok.1 (Afb ..) fun x hx y hy=>?_
  obtain⟨j,hj,e1,_,e3,e4,_⟩:=ok.2 x hx
  obtain⟨j',f1,f2,f3⟩:=Un _ _ _ hy
  subst f3
  have:x.kind.n≠5:=by omega
  simp [AkH,this])
 unfold Gy at this ⊢
 rw [this]; rfl
theorem AuA {n:Nat} {w:Ar} {roster:List Int} (hw:wkOk w) (h6d:w.drivers.length≤6) (hro:E5 w roster) (hn:300<n):GL n w roster=some (decide (Gy w roster=[]),()):=by
 unfold GL
 have hwl:=hw.2.2.2.2.1
 rw [AwJ (by omega) (by omega),Zaa]
 simp only
 rw [Atb hw h6d hro hn,Zaa]
 simp only [W5]
 congr 2
 cases h:Gy w roster with
 | nil=>rfl
 | cons a l=>simp; omega
def Atc (w:Ar) (roster:List Int):Bool:=decide (roster.length=w.duties.length) && roster.all fun x=>Co x (-1) ((w.drivers.length:Int)-1)
theorem Aib {w:Ar} {roster:List Int}:Atc w roster=true↔E5 w roster:=by
 unfold Atc E5
 rw [Zap,decide_eq_true_eq,Za8]
 constructor
 · rintro⟨h1,h2⟩
   exact⟨h1,fun x hx=>by have:=Cp.1 (h2 x hx); omega⟩
 · rintro⟨h1,h2⟩
   exact⟨h1,fun x hx=>Cp.2 (by have:=h2 x hx; omega)⟩
theorem AmI {n:Nat} {w:Ar} {l:List Int} (hl:l.length≤1000) (hd:w.drivers.length≤7) (h:l.length<n) :
  (l.all (fun x=>Co x (-1) ((w.drivers.length:Int)-1))=true→Bi n l w (l.length:Int) 0=some (.inl ((((),(w,())),()),((),()))))∧(l.all (fun x=>Co x (-1) ((w.drivers.length:Int)-1))=false→∃ k:Nat,Bi n l w (l.length:Int) 0=some (.inr ((((),(w,())),()),((),((k:Int),()))))) :=
 Gx (F:=fun n i=>Bi n l w (l.length:Int) i) (G:=fun n i v0=>bif decide (-1≤v0) then(bif !decide (v0≤IntKind.i64.wrap ((↑w.drivers.length:Int)-1)) then(some (.inr ((((),(w,())),()),((),(i,()))))) else Bi n l w (l.length:Int) (IntKind.i64.wrap (i+1))) else some (.inr ((((),(w,())),()),((),(i,()))))) l (fun x=>Co x (-1) ((w.drivers.length:Int)-1)) ((((),(w,())),()),((),())) (fun i=>((((),(w,())),()),((),(i,())))) 0 (by omega) (fun _ _=>rfl) (fun n i hi _=>by
  rw [F7 (x:=(w.drivers.length:Int)-1) (by omega) (by omega)]
  unfold Co
  cases decide (-1≤l[i]) <;> cases decide (l[i]≤(w.drivers.length:Int)-1) <;> rfl) (n:=n) (by omega)
theorem Aic {n:Nat} {w:Ar} {l:List Int} (hl:l.length≤1000) (hd:w.drivers.length≤7) (h:l.length<n):FL n w l=some (Atc w l,()):=by
 unfold FL Atc
 obtain⟨a1,a2⟩:=AmI (n:=n) (w:=w) (l:=l) hl hd h
 by_cases he:l.length=w.duties.length
 · rw [show decide ((l.length:Int)=(w.duties.length:Int))=true from Zaf (by omega),Zaf he,Zab,ZaD]
   cases ha:l.all fun x=>Co x (-1) ((w.drivers.length:Int)-1) with
   | true=>rw [a1 ha]; rfl
   | false =>
    obtain⟨k,hk⟩:=a2 ha
    rw [hk]
    simp only [Zaa,Sum.elim_inr]
    rw [show decide ((k:Int)≥0)=true by simp]; rfl
 · rw [show decide ((l.length:Int)=(w.duties.length:Int))=false from Zae (by omega),Zae he]; rfl
theorem Atd {n:Nat} {l:List Int} (hl:l.length≤1000) (h:l.length<n):∃ k:Nat,LH n l=some ((k:Int),()):=by
 have H:∀ (n i k:Nat),l.length-i<n→i≤l.length→k≤i→∃ k':Nat,CO n (k:Int) l (l.length:Int) (i:Int)=some ((k':Int),()):=by
  intro n
  induction n with
  | zero=>intro i k h; exact absurd h (Zan _)
  | succ n ih =>
   intro i k h hi hk
   rw [CO]
   by_cases hx:i<l.length
   · rw [show decide ((i:Int)<(l.length:Int))=true by simp; omega,Zab,B3 hx,Zaa,wN i (by omega),wN k (by omega)]
     cases l[i] != -1
     · exact ih (i+1) k (by omega) (by omega) (by omega)
     · exact ih (i+1) (k+1) (by omega) (by omega) (by omega)
   · rw [show decide ((i:Int)<(l.length:Int))=false by simp; omega]
     exact⟨k,rfl⟩
 obtain⟨k,hk⟩:=H n 0 0 (by omega) (by omega) (by omega)
 rw [show((0:Nat):Int)=0 from rfl] at hk
 unfold LH
 exact⟨k,by rw [hk]; rfl⟩
def Ln (w:Ar) (roster:List Int):Bool:=decide (Bc w=0) && (Atc w roster && decide (Gy w roster=[]))
theorem AuB {n:Nat} {w:Ar} {roster:List Int} (hw:wkOk w) (hl:roster.length≤1000) (hn:1100<n):Dg n w roster 0=some (Ln w roster,()):=by
 unfold Dg Ln
 rw [Um hw (by omega),Zaa]
 simp only
 by_cases h0:Bc w=0
 · rw [Zaf h0,Zab,Aic hl hw.2.2.2.2.2.1 (by omega),Zaa]
   simp only [ZaD]
   cases hr:Atc w roster with
   | false=>rfl
   | true =>
    have h6:w.drivers.length≤6:=by
     unfold Bc at h0
     split at h0
     · cases h0
     · split at h0
       · cases h0
       · omega
    rw [Zab,AuA hw h6 (Aib.1 hr) (by omega),Zaa]
    simp only [ZaD]
    cases decide (Gy w roster=[]) with
    | false=>rfl
    | true =>
     obtain⟨k,hk⟩:=Atd (n:=n) hl (by omega)
     rw [Zab,hk,Zaa]
     simp
 · rw [Zae h0]; rfl
structure Eo (s:An):Prop where
 kind:∀ c∈s.cards,Lk c
 cards:s.cards.length≤40
 outs:s.outs.length≤200
 runs:s.runs.length≤200
 rk:∀ r∈s.records,YH r
 recs:s.records.length≤200
 days:s.week.days=7
 rest:s.week.rest=600
 run:s.week.run=5
 hours:s.week.hours=3000
 duties:s.week.duties.length≤12
 drivers:s.week.drivers.length≤6
 drv:∀ d∈s.week.drivers,∃ k off,d=AJ.mk [k] [] [] off 0 0
 ros:s.roster.length=s.week.duties.length
 wk:Bc s.week=0
 chk:Aoa s.cards=0
theorem Eo.wkOk {s:An} (h:Eo s):wkOk s.week:=⟨h.days,h.rest,h.run,h.hours,by have:=h.duties; omega,by have:=h.drivers; omega,h.drv⟩
def FX (s:An) (c:A0):An×Int:=if s.cards.any (fun a=>En a c) then(s,6) else if Aoa (s.cards++[c])=0 then({ s with cards:=s.cards++[c] },0) else(s,Aoa (s.cards++[c]))
def DD (s:An) (y:An×Int):(Aj×Unit) ⊕ (Aj×AI×Unit):=if y.2=0 then .inl (Aj.mk y.1,()) else .inr (Aj.mk s,(AI.mk y.2,()))
theorem Ah7 {n:Nat} {s:An} (hg:Eo s) {c:A0} (hk:Lk c) (hn:200<n):By n (Aj.mk s) c=some (DD s (FX s c)):=by
 have h40:=hg.cards
 unfold By FX
 rw [Aqw _ c s.cards (by omega) (by omega)]
 cases hs:s.cards.any (fun a=>En a c) with
 | true=>simp [DD]
 | false =>
  simp only [Zaa,Za1,Zad]
  rw [Aos (by omega)]
  simp only [Zaa]
  rw [AkC (fun a ha=>by
   rcases Zam.1 ha with ha | ha
   · exact hg.kind a ha
   · rw [Zaw.1 ha]; exact hk) (by simp; omega) (by simp; omega)]
  simp only [Zaa,Ab7]
  by_cases h0:Aoa (s.cards++[c])=0
  · simp [DD,IP,h0]
  · simp [DD,IP,h0]
def W7 (l:List Sm) (bus:Int):Option Nat:=l.findIdx? fun o=>decide (o.bus=bus)
theorem Aid (l:List Sm) (bus:Int) (hl:l.length≤1000):∀ (n i:Nat),l.length-i<n→i≤l.length→Ac1 n bus (-1) l (l.length:Int) (i:Int)=some ((match (l.drop i).findIdx? (fun o=>decide (o.bus=bus)) with | some k=>((i+k:Nat):Int) | none=>-1),())
 | 0,_,h,_=>absurd h (Zan _)
 | n+1,i,h,hi=>by
  rw [Ac1]
  by_cases hx:i<l.length
  · have hd:l.drop i=l[i]::l.drop (i+1):=Zaj hx
    rw [show decide ((i:Int)<(l.length:Int))=true by simp; omega,Zab,B3 hx,Zaa,hd,wN i (by omega),List.findIdx?_cons]
    cases decide (l[i].bus=bus) with
    | true=>simp
    | false =>
     rw [Zad,Aid l bus hl n (i+1) (by omega) (by omega)]
     cases (l.drop (i+1)).findIdx? (fun o=>decide (o.bus=bus)) with
     | none=>rfl
     | some k =>
      show some (((i+1+k:Nat):Int),())=some (((i+(k+1):Nat):Int),())
      rw [show i+1+k=i+(k+1) by omega]
  · have hd:l.drop i=[]:=by simp; omega
    rw [show decide ((i:Int)<(l.length:Int))=false by simp; omega,hd]
    rfl
def R2 (l:List Sm) (bus:Int):Int:=match W7 l bus with
 | some k=>(k:Int)
 | none=>-1
theorem Asb {n:Nat} {s:An} (hg:Eo s) (bus:Int) (hn:250<n):Auj n (Aj.mk s) bus=some (Aj.mk s,(R2 s.outs bus,())):=by
 unfold Auj R2 W7
 have:=hg.outs
 have h:=Aid s.outs bus (by omega) n 0 (by omega) (by omega)
 rw [show((0:Nat):Int)=0 from rfl,Zar] at h
 simp only [h,Zaa]
 cases s.outs.findIdx? (fun o=>decide (o.bus=bus)) <;> simp
theorem Nb (x:Option ((Aj×Unit) ⊕ (Aj×AI×Unit))) (s:An) (y:An×Int) (h:x=some (DD s y)):(x.bind fun v8=>Sum.elim (fun v9=>some (.inl (v9.fst,()))) (fun v9=>some (.inr (v9.fst,(v9.snd.fst,())))) v8:Option ((Aj×Unit) ⊕ (Aj×AI×Unit)))=some (DD s y):=by
 rw [h]
 unfold DD
 split <;> rfl
section
variable {n:Nat} {s:An} {a b c d e:Int}
theorem AuC (hg:Eo s) (hn:200<n):DX n (Aj.mk s) [a,b,c,d,e]=some (DD s (FX s (A0.mk a b c (IK.mk 0) d 0))):=Nb _ _ _ (Ah7 hg ⟨by simp,by simp⟩ hn)
theorem AwK (hg:Eo s) (hn:200<n):E9 n (Aj.mk s) [a,b,c,d,e]=some (DD s (FX s (A0.mk a b c (IK.mk 1) d 0))):=Nb _ _ _ (Ah7 hg ⟨by simp,by simp⟩ hn)
theorem Ate (hg:Eo s) (hn:200<n):Dr n (Aj.mk s) [a,b,c,d,e]=some (DD s (FX s (A0.mk a b c (IK.mk 2) 0 d))):=Nb _ _ _ (Ah7 hg ⟨by simp,by simp⟩ hn)
theorem Ao3 (hg:Eo s) (hn:200<n):CI n (Aj.mk s) [a,b,c,d,e]=some (DD s (FX s (A0.mk a b c (IK.mk 3) 0 0))):=Nb _ _ _ (Ah7 hg ⟨by simp,by simp⟩ hn)
theorem AyW:([a,b,c,d,e]:List Int).length.beq 5=true:=rfl
theorem AyX:A6 [a,b,c,d,e] 0=some a:=rfl
theorem AyY:A6 [a,b,c,d,e] 1=some b:=rfl
theorem Az9:A6 [a,b,c,d,e] 2=some c:=rfl
theorem AzE:A6 [a,b,c,d,e] 3=some d:=rfl
theorem AzF:A6 [a,b,c,d,e] 4=some e:=rfl
theorem AyZ:([a,b,c,d,e]:List Int).get?Internal (Int.toNat 0)=some a:=rfl
theorem Aza:([a,b,c,d,e]:List Int).get?Internal (Int.toNat 1)=some b:=rfl
theorem AzA:([a,b,c,d,e]:List Int).get?Internal (Int.toNat 2)=some c:=rfl
theorem AzG:([a,b,c,d,e]:List Int).get?Internal (Int.toNat 3)=some d:=rfl
theorem AzH:([a,b,c,d,e]:List Int).get?Internal (Int.toNat 4)=some e:=rfl
def Afc (l:List SM) (bus at_:Int):Bool:=l.all fun r=>!decide (r.bus=bus) || decide (r.to_≤at_)
theorem Atf (g:Aj) (bus at_:Int) (l:List SM) (hl:l.length≤1000) (hn:l.length<n):AR n g bus at_ l (l.length:Int) 0=some (bif Afc l bus at_ then .inl (g,((),(bus,(at_,())))) else .inr (g,(AI.mk 8,()))):=by
 obtain⟨h1,h2⟩:=Gx (F:=fun n i=>AR n g bus at_ l (l.length:Int) i) (G:=fun n i v0=>bif !v0.bus != bus then((AE n (decide (v0.to_≤at_)) 8).bind fun v1=>Sum.elim (fun v2=>AR n g bus at_ l (l.length:Int) (IntKind.i64.wrap (i+1))) (fun v2=>some (.inr (g,(v2.fst,())))) (v1)) else(AE n true 8).bind fun v1=>Sum.elim (fun v2=>AR n g bus at_ l (l.length:Int) (IntKind.i64.wrap (i+1))) (fun v2=>some (.inr (g,(v2.fst,())))) (v1)) l (fun r=>!decide (r.bus=bus) || decide (r.to_≤at_)) (g,((),(bus,(at_,())))) (fun _=>(g,(AI.mk 8,()))) 0 (by omega) (fun _ _=>rfl) (fun n i hi _=>by
  rw [Is,Is]
  by_cases hb:l[i].bus=bus
  · rw [show(!l[i].bus != bus)=true by simp [hb],Zaf hb]
    cases decide (l[i].to_≤at_) <;> rfl
  · rw [show(!l[i].bus != bus)=false by simp [hb],Zae hb]
    rfl) (n:=n) (by omega)
 unfold Afc
 cases hc:l.all fun r=>!decide (r.bus=bus) || decide (r.to_≤at_) with
 | true=>exact h1 hc
 | false=>obtain⟨k,hk⟩:=h2 hc; exact hk
def Aah (s:An) (bus at_:Int):An×Int :=
 if Co bus 0 99 && Co at_ 0 1000000 then
  if R2 s.outs bus<0 then
   if Afc s.runs bus at_ then
    if (Gu s.cards bus at_).2=0 then
     if (Gu s.cards bus at_).1=[] then({ s with outs:=s.outs++[Sm.mk bus at_] },0) else(s,11)
    else(s,(Gu s.cards bus at_).2)
   else(s,8)
  else(s,8)
 else(s,2)
theorem AwL (hg:Eo s) (hn:300<n):CY n (Aj.mk s) [a,b,c,d,e]=some (DD s (Aah s a b)):=by
 have h1:=hg.outs
 have h2:=hg.runs
 have h3:=hg.cards
 unfold CY
 simp only [AyW,AyX,AyZ,AyY,Aza,Zab,Zaa]
 unfold Aah
 rw [KO,KO]
 simp only [Zaa]
 cases hb1:Co a 0 99 with
 | false =>
  simp [Is,IP,DD]
 | true =>
  rw [Zab,Is,Zaa]
  cases hb2:Co b 0 1000000 with
  | false=>simp [IP,DD]
  | true =>
   simp only [IP,Zab,Za1,Zbx,if_true]
   rw [Asb hg a (by omega),Zaa]
   simp only [Is,Zaa]
   by_cases hgo:R2 s.outs a<0
   · rw [Zaf hgo,if_pos hgo]
     simp only [IP,Zab,Za1]
     rw [Atf _ a b s.runs (by omega) (by omega),Zaa]
     cases hr:Afc s.runs a b with
     | false=>simp [DD]
     | true =>
      simp only [Zab,Za1,if_true]
      rw [ArW hg.kind (by omega) (by omega)]
      simp only [Zaa,Ab7]
      by_cases h0:(Gu s.cards a b).2=0
      · rw [if_pos h0,h0]
        simp only [IP,decide_true,Zab,Za1]
        by_cases hl:(Gu s.cards a b).1=[]
        · rw [if_pos hl,hl]
          simp only [Zbo]
          rw [show decide (((0:Nat):Int)=0)=true from rfl]
          simp only [Zab,Zaa,Za1]
          rw [Aqs (by omega)]
          simp [DD]
        · rw [if_neg hl]
          have : ¬ (((Gu s.cards a b).1.length:Int)=0):=fun h=>hl (Zbh.1 (by omega))
          rw [Zae this]
          simp [DD]
      · rw [if_neg h0,Zae h0]
        simp [DD,h0,IP]
   · rw [Zae hgo,if_neg hgo]
     simp [IP,DD]
def Asc (s:An) (bus to_ miles:Int):An×Int :=
 match W7 s.outs bus with
 | none=>(s,8)
 | some k=>match s.outs[k]? with
  | none=>(s,8)
  | some o=>if Co to_ o.fr 1000000 && Co miles 0 1000 then({ s with outs:=s.outs.eraseIdx k,runs:=s.runs++[SM.mk o.bus o.fr to_ miles] },0) else(s,2)
theorem Aie {l:List Sm} {bus:Int} {k:Nat} (h:W7 l bus=some k):∃ hk:k<l.length,l[k].bus=bus:=by
 unfold W7 at h
 obtain⟨hk,h1,_⟩:=List.findIdx?_eq_some_iff_getElem.1 h
 exact⟨hk,by simpa using h1⟩
theorem Ayl (hg:Eo s) (hn:300<n):DG n (Aj.mk s) [a,b,c,d,e]=some (DD s (Asc s a b c)):=by
 have h1:=hg.outs
 have h2:=hg.runs
 unfold DG
 simp only [AyW,AyX,AyZ,AyY,Aza,Az9,AzA,Zab,Zaa]
 rw [Asb hg a (by omega),Zaa]
 simp only [Is,Zaa]
 unfold Asc R2
 cases hgo:W7 s.outs a with
 | none =>
  simp only
  rw [show decide ((-1:Int)≥0)=false from rfl]
  simp [IP,DD]
 | some k =>
  obtain⟨hk,_⟩:=Aie hgo
  simp only
  rw [show decide ((k:Int)≥0)=true by simp]
  simp only [IP,Zab,Za1]
  rw [B3 hk,Zaa,Zak hk]
  simp only [KO,Zaa]
  have hw:IntKind.i64.wrap ((k:Int)+1)=((k+1:Nat):Int):=wN k (by omega)
  have hdel:AnG n s.outs (k:Int) ((k+1:Nat):Int)=some (s.outs.eraseIdx k,()):=by
   show(bif Nat.blt k (k+1) && Nat.ble (k+1) (BL s.outs) then some (s.outs.take k++s.outs.drop (k+1),()) else none)=_
   rw [show Nat.blt k (k+1)=true from Za7 (by omega),AbC,show Nat.ble (k+1) s.outs.length=true from Za7 (by omega)]
   rw [List.eraseIdx_eq_take_drop_succ]; rfl
  have hcl:UB n s.outs=some (s.outs,()):=by unfold UB; rw [Lj (by omega)]; rfl
  cases hb1:Co b s.outs[k].fr 1000000 with
  | false=>simp [IP,DD]
  | true =>
   cases hb2:Co c 0 1000 with
   | false=>simp [IP,DD]
   | true =>
    simp only [Zab,Za1,Zbx,if_true]
    rw [hcl,Zaa,hw,hdel,Zaa,Aqt (by omega)]
    simp [DD]
def Nc (s:An) (r:Ag):An×Int:=if s.records.any (BA r) then(s,6) else if NZ [s.records,[r]]=0 then({ s with records:=s.records++[r] },0) else(s,NZ [s.records,[r]])
theorem Aq4 (hg:Eo s) {r:Ag} (hk:YH r) (hn:1200<n):B2 n (Aj.mk s) r=some (DD s (Nc s r)):=by
 have h60:=hg.recs
 unfold B2 Nc
 rw [Aox (by show s.records.length≤1000; omega) (by show s.records.length<n; omega),Zaa]
 simp only [Is,Zaa]
 cases hs:s.records.any (BA r) with
 | true=>simp [DD,IP]
 | false =>
  simp only [Za4,IP,Zab,Za1]
  obtain⟨x,hx⟩:=Au5 (n:=n) (lists:=[s.records,[r]]) (fun l hl=>by
   rcases Zal.1 hl with rfl | hl
   · exact hg.rk
   · rw [Zaw.1 hl]
     intro r' hr'
     rw [Zaw.1 hr']; exact hk) (by simp) (fun l hl=>by
   rcases Zal.1 hl with rfl | hl
   · omega
   · rw [Zaw.1 hl]; simp) (by simp; omega)
  rw [hx,Zaa]
  simp only [Ab7,Zaa]
  by_cases h0:NZ [s.records,[r]]=0
  · rw [h0]
    simp only [IP,decide_true,Zab,Za1]
    rw [AkA (by omega)]
    simp [DD]
  · rw [Zae h0]
    simp [IP,DD,h0]
theorem AwM (hg:Eo s) (hn:1200<n):EC n (Aj.mk s) [a,b,c,d,e]=some (DD s (Nc s (Ag.mk a b c (IK.mk 0) d e))):=Nb _ _ _ (Aq4 hg ⟨by simp,by simp⟩ hn)
theorem AwN (hg:Eo s) (hn:1200<n):ED n (Aj.mk s) [a,b,c,d,e]=some (DD s (Nc s (Ag.mk a b c (IK.mk 1) d 0))):=Nb _ _ _ (Aq4 hg ⟨by simp,by simp⟩ hn)
theorem AuD (hg:Eo s) (hn:1200<n):Eb n (Aj.mk s) [a,b,c,d,e]=some (DD s (Nc s (Ag.mk a b c (IK.mk 2) d e))):=Nb _ _ _ (Aq4 hg ⟨by simp,by simp⟩ hn)
def JH (w:Ar) (k off:Int):Ar:={ w with drivers:=w.drivers++[AJ.mk [k] [] [] off 0 0] }
def Lo (w:Ar) (d:AP):Ar:={ w with duties:=w.duties++[d] }
def Adv (s:An) (k off:Int):An×Int:=if Bc (JH s.week k off)=0 then({ s with week:=JH s.week k off },0) else(s,Bc (JH s.week k off))
def Adw (s:An) (d:AP):An×Int:=if Bc (Lo s.week d)=0 then({ s with week:=Lo s.week d,roster:=s.roster++[-1] },0) else(s,Bc (Lo s.week d))
theorem Aq5 (hg:Eo s) (hn:100<n):BW n (Aj.mk s) [a,b,c,d,e]=some (DD s (Adv s a b)):=by
 have h6:=hg.drivers
 have h12:=hg.duties
 unfold BW Adv
 simp only [AyW,AyX,AyZ,AyY,Aza,Zab,Zaa]
 rw [AkB (by omega),Zaa]
 have hw:wkOk (JH s.week a b):=⟨hg.days,hg.rest,hg.run,hg.hours,by show s.week.duties.length≤13; omega,by simp [JH]; omega,fun d hd=>by
  rcases Zam.1 hd with hd | hd
  · exact hg.drv d hd
  · rw [Zaw.1 hd]; exact⟨a,b,rfl⟩⟩
 have hc:=Um (n:=n) hw (by omega)
 unfold JH at hc
 simp only at hc ⊢
 rw [hc,Zaa]
 simp only [Ab7,Zaa]
 show _=some (DD s (if Bc (JH s.week a b)=0 then _ else _))
 change (Sum.elim _ _ (IP (decide (Bc (JH s.week a b)=0)) (Bc (JH s.week a b))))=_
 by_cases h0:Bc (JH s.week a b)=0
 · rw [h0]; simp [IP,DD,JH]
 · rw [Zae h0,if_neg h0]
   simp [IP,DD,h0]
theorem AuE (hg:Eo s) (hn:100<n):CC n (Aj.mk s) [a,b,c,d,e]=some (DD s (Adw s (AP.mk a b (Rg.mk c d) e))):=by
 have h6:=hg.drivers
 have h12:=hg.duties
 have hr:=hg.ros
 unfold CC Adw
 simp only [AyW,AyX,AyZ,AyY,Aza,Az9,AzA,AzE,AzG,AzF,AzH,Zab,Zaa]
 rw [Aot (by omega),Zaa]
 have hw:wkOk (Lo s.week (AP.mk a b (Rg.mk c d) e)):=⟨hg.days,hg.rest,hg.run,hg.hours,by simp [Lo]; omega,by show s.week.drivers.length≤7; omega,hg.drv⟩
 have hc:=Um (n:=n) hw (by omega)
 unfold Lo at hc
 simp only at hc ⊢
 rw [hc,Zaa]
 simp only [Ab7,Zaa]
 show _=some (DD s (if Bc (Lo s.week (AP.mk a b (Rg.mk c d) e))=0 then _ else _))
 change (Sum.elim _ _ (IP (decide (Bc (Lo s.week (AP.mk a b (Rg.mk c d) e))=0)) (Bc (Lo s.week (AP.mk a b (Rg.mk c d) e)))))=_
 by_cases h0:Bc (Lo s.week (AP.mk a b (Rg.mk c d) e))=0
 · rw [h0]
   simp only [IP,decide_true,Zab,Za1]
   rw [Aqu (by omega)]
   simp [DD,Lo]
 · rw [Zae h0,if_neg h0]
   simp [IP,DD,h0]
def Adx (s:An) (i k:Int):An×Int :=
 if Co i 0 ((s.roster.length:Int)-1) && Co k (-1) ((s.week.drivers.length:Int)-1) then
  if Ln s.week (s.roster.set i.toNat k) then({ s with roster:=s.roster.set i.toNat k },0) else(s,10)
 else(s,2)
theorem AuF (hg:Eo s) (hn:1200<n):CE n (Aj.mk s) [a,b,c,d,e]=some (DD s (Adx s a b)):=by
 have h6:=hg.drivers
 have h12:=hg.duties
 have hr:=hg.ros
 unfold CE Adx
 simp only [AyW,AyX,AyZ,AyY,Aza,Zab,Zaa]
 rw [F7 (x:=(s.roster.length:Int)-1) (by omega) (by omega),F7 (x:=(s.week.drivers.length:Int)-1) (by omega) (by omega)]
 simp only [KO,Zaa,Is]
 cases hb1:Co a 0 ((s.roster.length:Int)-1) with
 | false=>simp [IP,DD]
 | true =>
  cases hb2:Co b (-1) ((s.week.drivers.length:Int)-1) with
  | false=>simp [IP,DD]
  | true =>
   simp only [IP,Zab,Za1,Zbx,if_true]
   obtain⟨a1,a2⟩:=Cp.1 hb1
   obtain⟨i,rfl⟩:∃ i:Nat,a=i:=⟨a.toNat,by omega⟩
   have hi:i<s.roster.length:=by omega
   have hcl:Aa6 n s.roster=some (s.roster,()):=by unfold Aa6; rw [Lj (by omega)]; rfl
   rw [hcl]
   simp only [Zaa]
   rw [B3 hi,Zaa,show((i:Nat):Int).toNat=i from rfl,AmB hi,Zaa,AuB hg.wkOk (by rw [List.length_set]; omega) (by omega),Zaa]
   simp only
   cases Ln s.week (s.roster.set i b) with
   | true=>simp [DD]
   | false=>simp [DD]
end
theorem Aq6 {l:List UInt8} {v:Int} (h:Lib.atoiAll l=.ok v) : -9223372036854775808≤v∧v≤9223372036854775807:=by
 unfold Lib.atoiAll at h
 simp only at h
 split at h
 · cases h
 · split at h
   · cases h
   · cases h
   · rename_i u _
     split at h
     · cases h
     · split at h
       · cases h
       · rename_i h1 h2
         cases h
         split <;> rename_i hn <;> simp only [hn,true_and,not_true,false_and,not_false_iff] at h1 h2 <;> omega
def AkI (s:ByteArray):Option Int:=P4 s.data.toList
theorem Atg {n:Nat} {s:ByteArray} (hs:s.size≤1000000):LK n s=some (match AkI s with | some v=>.inl (v,()) | none=>.inr (AI.mk 4,())):=by
 unfold LK ZC
 rw [if_pos (by omega)]
 simp only [Zaa]
 cases hw:AkI s with
 | some v =>
  obtain⟨h1,h2,h3,h4⟩:=Al4 hw
  rw [h2]
  simp only [Za1]
  have hi:AfE n v=some (ZD v,()):=by
   unfold AfE
   rw [show(decide (-9223372036854775808≤v) && decide (v≤9223372036854775807))=true by simp; omega]; rfl
  rw [hi,Zaa]
  have hb:(ZD v).beq s=true:=by
   unfold ZD
   rw [h1,← WZ s]
   show((Uh s.data.toList).data == (Uh (Uh s.data.toList).data.toList).data)=true
   simp [Uh]
  simp only [hb,Zab]
  rw [KO,Zaa,show Co v (-999999999) 999999999=true from Cp.2 ⟨h3,h4⟩,Is]
  rfl
 | none =>
  rcases ha:Lib.atoiAll s.data.toList with v | _ | _
  · skip
    obtain⟨b1,b2⟩:=Aq6 ha
    have hi:AfE n v=some (ZD v,()):=by
     unfold AfE
     rw [show(decide (-9223372036854775808≤v) && decide (v≤9223372036854775807))=true by simp; omega]; rfl
    simp only [Za1]
    rw [hi,Zaa]
    simp only
    cases hb:(ZD v).beq s with
    | false=>simp [Is,IP]
    | true =>
     have he:AjZ v=s.data.toList:=by
      have:((Uh (AjZ v)).data == s.data)=true:=hb
      have:=eq_of_beq this
      have:=congrArg Array.toList this
      simpa [Uh] using this
     simp only [Zab,KO,Zaa,Is]
     by_cases hr : -999999999≤v∧v≤999999999
     · have:=Aor hr.1 hr.2
       rw [he] at this
       unfold AkI at hw
       rw [this] at hw; cases hw
     · rw [Yu.2 hr]; rfl
  · simp [Is,IP]
  · simp [Is,IP]
def Dk:List (ByteArray×F9):=[(B [102,111,117,110,100],F9.mk 4 (Fp.mk 189)),(B [104,101,108,100],F9.mk 4 (Fp.mk 190)),(B [115,105,103,110,101,100],F9.mk 4 (Fp.mk 191)),(B [99,104,101,99,107,101,100],F9.mk 3 (Fp.mk 192)),(B [111,117,116],F9.mk 2 (Fp.mk 193)),(B [105,110],F9.mk 3 (Fp.mk 194)),(B [115,97,108,101],F9.mk 5 (Fp.mk 195)),(B [115,121,110,99],F9.mk 4 (Fp.mk 196)),(B [99,108,111,115,101],F9.mk 5 (Fp.mk 197)),(B [100,114,105,118,101,114],F9.mk 2 (Fp.mk 198)),(B [100,117,116,121],F9.mk 5 (Fp.mk 199)),(B [103,105,118,101],F9.mk 2 (Fp.mk 200))]
theorem AuG (n:Nat):Aw3 n=some (Dk,()):=by kernel_rfl
theorem P7 {α β:Type} (q:α→α→Bool) (hq:∀ a b,q a b=true→a=b):∀ (l:List (α×β))(k:α)(v:β),El q l k=some v→(k,v)∈l
 | [],_,_,h=>by cases h
 | p::r,k,v,h=>by
  unfold El at h
  cases hp:q p.1 k with
  | true =>
   rw [hp,Zab] at h
   cases h
   have:=hq _ _ hp
   subst this
   simp
  | false =>
   rw [hp,Zad] at h
   exact ZaU _ (P7 q hq r k v h)
theorem Aai {w:ByteArray} {x:F9} (h:El Ep Dk w=some x):2≤x.many∧x.many≤5∧189≤x.do_.f∧x.do_.f≤200:=by
 have:=P7 Ep (fun a b h=>(SR a b).1 h) _ _ _ h
 simp only [Dk,Zal,Prod.mk.injEq,List.not_mem_nil,or_false] at this
 rcases this with⟨_,rfl⟩ | ⟨_,rfl⟩ | ⟨_,rfl⟩ | ⟨_,rfl⟩ | ⟨_,rfl⟩ | ⟨_,rfl⟩ | ⟨_,rfl⟩ | ⟨_,rfl⟩ | ⟨_,rfl⟩ | ⟨_,rfl⟩ | ⟨_,rfl⟩ | ⟨_,rfl⟩ <;> simp
def HJ:List ByteArray→Option (List Int)
 | []=>some []
 | s::r=>match AkI s with
  | none=>none
  | some v=>match HJ r with
   | none=>none
   | some vs=>some (v::vs)
theorem Pu:∀ {l:List ByteArray} {vs:List Int},HJ l=some vs→vs.length=l.length
 | [],vs,h=>by cases h; rfl
 | s::r,vs,h=>by
  unfold HJ at h
  split at h
  · cases h
  · split at h
    · cases h
    · rename_i vs' hv
      cases h
      simp [Pu hv]
def Aif (i:Nat) (z vs:List Int):List Int:=z.take i++vs++z.drop (i+vs.length)
theorem AuH {z:List Int} {i:Nat} (hi:i<z.length) (v:Int) (vs:List Int):Aif (i+1) (z.set i v) vs=Aif i z (v::vs):=by
 unfold Aif
 rw [List.take_set,List.drop_set,if_pos (by omega),ZaQ hi,List.set_append_right _ _ (by rw [ZaK]; omega),ZaK,Nat.min_eq_left (by omega),Nat.sub_self]
 simp only [List.set_cons_zero,Za6,ZaF,List.singleton_append,ZaP,Zau]
 rw [show i+1+vs.length=i+(vs.length+1) by omega]
theorem Al8 (g:Aj) (e:Int) (x:F9) (full:List ByteArray) (hs:∀ s∈full,s.size≤1000000) (hl:full.length≤5):∀ (n i:Nat)(z:List Int),full.length-i<n→i≤full.length→z.length=5→match HJ (full.drop i) with
  | some vs=>Qn n g e x z full (full.length:Int) (i:Int)=some (.inl (g,((e,()),(x,(Aif i z vs,((),((),((),((),()))))))) ))
  | none=>∃ z',Qn n g e x z full (full.length:Int) (i:Int)=some (.inr (g,((e,()),(x,(z',((),(AI.mk 4,())))))))
 | 0,_,_,h,_,_=>absurd h (Zan _)
 | n+1,i,z,h,hi,hz=>by
  rw [Qn]
  by_cases hx:i<full.length
  · have hd:full.drop i=full[i]::full.drop (i+1):=Zaj hx
    have ih:=fun z=>Al8 g e x full hs hl n (i+1) z (by omega) (by omega)
    rw [show decide ((i:Int)<(full.length:Int))=true by simp; omega,Zab,B3 hx,Zaa,Atg (hs _ (Zax hx)),Zaa,hd,wN i (by omega)]
    unfold HJ
    cases hv:AkI full[i] with
    | none=>exact⟨z,rfl⟩
    | some v =>
     simp only [Za1]
     have h5:z.length.beq 5=true:=by rw [hz]; rfl
     rw [h5,Zab,B3 (by omega),Zaa,show((i:Nat):Int).toNat=i from rfl,AmB (by omega),Zaa]
     have:=ih (z.set i v) (by simp [hz])
     cases hr:HJ (full.drop (i+1)) with
     | none =>
      rw [hr] at this
      exact this
     | some vs =>
      rw [hr] at this
      simp only
      simp only at this
      rw [this,AuH (by omega)]
  · have hd:full.drop i=[]:=by simp; omega
    rw [show decide ((i:Int)<(full.length:Int))=false by simp; omega,hd]
    simp [HJ,Aif]
def BQ (text:ByteArray):Option (Int×List Int) :=
 match Cs text with
 | []=>none
 | p::r=>match El Ep Dk p with
  | none=>none
  | some x=>if ((r.length+1:Nat):Int)=x.many+1 then match HJ r with
    | none=>none
    | some vs=>some (x.do_.f,vs++List.replicate (5-vs.length) 0)
   else none
def Br (s:An) (f:Int):List Int→An×Int
 | [a,b,c,d,e] =>
  if f=189 then FX s (A0.mk a b c (IK.mk 0) d 0) else
  if f=190 then FX s (A0.mk a b c (IK.mk 1) d 0) else
  if f=191 then FX s (A0.mk a b c (IK.mk 2) 0 d) else
  if f=192 then FX s (A0.mk a b c (IK.mk 3) 0 0) else
  if f=193 then Aah s a b else
  if f=194 then Asc s a b c else
  if f=195 then Nc s (Ag.mk a b c (IK.mk 0) d e) else
  if f=196 then Nc s (Ag.mk a b c (IK.mk 1) d 0) else
  if f=197 then Nc s (Ag.mk a b c (IK.mk 2) d e) else
  if f=198 then Adv s a b else
  if f=199 then Adw s (AP.mk a b (Rg.mk c d) e) else
  Adx s a b
 | _=>(s,4)
def Cf (s:An) (text:ByteArray):An×Int:=match BQ text with
 | none=>(s,4)
 | some (f,l)=>if (Br s f l).2=0 then Br s f l else(s,(Br s f l).2)
theorem Lp (c:UInt8):∀ (l:List UInt8),∀ p∈Fh c l,p.length≤l.length
 | [],p,h=>by simp [Fh] at h; subst h; simp
 | b::l,p,h=>by
  unfold Fh at h
  cases hb:b == c with
  | true =>
   rw [hb,Zab] at h
   rcases Zal.1 h with rfl | h
   · simp
   · have:=Lp c l p h; simp; omega
  | false =>
   rw [hb,Zad] at h
   split at h
   · rename_i hn; exact absurd hn (No c l)
   · rename_i q r hq
     have h1:=Lp c l q (by rw [hq]; simp)
     rcases Zal.1 h with rfl | h
     · simp; omega
     · have:=Lp c l p (by rw [hq]; simp [h]); simp; omega
theorem Afd {s p:ByteArray} (h:p∈Cs s):p.size≤s.size:=by
 unfold Cs at h
 obtain⟨l,hl,rfl⟩:=ZaZ.1 h
 rw [Li,Wz]
 exact Lp _ _ _ hl
theorem Aig {α:Type} {l:List α} {a b:Nat} (h:a≤b) (h2:b≤l.length):K0 l (a:Int) (b:Int)=some ((l.drop a).take (b-a)):=by
 unfold K0
 rw [if_pos ⟨by omega,by omega,by omega⟩]
 simp
def Ath (y:(Aj×(Int×Unit)×Unit×Unit) ⊕ (Aj×(Int×Unit)×Unit×AI×Unit)):Option (Aj×Int×Unit):=match y with
 | .inl a=>some (a.1,a.2.1.1,())
 | .inr a=>some (a.1,a.2.2.2.1.errno,())
theorem Aym {x:Option ((Aj×Unit) ⊕ (Aj×AI×Unit))} {s:An} {y:An×Int} (e0:Int) (h:x=some (DD s y)):((x.bind fun v8=>Sum.elim (fun v9=>some (.inl (v9.fst,((0,()),((),()))))) (fun v9=>some (.inr (v9.fst,((e0,()),((),(v9.snd.fst,())))))) v8).bind Ath)=some (Aj.mk (if y.2=0 then y else(s,y.2)).1,(if y.2=0 then y else(s,y.2)).2,()):=by
 rw [h]
 unfold DD
 by_cases h0:y.2=0
 · rw [if_pos h0,if_pos h0,h0]; rfl
 · rw [if_neg h0,if_neg h0]; rfl
theorem JV {x:Option ((Aj×Unit) ⊕ (Aj×AI×Unit))} {s:An} {y z:An×Int} (e0:Int) (h:x=some (DD s y)) (hz:z=y):((x.bind fun v8=>Sum.elim (fun v9=>some (.inl (v9.fst,((0,()),((),()))))) (fun v9=>some (.inr (v9.fst,((e0,()),((),(v9.snd.fst,())))))) v8).bind Ath)=some (Aj.mk (if z.2=0 then z else(s,z.2)).1,(if z.2=0 then z else(s,z.2)).2,()):=by
 subst hz; exact Aym e0 h
theorem Asd:Aws (B [32])=true:=by decide
theorem Iu {text p:ByteArray} {r:List ByteArray} (hp:Cs text=p::r):BQ text=match El Ep Dk p with
  | none=>none
  | some x=>if ((r.length+1:Nat):Int)=x.many+1 then match HJ r with
    | none=>none
    | some vs=>some (x.do_.f,vs++List.replicate (5-vs.length) 0)
   else none:=by
 unfold BQ
 rw [hp]
theorem AuI {n:Nat} {s:An} {text:ByteArray} (hg:Eo s) (hn:1300<n) (ht:text.size≤1000000):Aw6 n (Aj.mk s) text=some (Aj.mk (Cf s text).1,(Cf s text).2,()):=by
 show(Aqj n (Aj.mk s) text 0).bind Ath=_
 unfold Aqj Cf Aec
 rw [Asd,show Nat.blt text.size 4294967281=true from Za7 (by omega),Zbx,Zab,Zaa,AuG,Zaa]
 simp only
 have hsz:∀ q∈Cs text,q.size≤1000000:=fun q hq=>ZaI (Afd hq) ht
 cases hp:Cs text with
 | nil =>
  unfold Cs at hp
  exact absurd (Zb0.1 hp) (No 32 _)
 | cons p r =>
  rw [hp] at hsz
  rw [show A6 (p::r) 0=some p from rfl,Zaa]
  unfold Dm AY
  cases hw:El Ep Dk p with
  | none =>
   have hpt:=Iu hp
   rw [hw] at hpt
   rw [hpt]
   simp only [Option.isSome_none,Zad,Is]
   simp [IP,Ath]
  | some x =>
   obtain⟨m1,m2,f1,f2⟩:=Aai hw
   simp only [Option.isSome_some,Zab,Option.getD_some]
   have hwr:IntKind.i64.wrap (x.many+1)=x.many+1:=F7 (by omega) (by omega)
   simp only [Is,Zaa,hwr,Za6]
   by_cases hl:((r.length+1:Nat):Int)=x.many+1
   · have hpt:=Iu hp
     rw [hw] at hpt
     simp only [if_pos hl] at hpt
     rw [Zaf hl]
     simp only [IP,Zab,Za1]
     have hsub:K0 (p::r) 1 ((r.length+1:Nat):Int)=some r:=by
      have:=Aig (l:=p::r) (a:=1) (b:=r.length+1) (by omega) (by simp)
      rw [show((1:Nat):Int)=1 from rfl] at this
      rw [this]
      simp
     rw [hsub,Zaa]
     have hloop:=Al8 (Aj.mk s) 0 x r (fun q hq=>hsz q (by simp [hq])) (by omega) n 0 [0,0,0,0,0] (by omega) (by omega) rfl
     rw [show((0:Nat):Int)=0 from rfl,Zar] at hloop
     cases hv:HJ r with
     | none =>
      rw [hv] at hloop
      obtain⟨z',hz⟩:=hloop
      rw [hv] at hpt
      rw [hz,hpt]; simp [Ath]
     | some vs =>
      rw [hv] at hloop hpt
      simp only at hpt
      have hvl:=Pu hv
      rw [hpt]
      simp only
      rw [hloop,Zaa]
      simp only [Za1]
      have hlaid:Aif 0 [0,0,0,0,0] vs=vs++List.replicate (5-vs.length) 0:=by
       unfold Aif
       rw [List.take_zero,Zau,Zas,show([0,0,0,0,0]:List Int)=List.replicate 5 0 from rfl,List.drop_replicate]
      have h5:(vs++List.replicate (5-vs.length) (0:Int)).length=5:=by rw [Zaz,List.length_replicate]; omega
      rw [hlaid]
      generalize vs++List.replicate (5-vs.length) (0:Int)=l at *
      match l,h5 with
      | [a,b,c,d,e],_ =>
       generalize x.do_.f=f at *
       rw [show([a,b,c,d,e]:List Int).length.beq 5=true from rfl,Zab]
       by_cases q0:f=189
       · subst q0; exact JV _ (AuC hg (by omega)) (by simp [Br])
       rw [Zae q0,Zad]
       by_cases q1:f=190
       · subst q1; exact JV _ (AwK hg (by omega)) (by simp [Br])
       rw [Zae q1,Zad]
       by_cases q2:f=191
       · subst q2; exact JV _ (Ate hg (by omega)) (by simp [Br])
       rw [Zae q2,Zad]
       by_cases q3:f=192
       · subst q3; exact JV _ (Ao3 hg (by omega)) (by simp [Br])
       rw [Zae q3,Zad]
       by_cases q4:f=193
       · subst q4; exact JV _ (AwL hg (by omega)) (by simp [Br])
       rw [Zae q4,Zad]
       by_cases q5:f=194
       · subst q5; exact JV _ (Ayl hg (by omega)) (by simp [Br])
       rw [Zae q5,Zad]
       by_cases q6:f=195
       · subst q6; exact JV _ (AwM hg (by omega)) (by simp [Br])
       rw [Zae q6,Zad]
       by_cases q7:f=196
       · subst q7; exact JV _ (AwN hg (by omega)) (by simp [Br])
       rw [Zae q7,Zad]
       by_cases q8:f=197
       · subst q8; exact JV _ (AuD hg (by omega)) (by simp [Br])
       rw [Zae q8,Zad]
       by_cases q9:f=198
       · subst q9; exact JV _ (Aq5 hg (by omega)) (by simp [Br])
       rw [Zae q9,Zad]
       by_cases q10:f=199
       · subst q10; exact JV _ (AuE hg (by omega)) (by simp [Br])
       rw [Zae q10,Zad]
       have q11:f=200:=by omega
       subst q11
       exact JV _ (AuF hg (by omega)) (by simp [Br])
   · have hpt:=Iu hp
     rw [hw] at hpt
     simp only [if_neg hl] at hpt
     rw [Zae hl,hpt]; simp [IP,Ath]
def Ady (s s':An):Prop:=Eo s'∧s'.outs.length≤s.outs.length+1∧s'.runs.length≤s.runs.length+1∧s'.records.length≤s.records.length+1
def AuJ (s:An):Prop:=s.outs.length<200∧s.runs.length<200∧s.records.length<200
theorem Ady.refl {s:An} (h:Eo s):Ady s s:=⟨h,by omega,by omega,by omega⟩
theorem AuK {l:List A0} (h:Aoa l=0):l.length≤40:=by
 unfold Aoa at h
 cases hr:MK l with
 | inl e=>rw [hr] at h; have:=SP hr; simp only at h; omega
 | inr y=>exact(Yv hr).1
theorem Yx {s:An} (hg:Eo s) {c:A0} (hk:Lk c) (h0:(FX s c).2=0):Ady s (FX s c).1:=by
 unfold FX at h0 ⊢
 split at h0
 · cases h0
 · rename_i h1
   rw [if_neg h1]
   split at h0
   · rename_i h2
     rw [if_pos h2]
     refine⟨{ hg with kind:=fun a ha=>?_,cards:=AuK h2,chk:=h2 },by simp,by simp,by simp⟩
     rcases Zam.1 ha with ha | ha
     · exact hg.kind a ha
     · rw [Zaw.1 ha]; exact hk
   · rename_i h2; exact absurd h0 h2
theorem Aih {s:An} {a b:Int} (h0:(Aah s a b).2=0):(Co a 0 99 && Co b 0 1000000)=true∧R2 s.outs a<0∧Afc s.runs a b=true∧Gu s.cards a b=([],0)∧(Aah s a b).1={ s with outs:=s.outs++[Sm.mk a b] }:=by
 unfold Aah at h0 ⊢
 by_cases c1:(Co a 0 99 && Co b 0 1000000)=true
 · rw [if_pos c1] at h0 ⊢
   by_cases c2:R2 s.outs a<0
   · rw [if_pos c2] at h0 ⊢
     by_cases c3:Afc s.runs a b=true
     · rw [if_pos c3] at h0 ⊢
       by_cases c4:(Gu s.cards a b).2=0
       · rw [if_pos c4] at h0 ⊢
         by_cases c5:(Gu s.cards a b).1=[]
         · rw [if_pos c5]
           exact⟨c1,c2,c3,Prod.ext c5 c4,rfl⟩
         · rw [if_neg c5] at h0; cases h0
       · rw [if_neg c4] at h0; exact absurd h0 c4
     · rw [if_neg c3] at h0; cases h0
   · rw [if_neg c2] at h0; cases h0
 · rw [if_neg c1] at h0; cases h0
theorem AuL {s:An} (hg:Eo s) (hr:AuJ s) {a b:Int} (h0:(Aah s a b).2=0):Ady s (Aah s a b).1:=by
 obtain⟨r1,r2,r3⟩:=hr
 rw [(Aih h0).2.2.2.2]
 exact⟨{ hg with outs:=by simp; omega },by simp,by simp,by simp⟩
theorem Ase {s:An} {a b c:Int} (h0:(Asc s a b c).2=0):∃ (k:Nat)(hk:k<s.outs.length),W7 s.outs a=some k∧(Asc s a b c).1={ s with outs:=s.outs.eraseIdx k,runs:=s.runs++[SM.mk s.outs[k].bus s.outs[k].fr b c] }∧Co b s.outs[k].fr 1000000=true∧Co c 0 1000=true:=by
 unfold Asc at h0 ⊢
 cases hgo:W7 s.outs a with
 | none=>rw [hgo] at h0; cases h0
 | some k =>
  obtain⟨hk,_⟩:=Aie hgo
  rw [hgo] at h0
  simp only [Zak hk] at h0 ⊢
  by_cases c1:(Co b s.outs[k].fr 1000000 && Co c 0 1000)=true
  · rw [if_pos c1]
    rw [Zap] at c1
    exact⟨k,hk,rfl,rfl,c1.1,c1.2⟩
  · rw [if_neg c1] at h0; cases h0
theorem AwO {s:An} (hg:Eo s) (hr:AuJ s) {a b c:Int} (h0:(Asc s a b c).2=0):Ady s (Asc s a b c).1:=by
 obtain⟨r1,r2,r3⟩:=hr
 obtain⟨k,hk,_,e,_⟩:=Ase h0
 rw [e]
 have:=List.length_eraseIdx_le s.outs k
 exact⟨{ hg with outs:=by show(s.outs.eraseIdx k).length≤200; omega,runs:=by simp; omega },by show(s.outs.eraseIdx k).length≤_; omega,by simp,by simp⟩
theorem W8 {s:An} {r:Ag} (h0:(Nc s r).2=0):(Nc s r).1={ s with records:=s.records++[r] }∧s.records.any (BA r)=false∧NZ [s.records,[r]]=0:=by
 unfold Nc at h0 ⊢
 by_cases c1:s.records.any (BA r)=true
 · rw [if_pos c1] at h0; cases h0
 · rw [if_neg c1] at h0 ⊢
   by_cases c2:NZ [s.records,[r]]=0
   · rw [if_pos c2]; exact⟨rfl,by simpa using c1,c2⟩
   · rw [if_neg c2] at h0; exact absurd h0 c2
theorem Aii {s:An} (hg:Eo s) (hr:AuJ s) {r:Ag} (hk:YH r) (h0:(Nc s r).2=0):Ady s (Nc s r).1:=by
 obtain⟨r1,r2,r3⟩:=hr
 rw [(W8 h0).1]
 exact⟨{ hg with recs:=by simp; omega,rk:=fun a ha=>(Zam.1 ha).elim (hg.rk a) (fun ha=>by rw [Zaw.1 ha]; exact hk) },by simp,by simp,by simp⟩
theorem B9 {w:Ar} (h:Bc w=0):w.duties.length≤12∧w.drivers.length≤6:=by
 unfold Bc at h
 by_cases c1:12<w.duties.length
 · rw [if_pos c1] at h; cases h
 · rw [if_neg c1] at h
   by_cases c2:6<w.drivers.length
   · rw [if_pos c2] at h; cases h
   · exact⟨by omega,by omega⟩
theorem AuM {s:An} (hg:Eo s) {k off:Int} (h0:(Adv s k off).2=0):Ady s (Adv s k off).1:=by
 unfold Adv at h0 ⊢
 by_cases c:Bc (JH s.week k off)=0
 · rw [if_pos c]
   obtain⟨w1,w2⟩:=B9 c
   exact⟨{ hg with days:=hg.days,rest:=hg.rest,run:=hg.run,hours:=hg.hours,duties:=w1,drivers:=w2,ros:=hg.ros,wk:=c,drv:=fun d hd=>(Zam.1 hd).elim (hg.drv d) (fun hd=>⟨k,off,Zaw.1 hd⟩) },by simp,by simp,by simp⟩
 · rw [if_neg c] at h0; exact absurd h0 c
theorem AuN {s:An} (hg:Eo s) {d:AP} (h0:(Adw s d).2=0):Ady s (Adw s d).1:=by
 unfold Adw at h0 ⊢
 by_cases c:Bc (Lo s.week d)=0
 · rw [if_pos c]
   obtain⟨w1,w2⟩:=B9 c
   exact⟨{ hg with days:=hg.days,rest:=hg.rest,run:=hg.run,hours:=hg.hours,duties:=w1,drivers:=w2,drv:=hg.drv,ros:=by simp [Lo,hg.ros],wk:=c },by simp,by simp,by simp⟩
 · rw [if_neg c] at h0; exact absurd h0 c
theorem AuO {s:An} (hg:Eo s) {i k:Int} (h0:(Adx s i k).2=0):Ady s (Adx s i k).1:=by
 unfold Adx at h0 ⊢
 by_cases c1:(Co i 0 ((s.roster.length:Int)-1) && Co k (-1) ((s.week.drivers.length:Int)-1))=true
 · rw [if_pos c1] at h0 ⊢
   by_cases c2:Ln s.week (s.roster.set i.toNat k)=true
   · rw [if_pos c2]
     exact⟨{ hg with ros:=by simp [hg.ros] },by simp,by simp,by simp⟩
   · rw [if_neg c2] at h0; cases h0
 · rw [if_neg c1] at h0; cases h0
theorem Ati {s:An} (hg:Eo s) (hr:AuJ s) {f:Int} {l:List Int} (h0:(Br s f l).2=0):Ady s (Br s f l).1:=by
 unfold Br at h0 ⊢
 split at h0
 · by_cases q0:f=189
   · rw [if_pos q0] at h0 ⊢; exact Yx hg ⟨by simp,by simp⟩ h0
   rw [if_neg q0] at h0 ⊢
   by_cases q0:f=190
   · rw [if_pos q0] at h0 ⊢; exact Yx hg ⟨by simp,by simp⟩ h0
   rw [if_neg q0] at h0 ⊢
   by_cases q0:f=191
   · rw [if_pos q0] at h0 ⊢; exact Yx hg ⟨by simp,by simp⟩ h0
   rw [if_neg q0] at h0 ⊢
   by_cases q0:f=192
   · rw [if_pos q0] at h0 ⊢; exact Yx hg ⟨by simp,by simp⟩ h0
   rw [if_neg q0] at h0 ⊢
   by_cases q0:f=193
   · rw [if_pos q0] at h0 ⊢; exact AuL hg hr h0
   rw [if_neg q0] at h0 ⊢
   by_cases q0:f=194
   · rw [if_pos q0] at h0 ⊢; exact AwO hg hr h0
   rw [if_neg q0] at h0 ⊢
   by_cases q0:f=195
   · rw [if_pos q0] at h0 ⊢; exact Aii hg hr ⟨by simp,by simp⟩ h0
   rw [if_neg q0] at h0 ⊢
   by_cases q0:f=196
   · rw [if_pos q0] at h0 ⊢; exact Aii hg hr ⟨by simp,by simp⟩ h0
   rw [if_neg q0] at h0 ⊢
   by_cases q0:f=197
   · rw [if_pos q0] at h0 ⊢; exact Aii hg hr ⟨by simp,by simp⟩ h0
   rw [if_neg q0] at h0 ⊢
   by_cases q0:f=198
   · rw [if_pos q0] at h0 ⊢; exact AuM hg h0
   rw [if_neg q0] at h0 ⊢
   by_cases q0:f=199
   · rw [if_pos q0] at h0 ⊢; exact AuN hg h0
   rw [if_neg q0] at h0 ⊢
   exact AuO hg h0
 · cases h0
theorem Atj {s:An} (hg:Eo s) (hr:AuJ s) (t:ByteArray):Ady s (Cf s t).1:=by
 unfold Cf
 cases BQ t with
 | none=>exact Ady.refl hg
 | some y =>
  obtain⟨f,l⟩:=y
  simp only
  by_cases h0:(Br s f l).2=0
  · rw [if_pos h0]; exact Ati hg hr h0
  · rw [if_neg h0]; exact Ady.refl hg
theorem AbD {s:An} {t:ByteArray} (h:(Cf s t).2≠0):(Cf s t).1=s:=by
 unfold Cf at h ⊢
 cases hp:BQ t with
 | none=>rfl
 | some y =>
  obtain⟨f,l⟩:=y
  rw [hp] at h
  simp only at h ⊢
  by_cases h0:(Br s f l).2=0
  · rw [if_pos h0] at h; exact absurd h0 h
  · rw [if_neg h0]
def AC:An:=An.mk [] [] [] [] (Ar.mk 7 [] [] 600 5 3000) []
theorem Aq7:Eo AC where
 kind:=by simp [AC]
 cards:=by simp [AC]
 outs:=by simp [AC]
 runs:=by simp [AC]
 rk:=by simp [AC]
 recs:=by simp [AC]
 days:=rfl
 rest:=rfl
 run:=rfl
 hours:=rfl
 duties:=by simp [AC]
 drivers:=by simp [AC]
 drv:=by simp [AC]
 ros:=rfl
 wk:=rfl
 chk:=rfl
def Bf (s:An):List ByteArray→An×List Int
 | []=>(s,[])
 | t::r=>((Bf (Cf s t).1 r).1,(Cf s t).2::(Bf (Cf s t).1 r).2)
def AbE (m:Nat) (s:An):Prop:=Eo s∧s.outs.length+m≤200∧s.runs.length+m≤200∧s.records.length+m≤200
theorem AbE.step {m:Nat} {s:An} (h:AbE (m+1) s) (t:ByteArray):AbE m (Cf s t).1:=by
 obtain⟨h1,h2,h3,h4⟩:=h
 obtain⟨a,b,c,d⟩:=Atj h1 ⟨by omega,by omega,by omega⟩ t
 exact⟨a,by omega,by omega,by omega⟩
theorem AbE.less {m k:Nat} {s:An} (h:AbE m s) (hk:k≤m):AbE k s:=⟨h.1,by have:=h.2.1; omega,by have:=h.2.2.1; omega,by have:=h.2.2.2; omega⟩
theorem Kz:AbE 150 AC:=⟨Aq7,by simp [AC],by simp [AC],by simp [AC]⟩
theorem Nd:∀ (l:List ByteArray)(m:Nat)(s:An),AbE (m+l.length) s→AbE m (Bf s l).1
 | [],m,s,h=>h
 | t::l,m,s,h=>by
  simp only [Bf]
  exact Nd l m _ (AbE.step (by rw [show m+(t::l).length=m+l.length+1 by simp; omega] at h; exact h) t)
theorem SS:∀ (l:List ByteArray)(s:An),(Bf s l).2.length=l.length
 | [],_=>rfl
 | t::l,s=>by simp [Bf,SS l]
theorem Aij (full:List ByteArray) (hs:∀ t∈full,t.size≤1000000) (hl:full.length≤150):∀ (n i:Nat)(s:An)(es:List Int),1400+(full.length-i)<n→i≤full.length→AbE (full.length-i) s→es.length=i→E4 n (Aj.mk s) es full (full.length:Int) (i:Int)=some (Aj.mk (Bf s (full.drop i)).1,((),(es++(Bf s (full.drop i)).2,())))
 | 0,_,_,_,h,_,_,_=>absurd h (Zan _)
 | n+1,i,s,es,h,hi,hL,he=>by
  rw [E4]
  by_cases hx:i<full.length
  · have hd:full.drop i=full[i]::full.drop (i+1):=Zaj hx
    rw [show decide ((i:Int)<(full.length:Int))=true by simp; omega,Zab,B3 hx,Zaa,AuI hL.1 (by omega) (hs _ (Zax hx)),Zaa]
    simp only
    rw [AK (by simp; omega),Zaa,wN i (by omega)]
    have hL':AbE (full.length-(i+1)) (Cf s full[i]).1:=AbE.step (by rw [show full.length-(i+1)+1=full.length-i by omega]; exact hL) _
    rw [Aij full hs hl n (i+1) _ _ (by omega) (by omega) hL' (by simp [he]),hd]
    simp [Bf]
  · have hd:full.drop i=[]:=by simp; omega
    rw [show decide ((i:Int)<(full.length:Int))=false by simp; omega,hd]
    simp [Bf]
theorem AmJ {n:Nat} {lines:List ByteArray} (hs:∀ t∈lines,t.size≤1000000) (hl:lines.length≤150) (hn:1600≤n):Jq n lines=some (Aj.mk (Bf AC lines).1,((Bf AC lines).2,())):=by
 unfold Jq
 have h:=Aij lines hs hl n 0 AC [] (by omega) (by omega) (Kz.less (by omega)) rfl
 rw [show((0:Nat):Int)=0 from rfl,Zar,Zau] at h
 show(E4 n (Aj.mk AC) [] lines (lines.length:Int) 0).bind _=_
 rw [h]; rfl
theorem AwP {n:Nat} {lines:List ByteArray} (hr:NX lines=true) (hn:1600≤n):GW n lines=some ((Bf AC lines).1,((Bf AC lines).2,(0,()))):=by
 obtain⟨h1,h2⟩:=P2.1 hr
 unfold GW
 rw [P3 (by omega) (by omega),hr,Zaa]
 simp only [Zab]
 rw [show((0:Int) != 0)=false from rfl,Zad,AmJ (fun t ht=>ZaI (h2 t ht) (by decide)) (by omega) hn]
 rfl
theorem AuP {n:Nat} {lines:List ByteArray} (hbig:lines.length≤4000000000000000000) (hn:lines.length<n):∃ b,Qt n lines=some (b,()):=by
 have H:∀ (n i:Nat)(z:Int),lines.length-i<n→i≤lines.length→∃ z',IF n lines z (i:Int)=some (lines,(z',())):=by
  intro n
  induction n with
  | zero=>intro i z h; exact absurd h (Zan _)
  | succ n ih =>
   intro i z h hi
   rw [IF]
   by_cases hx:i<lines.length
   · rw [show decide ((i:Int)<(lines.length:Int))=true by simp; omega,Zab,B3 hx,Zaa,wN i (by omega)]
     exact ih (i+1) _ (by omega) (by omega)
   · rw [show decide ((i:Int)<(lines.length:Int))=false by simp; omega,Zad]
     exact⟨z,rfl⟩
 obtain⟨z,hz⟩:=H n 0 0 (by omega) (by omega)
 rw [show((0:Nat):Int)=0 from rfl] at hz
 unfold Qt
 rw [hz]
 simp only [Zaa]
 generalize decide ((lines.length:Int)≤30)=b1
 generalize decide ((lines.length:Int)≤52)=b2
 generalize decide ((lines.length:Int)=1)=b3
 generalize decide (z≤1200)=b4
 generalize decide (z≤400)=b5
 cases b1 <;> cases b2 <;> cases b3 <;> cases b4 <;> cases b5 <;> exact⟨_,rfl⟩
theorem Aik (c:UInt8):∀ (p:List UInt8),(∀ b∈p,b≠c)→Fh c p=[p]
 | [],_=>rfl
 | b::p,h=>by
  conv=>lhs; unfold Fh
  have hb:(b == c)=false:=by simpa using h b (by simp)
  rw [hb,Zad,Aik c p fun x hx=>h x (by simp [hx])]
theorem Ail (c:UInt8) (q:List UInt8):∀ (p:List UInt8),(∀ b∈p,b≠c)→Fh c (p++c::q)=p::Fh c q
 | [],_=>by simp [Fh]
 | b::p,h=>by
  rw [ZaP]
  conv=>lhs; unfold Fh
  have hb:(b == c)=false:=by simpa using h b (by simp)
  rw [hb,Zad,Ail c q p fun x hx=>h x (by simp [hx])]
theorem W9 (l:List UInt8) (hl:l.length≤1000000):∀ (n i fr:Nat)(out:List ByteArray),l.length+1-i<n→i≤l.length→fr≤i→out.length≤i→(∀ b∈(l.drop fr).take (i-fr),b≠32)→D5 n (Uh l) out (fr:Int) (i:Int)=some (out++(Fh 32 (l.drop fr)).map Uh,())
 | 0,_,_,_,h,_,_,_,_=>absurd h (Zan _)
 | n+1,i,fr,out,h,hi,hf,ho,hb=>by
  rw [D5,Li,show decide ((i:Int)≤(l.length:Int))=true from Zaf (by omega),Zab]
  have hsub:Ob (Uh l) (fr:Int) (i:Int)=some (Uh ((l.drop fr).take (i-fr))):=Al2 hf hi
  by_cases hx:i=l.length
  · rw [show decide ((i:Int)=(l.length:Int))=true from Zaf (by omega),ZaC,Zad,hsub,Zaa,AK (by simp; omega),Zaa,wN i (by omega)]
    have ht:(l.drop fr).take (i-fr)=l.drop fr:=ZaV (by rw [ZaY]; omega)
    rw [ht] at hb ⊢
    rw [Aik 32 _ hb]
    obtain⟨m,rfl⟩:∃ m,n=m+1:=⟨n-1,by omega⟩
    rw [D5,Li,show decide (((i+1:Nat):Int)≤(l.length:Int))=false from Zae (by omega)]
    rfl
  · have hlt:i<l.length:=by omega
    rw [show decide ((i:Int)=(l.length:Int))=false from Zae (by omega),Za4,Zab,Ab6 hlt,Zaa,wN i (by omega)]
    have hd:l.drop fr=(l.drop fr).take (i-fr)++l[i]::l.drop (i+1):=by
     conv=>lhs; rw [← Zba (i-fr) (l.drop fr)]
     rw [List.drop_drop,show fr+(i-fr)=i by omega,Zaj hlt]
    by_cases h32:l[i]=32
    · rw [show decide (((l[i].toNat:Nat):Int)=32)=true by rw [h32]; rfl,Zab,hsub,Zaa,AK (by simp; omega),Zaa]
      rw [W9 l hl n (i+1) (i+1) _ (by omega) (by omega) (by omega) (by simp; omega) (by simp)]
      conv=>rhs; rw [hd,h32,Ail 32 _ _ hb]
      simp
    · have hne : ¬ (((l[i].toNat:Nat):Int)=32):=fun h=>h32 (UInt8.toNat_inj.1 (by show l[i].toNat=32; omega))
      rw [Zae hne,Zad]
      refine W9 l hl n (i+1) fr out (by omega) (by omega) (by omega) (by omega) ?_
      intro b hb'
      have:(l.drop fr).take (i+1-fr)=(l.drop fr).take (i-fr)++[l[i]]:=by
       rw [show i+1-fr=(i-fr)+1 by omega,ZaQ (by rw [ZaY]; omega)]
       simp [show fr+(i-fr)=i by omega]
      rw [this] at hb'
      rcases Zam.1 hb' with hb' | hb'
      · exact hb b hb'
      · rw [Zaw.1 hb']; exact h32
theorem AuQ {n:Nat} {s:ByteArray} (hs:s.size≤1000000) (hn:s.size+2≤n):Vm n s=some (Cs s,()):=by
 have hl:s.data.toList.length≤1000000:=by rw [← Wz]; exact hs
 have h:=W9 s.data.toList hl n 0 0 [] (by rw [← Wz]; omega) (by omega) (by omega) (by simp) (by simp)
 rw [WZ,show((0:Nat):Int)=0 from rfl,Zar,Zau] at h
 unfold Vm
 rw [h]; rfl
theorem Afe (l:List UInt8) (hl:l.length≤9) (minus:Bool):∀ (n i a:Nat),l.length-i<n→i≤l.length→a<10 ^ i→Bo n minus (Uh l) (a:Int) (i:Int)=some (match Adu (a:Int) (l.drop i) with | some v=>.inl (minus,(v,())) | none=>.inr (0,(false,())))
 | 0,_,_,h,_,_=>absurd h (Zan _)
 | n+1,i,a,h,hi,ha=>by
  rw [Bo,Li]
  by_cases hx:i<l.length
  · have hd:l.drop i=l[i]::l.drop (i+1):=Zaj hx
    have h9:10 ^ i≤10 ^ 9:=Zbu (by decide) (by omega)
    have h8:=l[i].toNat_lt
    rw [show decide ((i:Int)<(l.length:Int))=true from Zaf (by omega),Zab,Ab6 hx,Zaa,hd]
    unfold Adu
    simp only [Zaa]
    by_cases h48:l[i].toNat<48
    · rw [show decide (((l[i].toNat:Nat):Int)<48)=true from Zaf (by omega),Uk.2 h48]; rfl
    · rw [show decide (((l[i].toNat:Nat):Int)<48)=false from Zae (by omega),NY.2 (by omega)]
      by_cases h57:57<l[i].toNat
      · rw [show decide (((l[i].toNat:Nat):Int)>57)=true from Zaf (by omega),Uk.2 h57]; rfl
      · rw [show decide (((l[i].toNat:Nat):Int)>57)=false from Zae (by omega),NY.2 (by omega)]
        simp only [Za4,Zab,Zad,Bool.or_self]
        have e1:IntKind.i64.wrap (IntKind.i64.wrap (10*(a:Int))+IntKind.i64.wrap (IntKind.u8.wrap (((l[i].toNat:Nat):Int)-48)))=((10*a+(l[i].toNat-48):Nat):Int):=by
         rw [AxQ (by omega) (by omega),F7 (x:=10*(a:Int)) (by omega) (by omega),F7 (x:=((l[i].toNat:Nat):Int)-48) (by omega) (by omega),F7 (by omega) (by omega)]
         omega
        rw [e1,wN i (by omega),Afe l hl minus n (i+1) _ (by omega) (by omega) (by rw [Nat.pow_succ]; omega)]
        rw [show((10*a+(l[i].toNat-48):Nat):Int)=10*(a:Int)+((l[i].toNat:Int)-48) by omega]
  · have hd:l.drop i=[]:=by simp; omega
    rw [show decide ((i:Int)<(l.length:Int))=false from Zae (by omega),hd]
    rfl
theorem Al9:∀ {l:List UInt8} {i a:Nat} {v:Int},a<10 ^ i→Adu (a:Int) l=some v→0≤v∧v<10 ^ (i+l.length)
 | [],i,a,v,ha,h=>by
  have:(a:Int)=v:=Option.some.inj h
  subst this
  exact⟨by omega,by exact_mod_cast ha⟩
 | b::r,i,a,v,ha,h=>by
  unfold Adu at h
  cases hb:(Nat.blt b.toNat 48 || Nat.blt 57 b.toNat) with
  | true=>rw [hb] at h; cases h
  | false =>
   rw [hb,Zad] at h
   obtain⟨h1,h2⟩:=Zbi.1 hb
   rw [NY] at h1 h2
   rw [show 10*(a:Int)+((b.toNat:Int)-48)=((10*a+(b.toNat-48):Nat):Int) by omega] at h
   have:=Al9 (i:=i+1) (by rw [Nat.pow_succ]; omega) h
   rwa [show i+1+r.length=i+(b::r).length by simp; omega] at this
def Adz (o:Option Int):Int×Bool×Unit:=match o with | some v=>(v,true,()) | none=>(0,false,())
theorem Aq8 {n:Nat} (minus:Bool) {d:List UInt8} (hd:d.length≤9) (hn:10<n) :
  ((Bo n minus (Uh d) 0 0).bind fun v3 =>
    Sum.elim (fun v4=>bif v4.fst then(some (IntKind.i64.wrap (0-v4.snd.fst),(true,()))) else
    some (v4.snd.fst,(true,()))) (fun v4=>some (v4.fst,(v4.snd.fst,()))) (v3))=some (Adz ((Adu 0 d).map fun v=>bif minus then -v else v)):=by
 have h:=Afe d hd minus n 0 0 (by omega) (by omega) (by simp)
 rw [show((0:Nat):Int)=0 from rfl,Zar] at h
 rw [h,Zaa]
 cases hv:Adu 0 d with
 | none=>rfl
 | some v =>
  have hb:=Al9 (i:=0) (a:=0) (by simp) hv
  have h10:(10:Int) ^ (0+d.length)≤10 ^ 9:=by
   have:(10:Nat) ^ (0+d.length)≤10 ^ 9:=Zbu (by decide) (by omega)
   exact_mod_cast this
  cases minus with
  | false=>rfl
  | true =>
   simp only [Za1,Zab,Option.map_some]
   rw [F7 (x:=0-v) (by omega) (by omega)]
   simp [Adz]
theorem AlA {n:Nat} (minus:Bool) (d:List UInt8) (hn:10<n) :
  (bif !decide ((↑(Uh d).size:Int)=0) then(bif !decide ((↑(Uh d).size:Int)>9) then((VE (Uh d) 0).bind fun v2 =>
  bif decide (v2.n=48) then(bif !decide ((↑(Uh d).size:Int)>1) then(bif minus then(some (0,(false,()))) else
  (Bo n minus (Uh d) 0 0).bind fun v3 =>
  Sum.elim (fun v4=>bif v4.fst then(some (IntKind.i64.wrap (0-v4.snd.fst),(true,()))) else
  some (v4.snd.fst,(true,()))) (fun v4=>some (v4.fst,(v4.snd.fst,()))) (v3)) else
  some (0,(false,()))) else
  (Bo n minus (Uh d) 0 0).bind fun v3 =>
  Sum.elim (fun v4=>bif v4.fst then(some (IntKind.i64.wrap (0-v4.snd.fst),(true,()))) else
  some (v4.snd.fst,(true,()))) (fun v4=>some (v4.fst,(v4.snd.fst,()))) (v3)) else
  some (0,(false,()))) else
  some (0,(false,())))=some (Adz (match d with
 | []=>none
 | b::r=>bif Nat.blt 9 d.length || (b.toNat == 48 && (Nat.blt 1 d.length || minus)) then none else(Adu 0 d).map fun n=>bif minus then -n else n)):=by
 rcases d with _ | ⟨b,r⟩
 · rfl
 · rw [Li,show decide ((((b::r).length:Nat):Int)=0)=false from Zae (by simp; omega)]
   by_cases h9:9<(b::r).length
   · rw [show decide ((((b::r).length:Nat):Int)>9)=true from Zaf (by omega),Uk.2 h9]; rfl
   · rw [show decide ((((b::r).length:Nat):Int)>9)=false from Zae (by omega),NY.2 (by omega)]
     have ht:=Aq8 (n:=n) minus (d:=b::r) (by omega) hn
     have hz:=Ab6 (l:=b::r) (i:=0) (by simp)
     rw [show((0:Nat):Int)=0 from rfl] at hz
     rw [hz,Zaa]
     simp only [Za4,Zab,List.getElem_cons_zero,Bool.false_or]
     by_cases h48:b.toNat=48
     · rw [show decide (((b.toNat:Nat):Int)=48)=true from Zaf (by omega),show(b.toNat == 48)=true by simpa using h48]
       by_cases h1:1<(b::r).length
       · rw [show decide ((((b::r).length:Nat):Int)>1)=true from Zaf (by omega),Uk.2 h1]; rfl
       · rw [show decide ((((b::r).length:Nat):Int)>1)=false from Zae (by omega),NY.2 (by omega)]
         cases minus with
         | true=>rfl
         | false=>simp only [Za4,Zab,Zad,ZaD,Bool.false_or]; exact ht
     · rw [show decide (((b.toNat:Nat):Int)=48)=false from Zae (by omega),show(b.toNat == 48)=false by simpa using h48]
       simp only [Zad,Bool.false_and]
       exact ht
theorem AuR {n:Nat} (s:ByteArray) (hn:10<n):Vo n s=some (Adz (P4 s.data.toList)):=by
 obtain⟨l,rfl⟩:∃ l,s=Uh l:=⟨s.data.toList,(WZ s).symm⟩
 show _=some (Adz (P4 l))
 unfold Vo
 rcases l with _ | ⟨b,r⟩
 · rfl
 · have hp:decide (((((Uh (b::r)).size:Nat)):Int)>0)=true:=Zaf (by rw [Li]; simp)
   have hz:=Ab6 (l:=b::r) (i:=0) (by simp)
   rw [show((0:Nat):Int)=0 from rfl] at hz
   rw [hp,Zab,hz,Zaa]
   simp only [List.getElem_cons_zero]
   by_cases h45:b.toNat=45
   · have he:decide (((b.toNat:Nat):Int)=45)=true:=Zaf (by omega)
     have hs:Ob (Uh (b::r)) 1 ((Uh (b::r)).size:Int)=some (Uh r):=by
      have:=Al2 (l:=b::r) (a:=1) (b:=(b::r).length) (by simp) (by omega)
      rw [Li]
      simpa using this
     rw [he,Zab,hs,Zaa,AlA true r hn]
     have hb:(b.toNat == 45)=true:=by simpa using h45
     unfold P4
     simp only [hb,Zab,Zbz,Zar]
     cases r <;> rfl
   · have he:decide (((b.toNat:Nat):Int)=45)=false:=Zae (by omega)
     have hm:=AlA false (b::r) hn
     rw [hz] at hm
     simp only [List.getElem_cons_zero] at hm
     rw [he,Zad,hm]
     have hb:(b.toNat == 45)=false:=by simpa using h45
     unfold P4
     simp only [hb,Zad]
theorem Bs {a b:ByteArray} (h:a≠b):a.beq b=false:=by
 cases hb:a.beq b with
 | false=>rfl
 | true =>
  have h2:(a.data == b.data)=true:=hb
  exact absurd (ByteArray.ext (eq_of_beq h2)) h
theorem BK {β:Type} {a k:ByteArray} {v:β} {l:List (ByteArray×β)} (h:k≠a):El Ep ((a,v)::l) k=El Ep l k:=by
 have:Ep a k=false:=by
  cases hb:Ep a k with
  | false=>rfl
  | true=>exact absurd ((SR a k).1 hb).symm h
 conv=>lhs; unfold El
 simp only [this,Zad]
theorem AwQ (n:Nat) (w:ByteArray):YC n w=some ((match El Ep Dk w with | some x=>x.many | none=>0),()):=by
 by_cases h1:w=B [102,111,117,110,100]
 · subst h1; kernel_rfl
 by_cases h2:w=B [104,101,108,100]
 · subst h2; kernel_rfl
 by_cases h3:w=B [115,105,103,110,101,100]
 · subst h3; kernel_rfl
 by_cases h4:w=B [99,104,101,99,107,101,100]
 · subst h4; kernel_rfl
 by_cases h5:w=B [111,117,116]
 · subst h5; kernel_rfl
 by_cases h6:w=B [105,110]
 · subst h6; kernel_rfl
 by_cases h7:w=B [115,97,108,101]
 · subst h7; kernel_rfl
 by_cases h8:w=B [115,121,110,99]
 · subst h8; kernel_rfl
 by_cases h9:w=B [99,108,111,115,101]
 · subst h9; kernel_rfl
 by_cases h10:w=B [100,114,105,118,101,114]
 · subst h10; kernel_rfl
 by_cases h11:w=B [100,117,116,121]
 · subst h11; kernel_rfl
 by_cases h12:w=B [103,105,118,101]
 · subst h12; kernel_rfl
 have hm:El Ep Dk w=none:=by
  unfold Dk
  rw [BK h1,BK h2,BK h3,BK h4,BK h5,BK h6,BK h7,BK h8,BK h9,BK h10,BK h11,BK h12]
  rfl
 rw [hm]
 unfold YC
 simp only [Bs h1,Bs h2,Bs h3,Bs h4,Bs h5,Bs h6,Bs h7,Bs h8,Bs h9,Bs h10,Bs h11,Bs h12,Zad]
theorem Aff (full:List ByteArray) (k:Nat) (hk:full.length=k+1) (h6:k≤5):∀ (n i:Nat)(l:List Int),full.length+11-i<n→i≤full.length→l.length≤i→JU n full (k:Int) l (i:Int)=some (match HJ (full.drop i) with | some vs=>.inl (full,l++vs,()) | none=>.inr (B [],[],false,()))
 | 0,_,_,h,_,_=>absurd h (Zan _)
 | n+1,i,l,h,hi,hl=>by
  rw [JU]
  by_cases hx:i<full.length
  · have hd:full.drop i=full[i]::full.drop (i+1):=Zaj hx
    rw [show decide ((i:Int)≤(k:Int))=true from Zaf (by omega),Zab,B3 hx,Zaa,AuR _ (by omega),Zaa,hd,wN i (by omega)]
    unfold HJ
    rw [show P4 full[i].data.toList=AkI full[i] from rfl]
    cases hv:AkI full[i] with
    | none=>rfl
    | some v =>
     simp only [Adz,ZaC,Zad]
     rw [AK (by simp; omega),Zaa,Aff full k hk h6 n (i+1) (l++[v]) (by omega) (by omega) (by simp; omega)]
     cases HJ (full.drop (i+1)) with
     | none=>rfl
     | some vs=>simp
  · have hd:full.drop i=[]:=by simp; omega
    rw [show decide ((i:Int)≤(k:Int))=false from Zae (by omega),hd]
    simp [HJ]
def Aaj (text:ByteArray):Option (ByteArray×List Int) :=
 match Cs text with
 | []=>none
 | p::r=>match El Ep Dk p with
  | none=>none
  | some x=>if ((r.length+1:Nat):Int)=x.many+1 then(HJ r).map fun vs=>(p,vs) else none
def Aim (o:Option (ByteArray×List Int)):ByteArray×List Int×Bool×Unit:=match o with | some p=>(p.1,p.2,true,()) | none=>(B [],[],false,())
theorem AbF {n:Nat} {s:ByteArray} (hs:s.size≤1000000) (hn:s.size+30≤n):KB n s=some (Aim (Aaj s)):=by
 unfold KB
 rw [AuQ hs (by omega),Zaa]
 unfold Aaj
 cases hp:Cs s with
 | nil=>exact absurd (Zb0.1 hp) (No _ _)
 | cons p r =>
  simp only
  have h0:A6 (p::r) 0=some p:=rfl
  rw [h0,Zaa,AwQ,Zaa]
  cases hw:El Ep Dk p with
  | none=>rfl
  | some x =>
   obtain⟨h2,h5,_,_⟩:=Aai hw
   simp only
   rw [Zae (show ¬ x.many=0 by omega),Za4,Zab,F7 (x:=x.many+1) (by omega) (by omega)]
   by_cases hl:((r.length+1:Nat):Int)=x.many+1
   · rw [if_pos hl,show((((p::r).length:Nat):Int) != x.many+1)=false by simpa using hl,Zad]
     have:=Aff (p::r) r.length (by simp) (by omega) n 1 [] (by simp; omega) (by simp) (by simp)
     rw [show((1:Nat):Int)=1 from rfl,show(r.length:Int)=x.many by omega] at this
     rw [this,Zaa,Zbz,Zar]
     cases HJ r with
     | none=>rfl
     | some vs=>rfl
   · rw [if_neg hl,show((((p::r).length:Nat):Int) != x.many+1)=true by simpa using hl,Zab]; rfl
theorem Afg {t:ByteArray} {f:Int} {l:List Int} (h:BQ t=some (f,l)):∃ p r x vs,Cs t=p::r∧El Ep Dk p=some x∧((r.length+1:Nat):Int)=x.many+1∧HJ r=some vs∧f=x.do_.f∧l=vs++List.replicate (5-vs.length) 0:=by
 cases hp:Cs t with
 | nil=>unfold Cs at hp; exact absurd (Zb0.1 hp) (No 32 _)
 | cons p r =>
  rw [Iu hp] at h
  cases hw:El Ep Dk p with
  | none=>rw [hw] at h; cases h
  | some x =>
   rw [hw] at h
   simp only at h
   by_cases hl:((r.length+1:Nat):Int)=x.many+1
   · rw [if_pos hl] at h
     cases hv:HJ r with
     | none=>rw [hv] at h; cases h
     | some vs =>
      rw [hv] at h
      cases h
      exact⟨p,r,x,vs,rfl,hw,hl,hv,rfl,rfl⟩
   · rw [if_neg hl] at h; cases h
theorem Ao4 {p:ByteArray} {x:F9} (h:El Ep Dk p=some x):(p=B [111,117,116]∧x.many=2∧x.do_.f=193)∨(p≠B [111,117,116]∧x.do_.f≠193):=by
 have:=P7 Ep (fun a b h=>(SR a b).1 h) _ _ _ h
 simp only [Dk,Zal,Prod.mk.injEq,List.not_mem_nil,or_false] at this
 rcases this with⟨rfl,rfl⟩ | ⟨rfl,rfl⟩ | ⟨rfl,rfl⟩ | ⟨rfl,rfl⟩ | ⟨rfl,rfl⟩ | ⟨rfl,rfl⟩ | ⟨rfl,rfl⟩ | ⟨rfl,rfl⟩ | ⟨rfl,rfl⟩ | ⟨rfl,rfl⟩ | ⟨rfl,rfl⟩ | ⟨rfl,rfl⟩ <;> first | exact .inl ⟨rfl,rfl,rfl⟩ | exact .inr ⟨by decide,by decide⟩
def V7 (cards:List A0) (t:ByteArray):Bool:=match BQ t with
 | some (f,a::b::_)=>decide (f=193) && decide ((((Gu cards a b).1.length:Nat):Int)>0)
 | _=>false
theorem AlB {s:ByteArray} (hs:s.size≤1000000) {v:Int} (h:AkI s=some v):ZC s=some (.inl v):=by
 unfold ZC
 obtain⟨_,h2,_,_⟩:=Al4 h
 rw [if_pos (by omega),h2]
theorem Ayn {a b:ByteArray} (h:a≠b):a.beq b=false:=by
 cases hb:a.beq b with
 | false=>rfl
 | true =>
  have h2:(a.data == b.data)=true:=hb
  exact absurd (ByteArray.ext (eq_of_beq h2)) h
theorem Atk {n:Nat} {t:ByteArray} {g:Aj} (hg:Eo g.state) (hn:300<n) (ht:t.size≤1000000) {y:Int×List Int} (hy:BQ t=some y):MA n t g=some ((g,()),((),(V7 g.state.cards t,()))):=by
 obtain⟨f,l⟩:=y
 obtain⟨p,r,x,vs,hp,hw,hl,hv,rfl,rfl⟩:=Afg hy
 have hsz:∀ q∈Cs t,q.size≤1000000:=fun q hq=>ZaI (Afd hq) ht
 unfold MA Aec V7
 rw [Asd,show Nat.blt t.size 4294967281=true from Za7 (by omega),Zbx,Zab,Zaa,hp,hy]
 simp only
 rw [show A6 (p::r) 0=some p from rfl,Zaa]
 rw [hp] at hsz
 rcases Ao4 hw with⟨rfl,hm,hf⟩ | ⟨hne,hf⟩
 · rw [hm] at hl
   obtain⟨r1,r2,rfl⟩:∃ r1 r2,r=[r1,r2]:=by
    rcases r with _ | ⟨r1,_ | ⟨r2,_ | ⟨r3,r4⟩⟩⟩
    · simp at hl
    · simp at hl
    · exact⟨_,_,rfl⟩
    · simp at hl; omega
   have hs1:=hsz r1 (by simp)
   have hs2:=hsz r2 (by simp)
   unfold HJ at hv
   cases h1:AkI r1 with
   | none=>rw [h1] at hv; cases hv
   | some a =>
    rw [h1] at hv
    unfold HJ at hv
    cases h2:AkI r2 with
    | none=>rw [h2] at hv; cases hv
    | some b =>
     rw [h2] at hv
     unfold HJ at hv
     cases hv
     have hb:(B [111,117,116]).beq (B [111,117,116])=true:=by decide
     have ho:=ArW (n:=n) (bus:=a) (at_:=b) hg.kind (ZaI hg.cards (by decide)) (by have:=hg.cards; omega)
     rw [hb,ZaC,Zad,show A6 [B [111,117,116],r1,r2] 1=some r1 from rfl,Zaa,AlB hs1 h1,Zaa,Za1,show A6 [B [111,117,116],r1,r2] 2=some r2 from rfl,Zaa,AlB hs2 h2,Zaa,Za1,ho,Zaa,hf]
     rfl
 · rw [Ayn hne,Za4,Zab]
   rcases vs++List.replicate (5-vs.length) 0 with _ | ⟨a,_ | ⟨b,c⟩⟩
   · rfl
   · rfl
   · show _=some ((g,()),((),(decide (x.do_.f=193) && decide ((((Gu g.state.cards a b).1.length:Nat):Int)>0),())))
     rw [Zae hf]; rfl
theorem ST {s:An} {t:ByteArray} (h:(Cf s t).2=0):∃ y,BQ t=some y∧(Br s y.1 y.2).2=0∧(Cf s t).1=(Br s y.1 y.2).1:=by
 unfold Cf at h ⊢
 cases hp:BQ t with
 | none=>rw [hp] at h; cases h
 | some y =>
  obtain⟨f,l⟩:=y
  rw [hp] at h
  simp only at h ⊢
  by_cases h0:(Br s f l).2=0
  · rw [if_pos h0]; exact⟨_,rfl,h0,rfl⟩
  · rw [if_neg h0] at h; exact absurd h h0
def P8 (cards:List A0):List ByteArray→List Int→Nat→List Int
 | t::l,e::es,i=>bif decide (e=0) && V7 cards t then(i:Int)::P8 cards l es (i+1) else P8 cards l es (i+1)
 | _,_,_=>[]
theorem Uo (full:List ByteArray) (errs:List Int) (g:Aj) (hg:Eo g.state) (hs:∀ t∈full,t.size≤1000000) (hl:full.length≤1000) (he:errs.length=full.length) (hacc:∀ (i:Nat)(h:i<full.length),errs[i]'(by omega)=0→∃ y,BQ full[i]=some y):∀ (n i:Nat)(out:List Int),300+(full.length-i)<n→i≤full.length→out.length≤i→CV n errs out g full (full.length:Int) (i:Int)=some ((g,()),((),(out++P8 g.state.cards (full.drop i) (errs.drop i) i,())))
 | 0,_,_,h,_,_=>absurd h (Zan _)
 | n+1,i,out,h,hi,ho=>by
  rw [CV]
  by_cases hx:i<full.length
  · have hd:full.drop i=full[i]::full.drop (i+1):=Zaj hx
    have hxe:i<errs.length:=by omega
    have hde:errs.drop i=errs[i]::errs.drop (i+1):=Zaj hxe
    rw [show decide ((i:Int)<(full.length:Int))=true by simp; omega,Zab,B3 hx,Zaa,B3 hxe,Zaa,wN i (by omega),hd,hde]
    unfold P8
    by_cases h0:errs[i]=0
    · obtain⟨y,hy⟩:=hacc i hx h0
      rw [Zaf h0,Zab,Atk hg (by omega) (hs _ (Zax hx)) hy,Zaa,ZaD]
      simp only
      cases hb:V7 g.state.cards full[i] with
      | false =>
       simp only [Zad]
       exact Uo full errs g hg hs hl he hacc n (i+1) out (by omega) (by omega) (by omega)
      | true =>
       simp only [Zab]
       rw [AK (by simp; omega),Zaa,Uo full errs g hg hs hl he hacc n (i+1) _ (by omega) (by omega) (by simp; omega)]
       simp
    · rw [Zae h0,Zad,Bool.false_and,Zad]
      exact Uo full errs g hg hs hl he hacc n (i+1) out (by omega) (by omega) (by omega)
  · have hd:full.drop i=[]:=by simp; omega
    rw [show decide ((i:Int)<(full.length:Int))=false by simp; omega,hd]
    simp [P8]
theorem AlC:∀ (l:List ByteArray)(s:An)(i:Nat)(h:i<l.length),((Bf s l).2[i]'(by rw [SS]; exact h))=0→∃ y,BQ l[i]=some y
 | t::l,s,0,h,h0=>by
  obtain⟨y,hy,_⟩:=ST (s:=s) (t:=t) (by simpa [Bf] using h0)
  exact⟨y,by simpa using hy⟩
 | t::l,s,i+1,h,h0=>by
  have:=AlC l (Cf s t).1 i (by simpa using h) (by simpa [Bf] using h0)
  simpa using this
theorem AwR {n:Nat} {lines:List ByteArray} (hr:NX lines=true) (hn:1600≤n):GX n lines=some (P8 (Bf AC lines).1.cards lines (Bf AC lines).2 0,(0,())):=by
 obtain⟨h1,h2⟩:=P2.1 hr
 have hs:∀ t∈lines,t.size≤1000000:=fun t ht=>ZaI (h2 t ht) (by decide)
 have hL:=Nd lines 0 AC (Kz.less (by omega))
 unfold GX
 rw [P3 (by omega) (by omega),hr,Zaa]
 simp only [Zab]
 rw [show((0:Int) != 0)=false from rfl,Zad,AmJ hs (by omega) hn,Zaa]
 unfold Vx
 have h:=Uo lines (Bf AC lines).2 (Aj.mk (Bf AC lines).1) hL.1 hs (by omega) (SS _ _) (fun i hi h0=>AlC lines AC i hi h0) n 0 [] (by omega) (by omega) (by simp)
 rw [show((0:Nat):Int)=0 from rfl,Zar,Zar,Zau] at h
 simp only
 rw [h]; rfl
def Asf (t:ByteArray):Bool:=match BQ t with
 | some (f,_)=>decide (f≤192)
 | none=>false
theorem Atl {p:ByteArray} {x:F9} (h:El Ep Dk p=some x):(p=B [102,111,117,110,100]∧x.do_.f=189∧x.many=4)∨(p=B [104,101,108,100]∧x.do_.f=190∧x.many=4)∨(p=B [115,105,103,110,101,100]∧x.do_.f=191∧x.many=4)∨(p=B [99,104,101,99,107,101,100]∧x.do_.f=192∧x.many=3)∨(p≠B [102,111,117,110,100]∧p≠B [104,101,108,100]∧p≠B [115,105,103,110,101,100]∧p≠B [99,104,101,99,107,101,100]∧¬ x.do_.f≤192):=by
 have:=P7 Ep (fun a b h=>(SR a b).1 h) _ _ _ h
 simp only [Dk,Zal,Prod.mk.injEq,List.not_mem_nil,or_false] at this
 rcases this with⟨rfl,rfl⟩ | ⟨rfl,rfl⟩ | ⟨rfl,rfl⟩ | ⟨rfl,rfl⟩ | ⟨rfl,rfl⟩ | ⟨rfl,rfl⟩ | ⟨rfl,rfl⟩ | ⟨rfl,rfl⟩ | ⟨rfl,rfl⟩ | ⟨rfl,rfl⟩ | ⟨rfl,rfl⟩ | ⟨rfl,rfl⟩ <;> first | exact .inl ⟨rfl,rfl,rfl⟩ | exact .inr (.inl ⟨rfl,rfl,rfl⟩) | exact .inr (.inr (.inl ⟨rfl,rfl,rfl⟩)) | exact .inr (.inr (.inr (.inl ⟨rfl,rfl,rfl⟩))) | exact .inr (.inr (.inr (.inr ⟨by decide,by decide,by decide,by decide,by decide⟩)))
theorem AlD (t:ByteArray):(Aaj t=none∧BQ t=none)∨∃ p x vs,Aaj t=some (p,vs)∧El Ep Dk p=some x∧(vs.length:Int)=x.many∧BQ t=some (x.do_.f,vs++List.replicate (5-vs.length) 0):=by
 unfold Aaj
 cases hp:Cs t with
 | nil=>unfold Cs at hp; exact absurd (Zb0.1 hp) (No 32 _)
 | cons p r =>
  rw [Iu hp]
  simp only
  cases hw:El Ep Dk p with
  | none=>exact .inl ⟨rfl,rfl⟩
  | some x =>
   simp only
   by_cases hl:((r.length+1:Nat):Int)=x.many+1
   · rw [if_pos hl,if_pos hl]
     cases hv:HJ r with
     | none=>exact .inl ⟨rfl,rfl⟩
     | some vs =>
      have:=Pu hv
      exact .inr ⟨p,x,vs,rfl,hw,by omega,rfl⟩
   · rw [if_neg hl,if_neg hl]; exact .inl ⟨rfl,rfl⟩
def Sk:List SM→Int
 | []=>0
 | r::l=>r.miles+Sk l
def Lq (bus:Int) (l:List SM):List SM:=l.filter fun r=>decide (r.bus=bus)
def Asg (r:SM):Prop:=0≤r.bus∧r.bus≤99∧0≤r.miles∧r.miles≤1000
structure Afh (s:An):Prop where
 outs:∀ o∈s.outs,0≤o.bus∧o.bus≤99
 runs:∀ r∈s.runs,Asg r
theorem Ao5:∀ a b:List SM,Sk (a++b)=Sk a+Sk b
 | [],b=>by simp [Sk]
 | r::a,b=>by simp only [ZaP,Sk]; rw [Ao5 a b]; omega
theorem Up (bus:Int) (full:List SM) (hr:∀ r∈full,Asg r) (hl:full.length≤1000):∀ (n i:Nat)(a c:Nat),full.length-i<n→i≤full.length→a≤1000*i→c≤i→Bn n bus (a:Int) (c:Int) full (full.length:Int) (i:Int)=some ((a:Int)+Sk (Lq bus (full.drop i)),((c:Int)+((Lq bus (full.drop i)).length:Int),()))
 | 0,_,_,_,h,_,_,_=>absurd h (Zan _)
 | n+1,i,a,c,h,hi,ha,hc=>by
  rw [Bn]
  by_cases hx:i<full.length
  · have hd:full.drop i=full[i]::full.drop (i+1):=Zaj hx
    obtain⟨_,_,m0,m1⟩:=hr _ (Zax hx)
    obtain⟨m,hm⟩:∃ m:Nat,full[i].miles=m:=⟨full[i].miles.toNat,by omega⟩
    rw [show decide ((i:Int)<(full.length:Int))=true by simp; omega,Zab,B3 hx,Zaa,hd,wN i (by omega)]
    unfold Lq
    by_cases hb:full[i].bus=bus
    · rw [Zaf hb,Zab,hm,F7 (x:=(a:Int)+(m:Int)) (by omega) (by omega),wN c (by omega),List.filter_cons_of_pos (by simpa using hb)]
      have:=Up bus full hr hl n (i+1) (a+m) (c+1) (by omega) (by omega) (by omega) (by omega)
      rw [show((a+m:Nat):Int)=(a:Int)+(m:Int) by omega] at this
      rw [this]
      unfold Lq
      simp only [Sk,Za6,hm]
      congr 2
      · omega
      · congr 1; omega
    · rw [Zae hb,Zad,List.filter_cons_of_neg (by simpa using hb)]
      exact Up bus full hr hl n (i+1) a c (by omega) (by omega) (by omega) (by omega)
  · have hd:full.drop i=[]:=by simp; omega
    rw [show decide ((i:Int)<(full.length:Int))=false by simp; omega,hd]
    simp [Lq,Sk]
theorem Afi:Afh AC:=⟨by simp [AC],by simp [AC]⟩
theorem Aq9 {s:An} (hm:Afh s) {f:Int} {l:List Int} (h0:(Br s f l).2=0):Afh (Br s f l).1∧(f≠194→(Br s f l).1.runs=s.runs)∧(f=194→∀ a b c r,l=a::b::c::r→Sk (Br s f l).1.runs=Sk s.runs+c):=by
 unfold Br at h0 ⊢
 split at h0
 · rename_i a b c d e
   by_cases q0:f=189
   · rw [if_pos q0] at h0 ⊢; unfold FX; split
     · exact⟨hm,fun _=>rfl,fun q=>by omega⟩
     · split
       · exact⟨⟨hm.outs,hm.runs⟩,fun _=>rfl,fun q=>by omega⟩
       · exact⟨hm,fun _=>rfl,fun q=>by omega⟩
   rw [if_neg q0] at h0 ⊢
   by_cases q0:f=190
   · rw [if_pos q0] at h0 ⊢; unfold FX; split
     · exact⟨hm,fun _=>rfl,fun q=>by omega⟩
     · split
       · exact⟨⟨hm.outs,hm.runs⟩,fun _=>rfl,fun q=>by omega⟩
       · exact⟨hm,fun _=>rfl,fun q=>by omega⟩
   rw [if_neg q0] at h0 ⊢
   by_cases q0:f=191
   · rw [if_pos q0] at h0 ⊢; unfold FX; split
     · exact⟨hm,fun _=>rfl,fun q=>by omega⟩
     · split
       · exact⟨⟨hm.outs,hm.runs⟩,fun _=>rfl,fun q=>by omega⟩
       · exact⟨hm,fun _=>rfl,fun q=>by omega⟩
   rw [if_neg q0] at h0 ⊢
   by_cases q0:f=192
   · rw [if_pos q0] at h0 ⊢; unfold FX; split
     · exact⟨hm,fun _=>rfl,fun q=>by omega⟩
     · split
       · exact⟨⟨hm.outs,hm.runs⟩,fun _=>rfl,fun q=>by omega⟩
       · exact⟨hm,fun _=>rfl,fun q=>by omega⟩
   rw [if_neg q0] at h0 ⊢
   by_cases q0:f=193
   · rw [if_pos q0] at h0 ⊢
     obtain⟨h1,_,_,_,e⟩:=Aih h0
     rw [e]
     rw [Zap,Cp,Cp] at h1
     refine⟨⟨fun o ho=>?_,hm.runs⟩,fun _=>rfl,fun q=>by omega⟩
     rcases Zam.1 ho with ho | ho
     · exact hm.outs o ho
     · rw [Zaw.1 ho]; exact h1.1
   rw [if_neg q0] at h0 ⊢
   by_cases q0:f=194
   · rw [if_pos q0] at h0 ⊢
     obtain⟨k,hk,_,e,h1,h2⟩:=Ase h0
     rw [e]
     rw [Cp] at h2
     have ho:=hm.outs _ (Zax hk)
     refine⟨⟨fun o ho=>hm.outs o (List.mem_of_mem_eraseIdx ho),fun r hr=>?_⟩,fun q=>absurd q0 q,fun _ a' b' c' r hl=>?_⟩
     · rcases Zam.1 hr with hr | hr
       · exact hm.runs r hr
       · rw [Zaw.1 hr]; exact⟨ho.1,ho.2,h2.1,h2.2⟩
     · cases hl
       show Sk (s.runs++[_])=_
       rw [Ao5]; simp [Sk]
   rw [if_neg q0] at h0 ⊢
   have key:∀ s':An,s'.outs=s.outs→s'.runs=s.runs→Afh s'∧(f≠194→s'.runs=s.runs)∧(f=194→∀ a' b' c' r,[a,b,c,d,e]=a'::b'::c'::r→Sk s'.runs=Sk s.runs+c'):=fun s' h1 h2=>⟨⟨by rw [h1]; exact hm.outs,by rw [h2]; exact hm.runs⟩,fun _=>h2,fun q=>absurd q q0⟩
   by_cases q1:f=195
   · rw [if_pos q1] at h0 ⊢; rw [(W8 h0).1]; exact key _ rfl rfl
   rw [if_neg q1] at h0 ⊢
   by_cases q1:f=196
   · rw [if_pos q1] at h0 ⊢; rw [(W8 h0).1]; exact key _ rfl rfl
   rw [if_neg q1] at h0 ⊢
   by_cases q1:f=197
   · rw [if_pos q1] at h0 ⊢; rw [(W8 h0).1]; exact key _ rfl rfl
   rw [if_neg q1] at h0 ⊢
   by_cases q1:f=198
   · rw [if_pos q1]; unfold Adv; split <;> exact key _ rfl rfl
   rw [if_neg q1] at h0 ⊢
   by_cases q1:f=199
   · rw [if_pos q1]; unfold Adw; split <;> exact key _ rfl rfl
   rw [if_neg q1] at h0 ⊢
   unfold Adx
   split
   · split <;> exact key _ rfl rfl
   · exact key _ rfl rfl
 · cases h0
theorem AqA {s:An} (hm:Afh s) (t:ByteArray):Afh (Cf s t).1:=by
 by_cases h0:(Cf s t).2=0
 · obtain⟨y,_,hw,e⟩:=ST h0
   rw [e]; exact(Aq9 hm hw).1
 · rw [AbD h0]; exact hm
theorem Aak:∀ (l:List ByteArray)(s:An),Afh s→Afh (Bf s l).1
 | [],_,h=>h
 | t::l,s,h=>by simp only [Bf]; exact Aak l _ (AqA h t)
theorem AuS {n:Nat} {lines:List ByteArray} {bus:Int} (hr:NX lines=true) (hn:1600≤n) (hb:0≤bus∧bus≤99):D6 n lines bus=some (Sk (Lq bus (Bf AC lines).1.runs),((bif decide ((Lq bus (Bf AC lines).1.runs).length=0) then 7 else 0),())):=by
 obtain⟨h1,h2⟩:=P2.1 hr
 have hs:∀ t∈lines,t.size≤1000000:=fun t ht=>ZaI (h2 t ht) (by decide)
 have hL:=(Nd lines 0 AC (Kz.less (by omega))).1
 have hM:=Aak lines AC Afi
 have:=hL.runs
 unfold D6
 rw [P3 (by omega) (by omega),hr,Zaa]
 simp only [Zab]
 rw [show((0:Int) != 0)=false from rfl,Zad,KO,Zaa,show Co bus 0 99=true from Cp.2 hb,AmJ hs (by omega) hn]
 simp only [ZaC,Zad,Zaa]
 unfold HH
 have h:=Up bus (Bf AC lines).1.runs hM.runs (by omega) n 0 0 0 (by omega) (by omega) (by omega) (by omega)
 rw [show((0:Nat):Int)=0 from rfl,Zar] at h
 simp only
 rw [h,Zaa,Zaa]
 simp only [Int.zero_add]
 by_cases h0:(Lq bus (Bf AC lines).1.runs).length=0
 · rw [Zaf h0,Zaf (show(((Lq bus (Bf AC lines).1.runs).length:Nat):Int)=0 by omega),Zbh.1 h0]; rfl
 · rw [Zae h0,Zae (show ¬ (((Lq bus (Bf AC lines).1.runs).length:Nat):Int)=0 by omega)]; rfl
theorem Ao6 {α β:Type} (q:α→α→Bool):∀ (m:List (α×β))(k:α)(v:β)(p:α×β),p∈JI q m k v→p∈m∨p=(k,v)
 | [],k,v,p,h=>.inr (Zaw.1 h)
 | x::r,k,v,p,h=>by
  unfold JI at h
  cases hq:q x.1 k with
  | true =>
   rw [hq,Zab] at h
   rcases Zal.1 h with h | h
   · exact .inr h
   · exact .inl (ZaU _ h)
  | false =>
   rw [hq,Zad] at h
   rcases Zal.1 h with h | h
   · exact .inl (by rw [h]; simp)
   · rcases Ao6 q r k v p h with h | h
     · exact .inl (ZaU _ h)
     · exact .inr h
theorem Ain:∀ (l:List A0)(m:List (Int×A0))(o:List Int)(m':List (Int×A0))(o':List Int),Aqp m o l=some (m',o')→(∀ k c,El Ce m k=some c→El Ce m' k=some c)∧(∀ c∈l,El Ce m' c.number=some c)∧(∀ p∈m',p∈m∨p.2∈l)∧(∀ v∈o',v∈o∨∃ c∈l,c.number=v)∧(∀ v∈o,v∈o')∧(∀ c∈l,Dm Ce m c.number=false→c.number∈o')
 | [],m,o,m',o',h=>by
  cases h
  exact⟨fun _ _ h=>h,by simp,fun p hp=>.inl hp,fun v hv=>.inl hv,fun _ h=>h,by simp⟩
 | x::l,m,o,m',o',h=>by
  unfold Aqp at h
  cases hm:Dm Ce m x.number with
  | true =>
   rw [hm,Zab] at h
   cases hs:En (AY Ce m x.number zC) x with
   | false=>rw [hs] at h; cases h
   | true =>
    rw [hs,Zab] at h
    obtain⟨a,b,c,d,e,f⟩:=Ain l m o m' o' h
    have hx:El Ce m x.number=some x:=by
     have h1:=SO.1 hs
     unfold Dm at hm
     unfold AY at h1
     cases hg:El Ce m x.number with
     | none=>rw [hg] at hm; cases hm
     | some y=>rw [hg] at h1; exact congrArg some h1
    refine⟨a,fun z hz=>?_,fun p hp=>(c p hp).imp id fun h=>ZaU _ h,fun v hv=>(d v hv).imp id fun⟨z,h1,h2⟩=>⟨z,ZaU _ h1,h2⟩,e,fun z hz hn=>?_⟩
    · rcases Zal.1 hz with rfl | hz
      · exact a _ _ hx
      · exact b z hz
    · rcases Zal.1 hz with rfl | hz
      · rw [hm] at hn; cases hn
      · exact f z hz hn
  | false =>
   rw [hm,Zad] at h
   obtain⟨a,b,c,d,e,f⟩:=Ain l _ _ m' o' h
   have hx:El Ce m' x.number=some x:=a _ _ (by rw [KP SQ,if_pos rfl])
   have hmo:x.number∈o':=e _ (by simp)
   refine⟨fun k y hy=>a _ _ ?_,fun z hz=>?_,fun p hp=>?_,fun v hv=>?_,fun v hv=>e v (ZaH _ hv),fun z hz hn=>?_⟩
   · rw [KP SQ,if_neg ?_]
     · exact hy
     · rintro rfl
       unfold Dm at hm; rw [hy] at hm; cases hm
   · rcases Zal.1 hz with rfl | hz
     · exact hx
     · exact b z hz
   · rcases c p hp with h | h
     · rcases Ao6 _ _ _ _ _ h with h | h
       · exact .inl h
       · exact .inr (by rw [h]; simp)
     · exact .inr (ZaU _ h)
   · rcases d v hv with h | ⟨z,h1,h2⟩
     · rcases Zam.1 h with h | h
       · exact .inl h
       · exact .inr ⟨x,by simp,(Zaw.1 h).symm⟩
     · exact .inr ⟨z,ZaU _ h1,h2⟩
   · rcases Zal.1 hz with rfl | hz
     · exact hmo
     · by_cases hk:z.number=x.number
       · rw [hk]; exact hmo
       · refine f z hz ?_
         cases hb:Dm Ce (JI Ce m x.number x) z.number with
         | false=>rfl
         | true =>
          rcases(Yw SQ _ _ _ _).1 hb with h | h
          · exact absurd h.symm hk
          · rw [hn] at h; cases h
theorem AlE {l:List A0} {y:List (Int×A0)×List Int} (h:MK l=.inr y):(∀ c∈l,El Ce y.1 c.number=some c)∧(∀ p∈y.1,p.2∈l)∧(∀ v,v∈y.2↔∃ c∈l,c.number=v):=by
 obtain⟨_,_,o,h1,h2⟩:=Yv h
 obtain⟨a,b,c,d,e,f⟩:=Ain l _ _ _ _ h1
 refine⟨b,fun p hp=>?_,fun v=>?_⟩
 · rcases c p hp with h | h
   · cases h
   · exact h
 · rw [h2,Aow]
   constructor
   · intro hv
     rcases d v hv with h | h
     · cases h
     · exact h
   · rintro⟨c,hc,rfl⟩
     exact f c hc rfl
def Ao7 (l:List A0) (bus at_:Int) (c:A0):Bool:=decide (c.bus=bus) && ((decide (c.kind.n=0) || decide (c.kind.n=1)) && (!decide (at_<c.minute) && l.all fun d=>!(decide (d.minute≤at_) && ZG d c)))
theorem Ao8 {l:List A0} {y:List (Int×A0)×List Int} (h:MK l=.inr y) (c:A0) (at_:Int):Acz y.1 c at_=(!decide (at_<c.minute) && l.all fun d=>!(decide (d.minute≤at_) && ZG d c)):=by
 obtain⟨a,b,_⟩:=AlE h
 unfold Acz
 congr 1
 rw [Bool.eq_iff_iff,Za8,Za8]
 constructor
 · intro hh d hd
   exact hh (d.number,d) (P7 Ce (fun a b h=>(SQ a b).1 h) _ _ _ (a d hd))
 · intro hh p hp
   exact hh p.2 (b p hp)
theorem AuT {l:List A0} {bus at_ x:Int} (h:Aoa l=0) (hb:(Co bus 0 99 && Co at_ 0 1000000)=true):x∈(Gu l bus at_).1↔∃ c∈l,c.number=x∧Ao7 l bus at_ c=true:=by
 unfold Aoa at h
 unfold Gu
 cases hr:MK l with
 | inl e=>rw [hr] at h; have:=SP hr; simp only at h; omega
 | inr y =>
  simp only
  rw [if_pos hb]
  obtain⟨a,b,c⟩:=AlE hr
  unfold AxR
  simp only [ZaZ,Zbv]
  constructor
  · rintro⟨v,⟨hv,hq⟩,rfl⟩
    obtain⟨d,hd,rfl⟩:=(c v).1 hv
    have hg:AY Ce y.1 d.number zC=d:=by unfold AY; rw [a d hd]; rfl
    unfold AyG at hq
    rw [hg] at hq ⊢
    rw [Ao8 hr] at hq
    exact⟨d,hd,rfl,hq⟩
  · rintro⟨d,hd,rfl,hq⟩
    have hg:AY Ce y.1 d.number zC=d:=by unfold AY; rw [a d hd]; rfl
    refine⟨d.number,⟨(c _).2 ⟨d,hd,rfl⟩,?_⟩,by rw [hg]⟩
    unfold AyG
    rw [hg,Ao8 hr]
    exact hq
def V8 (f:Int):List Int→A0
 | [a,b,c,d,_]=>if f=189 then A0.mk a b c (IK.mk 0) d 0 else if f=190 then A0.mk a b c (IK.mk 1) d 0 else if f=191 then A0.mk a b c (IK.mk 2) 0 d else A0.mk a b c (IK.mk 3) 0 0
 | _=>zC
def Ao9 (t:ByteArray):A0:=match BQ t with
 | some (f,l)=>if f≤192 then V8 f l else zC
 | none=>zC
theorem AwS {n:Nat} {t:ByteArray} (ht:t.size≤1000000) (hn:t.size+30≤n):YF n t=some (Ao9 t,Asf t,()):=by
 unfold YF
 rw [AbF ht hn,Zaa]
 unfold Aaj Asf Ao9
 cases hp:Cs t with
 | nil=>unfold Cs at hp; exact absurd (Zb0.1 hp) (No 32 _)
 | cons p r =>
  rw [Iu hp]
  simp only
  cases hw:El Ep Dk p with
  | none=>rfl
  | some x =>
   simp only
   by_cases hl:((r.length+1:Nat):Int)=x.many+1
   · rw [if_pos hl,if_pos hl]
     cases hv:HJ r with
     | none=>rfl
     | some vs =>
      have hlen:=Pu hv
      simp only [Aim,Option.map_some,ZaC,Zad]
      rcases Atl hw with⟨rfl,hf,hm⟩ | ⟨rfl,hf,hm⟩ | ⟨rfl,hf,hm⟩ | ⟨rfl,hf,hm⟩ | ⟨h1,h2,h3,h4,hf⟩
      · rw [hm] at hl
        obtain⟨a,b,c,d,rfl⟩:∃ a b c d,vs=[a,b,c,d]:=by
         rcases vs with _ | ⟨a,_ | ⟨b,_ | ⟨c,_ | ⟨d,_ | ⟨e,f⟩⟩⟩⟩⟩ <;> first | exact⟨_,_,_,_,rfl⟩ | (simp at hlen; omega)
        rw [hf]; rfl
      · rw [hm] at hl
        obtain⟨a,b,c,d,rfl⟩:∃ a b c d,vs=[a,b,c,d]:=by
         rcases vs with _ | ⟨a,_ | ⟨b,_ | ⟨c,_ | ⟨d,_ | ⟨e,f⟩⟩⟩⟩⟩ <;> first | exact⟨_,_,_,_,rfl⟩ | (simp at hlen; omega)
        rw [hf]; rfl
      · rw [hm] at hl
        obtain⟨a,b,c,d,rfl⟩:∃ a b c d,vs=[a,b,c,d]:=by
         rcases vs with _ | ⟨a,_ | ⟨b,_ | ⟨c,_ | ⟨d,_ | ⟨e,f⟩⟩⟩⟩⟩ <;> first | exact⟨_,_,_,_,rfl⟩ | (simp at hlen; omega)
        rw [hf]; rfl
      · rw [hm] at hl
        obtain⟨a,b,c,rfl⟩:∃ a b c,vs=[a,b,c]:=by
         rcases vs with _ | ⟨a,_ | ⟨b,_ | ⟨c,_ | ⟨d,e⟩⟩⟩⟩ <;> first | exact⟨_,_,_,rfl⟩ | (simp at hlen; omega)
        rw [hf]; rfl
      · rw [Bs h1,Bs h2,Bs h3,Bs h4,Zae hf,if_neg hf]; rfl
   · rw [if_neg hl,if_neg hl]; rfl
theorem R3 {s:An} {c:A0} (h0:(FX s c).2=0):(FX s c).1={ s with cards:=s.cards++[c] }:=by
 unfold FX at h0 ⊢
 split at h0
 · cases h0
 · rename_i h1
   rw [if_neg h1]
   split at h0
   · rename_i h2; rw [if_pos h2]
   · rename_i h2; exact absurd h0 h2
theorem AuU {t:ByteArray} {f:Int} {l:List Int} (h:BQ t=some (f,l)):189≤f∧f≤200∧l.length=5:=by
 obtain⟨p,r,x,vs,_,hw,hl,hv,rfl,rfl⟩:=Afg h
 obtain⟨m1,m2,f1,f2⟩:=Aai hw
 have:=Pu hv
 exact⟨f1,f2,by rw [Zaz,List.length_replicate]; omega⟩
theorem Nf {α:Type} {F:Nat→Int→Option (Unit ⊕ (Bool×Unit))} (l:List α) (q:α→α→Bool) (hq:∀ a,q a a=true) (hl:l.length≤4000000000000000000)
  (hF:∀ n i,F (n+1) i=bif decide (i<(l.length:Int)) then(A6 l i).bind (fun v0=>(A6 l i).bind fun v1=>bif !q v0 v1 then some (.inr (false,())) else F n (IntKind.i64.wrap (i+1))) else some (.inl ())):∀ (n i:Nat),l.length-i<n→i≤l.length→F n (i:Int)=some (.inl ())
 | 0,_,h,_=>absurd h (Zan _)
 | n+1,i,h,hi=>by
  rw [hF]
  by_cases hx:i<l.length
  · rw [show decide ((i:Int)<(l.length:Int))=true by simp; omega,Zab,B3 hx,Zaa,Zaa,hq,ZaC,Zad,wN i (by omega)]
    exact Nf l q hq hl hF n (i+1) (by omega) (by omega)
  · rw [show decide ((i:Int)<(l.length:Int))=false by simp; omega]; rfl
theorem SU {n:Nat} {l:List Int} (hl:l.length≤1000000) (hn:l.length<n):D8 n l l=some (true,()):=by
 unfold D8
 have h:=Nf (F:=fun n i=>Jf n l l i) l (fun a b=>!(a != b)) (by simp) (by omega) (fun n i=>by
  show Jf (n+1) l l i=_
  rw [Jf]
  simp only [Bool.not_not]) n 0 (by omega) (by omega)
 rw [show((0:Nat):Int)=0 from rfl] at h
 rw [show((l.length:Int) != (l.length:Int))=false by simp,Zad,h]
 rfl
theorem AlF (cards:List A0):∀ (l:List ByteArray)(es:List Int)(i:Nat),(P8 cards l es i).length≤l.length
 | [],_,_=>by simp [P8]
 | _::_,[],_=>by simp [P8]
 | t::l,e::es,i=>by
  have:=AlF cards l es (i+1)
  unfold P8
  cases decide (e=0) && V7 cards t
  · simp; omega
  · simp; omega
def Wb (cur:Int) (s:A1):Prop:=-1≤s.day∧s.day≤cur∧0≤s.row∧s.row≤5∧0≤s.used∧s.used≤1440*(s.day+1)∧-20000≤s.free∧s.free≤20000
def Azx (a b:A1):Prop:=a.free≤b.free∧a.used≤b.used∧((a.day=b.day∧a.row≤b.row)∨a.day<b.day)
theorem Cc {d:AP} (h:Ll d=true):0≤d.day∧d.day≤6∧0≤d.on∧d.on≤1439∧d.on≤d.off.lo∧d.off.lo≤d.off.hi∧d.off.hi≤d.on+1440:=by
 unfold Ll at h
 simp only [Zap,Cp,decide_eq_true_eq] at h
 omega
theorem Aio {cur:Int} {s:A1} {d:AP} {e:Int} (hs:Wb cur s) (hd:Ll d=true) (hc:cur≤6) (hne:s.day≠d.day) (h1:d.on≤e) (h2:e≤d.on+1440):ML s d e=A1.mk (d.day*1440+e) (if s.day=d.day-1 then s.row+1 else 1) (s.used+(e-d.on)) d.day:=by
 obtain⟨d1,d2,d3,d4,d5,d6,d7⟩:=Cc hd
 obtain⟨s1,s2,s3,s4,s5,s6,s7,s8⟩:=hs
 unfold ML Ag7
 rw [Zae hne,Zad,F7 (x:=d.day-1) (by omega) (by omega),F7 (x:=d.day*1440) (by omega) (by omega),F7 (x:=e-d.on) (by omega) (by omega),F7 (x:=d.day*1440+e) (by omega) (by omega),F7 (x:=s.used+(e-d.on)) (by omega) (by omega),F7 (x:=s.row+1) (by omega) (by omega),F7 (x:=0+1) (by omega) (by omega)]
 by_cases h:s.day=d.day-1
 · rw [show(s.day != d.day-1)=false by simp [h],Zad,if_pos h]
 · rw [show(s.day != d.day-1)=true by simp [h],Zab,if_neg h]; rfl
theorem AwT {w:Ar} {k i:Int} {d:AP} {s:A1} {j:Nat}:Ah6 w k i d s j=[]↔It w k d s j=true:=by
 unfold Ah6
 cases It w k d s j <;> simp
theorem Aip {w:Ar} {k i:Int} {d:AP} {s:A1}:Sj w k i d s=[]↔It w k d s 0=true∧It w k d s 1=true∧It w k d s 2=true∧It w k d s 3=true∧It w k d s 4=true:=by
 unfold Sj
 simp only [Zbp,AwT]
theorem AlG {w:Ar} {k cur:Int} {s:A1} {d:AP} (hw:wkOk w) (hs:Wb cur s) (hd:Ll d=true) (hc:cur≤6):(It w k d s 1=true∧It w k d s 2=true∧It w k d s 3=true∧It w k d s 4=true)↔s.day≠d.day∧d.day*1440+d.on-s.free≥600∧(if s.day=d.day-1 then s.row+1 else 1)≤5:=by
 obtain⟨d1,d2,d3,d4,d5,d6,d7⟩:=Cc hd
 have hs':=hs
 obtain⟨s1,s2,s3,s4,s5,s6,s7,s8⟩:=hs'
 show(true=true∧(s.day != d.day)=true∧(bif !decide (s.day=d.day) then decide (Ag7 (Ag7 (Ag7 (d.day*1440)+d.on)-s.free)≥w.rest) else true)=true∧(bif !decide (s.day=d.day) then decide ((ML s d d.on).row≤w.run) else true)=true)↔_
 by_cases hne:s.day=d.day
 · simp [hne]
 · rw [Aio hs hd hc hne (by omega) (by omega),Zae hne,hw.2.1,hw.2.2.1]
   unfold Ag7
   rw [F7 (x:=d.day*1440) (by omega) (by omega),F7 (x:=d.day*1440+d.on) (by omega) (by omega),F7 (x:=d.day*1440+d.on-s.free) (by omega) (by omega)]
   simp [hne]
theorem AqB (w:Ar) (k:Int) (d:AP) (s s':A1):It w k d s 0=It w k d s' 0:=rfl
theorem AuV {w:Ar} {k i cur:Int} {s:A1} {d:AP} (hw:wkOk w) (hs:Wb cur s) (hd:Ll d=true) (hc:cur≤6) (hday:d.day=cur) (hb:Sj w k i d s=[]):Wb cur (ML s d d.off.hi):=by
 obtain⟨d1,d2,d3,d4,d5,d6,d7⟩:=Cc hd
 obtain⟨r0,r1⟩:=Aip.1 hb
 obtain⟨q1,q2,q3⟩:=(AlG hw hs hd hc).1 r1
 rw [Aio hs hd hc q1 (by omega) (by omega)]
 obtain⟨s1,s2,s3,s4,s5,s6,s7,s8⟩:=hs
 unfold Wb
 simp only
 refine⟨by omega,by omega,?_,q3,by omega,by omega,by omega,by omega⟩
 split <;> omega
theorem AbG {α:Type} (l:List α) (i k:Nat) (x z:α):(l.set i x).getD k z=if i=k∧i<l.length then x else l.getD k z:=by
 simp only [ZaO,List.getElem?_set]
 by_cases h:i=k
 · subst h
   by_cases h2:i<l.length
   · simp [h2]
   · simp [h2]
 · simp [h]
def Ayo (cur:Int) (a b:List A1):Prop:=a.length=6∧b.length=6∧∀ k:Nat,k<6→Wb cur (a.getD k OH)∧Wb cur (b.getD k OH)∧Azx (a.getD k OH) (b.getD k OH)
theorem Wb.up {a b:Int} {s:A1} (h:Wb a s) (hab:a≤b):Wb b s:=⟨h.1,by have:=h.2.1; omega,h.2.2⟩
theorem Atm (w:Ar) (r:List Int) (day:Int) (st:List Ay×List A1) (i:Nat) (d:AP):∃ e,(DC w r day st i d).1=st.1++e:=by
 unfold DC
 cases decide (d.day=day)
 · exact⟨[],by simp⟩
 · cases decide (r.getD i (-1)=-1)
   · exact⟨_,rfl⟩
   · exact⟨[],by simp⟩
theorem Aiq (w:Ar) (r:List Int) (day:Int):∀ (l:List AP)(i:Nat)(st:List Ay×List A1),∃ e,(D7 w r day i st l).1=st.1++e
 | [],i,st=>⟨[],by simp [D7]⟩
 | d::l,i,st=>by
  obtain⟨e,he⟩:=Aiq w r day l (i+1) (DC w r day st i d)
  obtain⟨e2,he2⟩:=Atm w r day st i d
  exact⟨e2++e,by simp only [D7]; rw [he,he2,ZaF]⟩
theorem AlH (w:Ar) (r:List Int):∀ (k day:Nat)(st:List Ay×List A1),∃ e,(CX w r k day st).1=st.1++e
 | 0,_,st=>⟨[],by simp [CX]⟩
 | k+1,day,st=>by
  obtain⟨e,he⟩:=AlH w r k (day+1) (D7 w r (day:Int) 0 st w.duties)
  obtain⟨e2,he2⟩:=Aiq w r (day:Int) w.duties 0 st
  exact⟨e2++e,by simp only [CX]; rw [he,he2,ZaF]⟩
theorem Air {a b e:List Ay} (h:b=a++e) (hb:b=[]):a=[]:=by
 rw [hb] at h
 exact(Zbp.1 h.symm).1
theorem Ayo.up {a b:Int} {x y:List A1} (h:Ayo a x y) (hab:a≤b):Ayo b x y:=⟨h.1,h.2.1,fun k hk=>by
 obtain⟨p,q,s⟩:=h.2.2 k hk
 exact⟨p.up hab,q.up hab,s⟩⟩
theorem Ais {w:Ar} {now:List A1}:∀ (k i:Nat),Lm w now k i=[]↔∀ j,i≤j→j<i+k→¬ (now.getD j OH).used>w.hours
 | 0,i=>⟨fun _ j h1 h2=>by omega,fun _=>rfl⟩
 | k+1,i=>by
  unfold Lm
  rw [Zbp,Ais k (i+1)]
  by_cases h:(now.getD i OH).used>w.hours
  · rw [Zaf h]
    constructor
    · rintro⟨h1,_⟩; cases h1
    · intro hh; exact absurd h (hh i (by omega) (by omega))
  · rw [Zae h]
    constructor
    · rintro⟨_,h2⟩ j h3 h4
      by_cases hj:j=i
      · subst hj; exact h
      · exact h2 j (by omega) (by omega)
    · intro hh
      exact⟨rfl,fun j h3 h4=>hh j (by omega) (by omega)⟩
theorem Ad0 {w:Ar} (h:Bc w=0):(∀ d∈w.duties,Ll d=true)∧∀ d∈w.drivers,Aag d=true:=by
 obtain⟨h1,h2⟩:=B9 h
 unfold Bc at h
 rw [if_neg (by omega),if_neg (by omega)] at h
 cases ha:w.duties.all Ll with
 | false=>rw [ha] at h; cases h
 | true =>
  cases hb:w.drivers.all Aag with
  | false=>rw [ha,hb] at h; cases h
  | true=>exact⟨Za8.1 ha,Za8.1 hb⟩
theorem AoA {α:Type} (l:List α) (k:Nat) (z:α):l.getD k z∈l∨l.getD k z=z:=by
 by_cases h:k<l.length
 · left
   rw [ZaO,Zak h]
   exact Zax h
 · right
   rw [ZaO,Za3 (by omega)]; rfl
theorem Ash:Wb 0 OH:=by unfold Wb OH; decide
theorem AqC {w:Ar} (hw:wkOk w) (h:Bc w=0) (k:Nat):Wb 0 ((AW w).getD k OH):=by
 rcases AoA (AW w) k OH with hm | hm
 · unfold AW at hm
   rcases Zam.1 hm with hm | hm
   · obtain⟨d,hd,he⟩:=ZaZ.1 hm
     obtain⟨x,off,rfl⟩:=hw.2.2.2.2.2.2 d hd
     have hr:=(Ad0 h).2 _ hd
     unfold Aag at hr
     rw [Zap,Cp] at hr
     have hr2:=hr.2
     simp only at hr2
     unfold AW
     rw [← he]
     unfold Wb
     simp only
     omega
   · unfold AW
     rw [List.eq_of_mem_replicate hm]
     exact Ash
 · rw [hm]; exact Ash
theorem P9 {w:Ar} {r:List Int}:Gy w r=[]↔(CX w r 7 0 ([],AW w)).1=[]∧∀ j,j<w.drivers.length→¬ ((CX w r 7 0 ([],AW w)).2.getD j OH).used>w.hours:=by
 unfold Gy
 rw [Zbp,Ais]
 constructor
 · rintro⟨a,b⟩; exact⟨a,fun j hj=>b j (by omega) (by omega)⟩
 · rintro⟨a,b⟩; exact⟨a,fun j _ hj=>b j (by omega)⟩
theorem PA {w:Ar} {r:List Int}:Ln w r=true↔Bc w=0∧E5 w r∧Gy w r=[]:=by
 unfold Ln
 rw [Zap,Zap,Aib,decide_eq_true_eq,decide_eq_true_eq]
theorem AbH {w:Ar} {r:List Int} (h:E5 w r) (i:Nat) : -1≤r.getD i (-1)∧(r.getD i (-1)<(w.drivers.length:Int)∨r.getD i (-1)=-1):=by
 rcases AoA r i (-1) with hm | hm
 · have:=h.2 _ hm; omega
 · omega
theorem AlI (w:Ar) (r:List Int) (day:Int) (d:AP):∀ (l:List AP)(i:Nat)(st:List Ay×List A1),D7 w r day i st (l++[d])=DC w r day (D7 w r day i st l) (i+l.length) d
 | [],i,st=>by simp [D7]
 | x::l,i,st=>by
  simp only [ZaP,D7]
  rw [AlI w r day d l (i+1)]
  rw [show i+1+l.length=i+(x::l).length by simp; omega]
theorem AmK {w:Ar} {r:List Int} {day:Int} {st:List Ay×List A1} {i:Nat} {d:AP} (h:r.getD i (-1)=-1):DC w r day st i d=st:=by
 unfold DC
 rw [h]
 cases decide (d.day=day) <;> rfl
theorem AlJ {w w':Ar} (h1:w'.rest=w.rest) (h2:w'.run=w.run) {k i:Int} (h3:A6 w'.drivers k=A6 w.drivers k) (d:AP) (s:A1):Sj w' k i d s=Sj w k i d s:=by
 have hr:∀ j,It w' k d s j=It w k d s j:=fun j=>by
  match j with
  | 0=>show(match A6 w'.drivers k with | some v=>_ | none=>true)=(match A6 w.drivers k with | some v=>_ | none=>true); rw [h3]
  | 1=>rfl
  | 2=>rfl
  | 3=>show(bif !decide (s.day=d.day) then decide (_≥w'.rest) else true)=(bif !decide (s.day=d.day) then decide (_≥w.rest) else true); rw [h1]
  | j+4=>show(bif !decide (s.day=d.day) then decide (_≤w'.run) else true)=(bif !decide (s.day=d.day) then decide (_≤w.run) else true); rw [h2]
 unfold Sj Ah6
 simp only [hr]
theorem AqD {w w':Ar} (h1:w'.rest=w.rest) (h2:w'.run=w.run) (h3:w'.drivers=w.drivers) {r r':List Int} {i:Nat} (hr:r'.getD i (-1)=r.getD i (-1)) (day:Int) (st:List Ay×List A1) (d:AP):DC w' r' day st i d=DC w r day st i d:=by
 unfold DC
 rw [hr,AlJ h1 h2 (by rw [h3])]
theorem AlK {w w':Ar} (h1:w'.rest=w.rest) (h2:w'.run=w.run) (h3:w'.drivers=w.drivers) {r r':List Int} (hr:∀ i,r'.getD i (-1)=r.getD i (-1)) (day:Int):∀ (l:List AP)(i:Nat)(st:List Ay×List A1),D7 w' r' day i st l=D7 w r day i st l
 | [],_,_=>rfl
 | d::l,i,st=>by
  simp only [D7]
  rw [AqD h1 h2 h3 (hr i),AlK h1 h2 h3 hr day l]
theorem AlL (r:List Int) (i:Nat):(r++[-1]).getD i (-1)=r.getD i (-1):=by
 simp only [ZaO]
 by_cases h:i<r.length
 · rw [Zat h]
 · rw [Zbb (by omega),Za3 (by omega:r.length≤i)]
   cases h2:i-r.length with
   | zero=>rfl
   | succ m=>rfl
theorem Ait {w:Ar} (d:AP) {r:List Int} (hl:r.length=w.duties.length):∀ (k day:Nat)(st:List Ay×List A1),CX (Lo w d) (r++[-1]) k day st=CX w r k day st
 | 0,_,_=>rfl
 | k+1,day,st=>by
  simp only [CX]
  have:D7 (Lo w d) (r++[-1]) (day:Int) 0 st (Lo w d).duties=D7 w r (day:Int) 0 st w.duties:=by
   show D7 (Lo w d) (r++[-1]) (day:Int) 0 st (w.duties++[d])=_
   rw [AlI,AmK (by rw [AlL,ZaO,Za3 (by omega)]; rfl)]
   exact AlK (w:=w) (w':=Lo w d) rfl rfl rfl (AlL r) _ _ _ _
  rw [this,Ait d hl k]
theorem AqE {w:Ar} {d:AP} {r:List Int} (h:Ln w r=true) (hw:Bc (Lo w d)=0):Ln (Lo w d) (r++[-1])=true:=by
 obtain⟨h1,h2,h3⟩:=PA.1 h
 refine PA.2 ⟨hw,⟨by simp [Lo,h2.1],fun x hx=>?_⟩,?_⟩
 · rcases Zam.1 hx with hx | hx
   · exact h2.2 x hx
   · rw [Zaw.1 hx]; exact⟨by omega,by omega⟩
 · obtain⟨b1,b2⟩:=P9.1 h3
   have e:=Ait d h2.1 7 0 ([],AW w)
   refine P9.2 ?_
   show(CX (Lo w d) (r++[-1]) 7 0 ([],AW w)).1=[]∧_
   rw [show AW (Lo w d)=AW w from rfl,e]
   exact⟨b1,b2⟩
def Aiu (n:Nat) (a b:List A1):Prop:=a.length=6∧b.length=6∧(∀ k:Nat,k<n→a.getD k OH=b.getD k OH)∧(a.getD n OH).used=0
theorem Atn {w w':Ar} (h1:w'.rest=w.rest) (h2:w'.run=w.run) {x:AJ} (h3:w'.drivers=w.drivers++[x]) {r:List Int} (hr:∀ i:Nat,-1≤r.getD i (-1)∧r.getD i (-1)<(w.drivers.length:Int)) (day:Int) {st st':List Ay×List A1} (hs:Aiu w.drivers.length st'.2 st.2) (he:st'.1=st.1) (i:Nat) (d:AP):(DC w' r day st' i d).1=(DC w r day st i d).1∧Aiu w.drivers.length (DC w' r day st' i d).2 (DC w r day st i d).2:=by
 unfold DC
 cases decide (d.day=day) with
 | false=>exact⟨he,hs⟩
 | true =>
  obtain⟨b0,b1⟩:=hr i
  by_cases hn:r.getD i (-1)=-1
  · rw [Zaf hn]; exact⟨he,hs⟩
  · rw [Zae hn]
    simp only [Zab,Zad]
    obtain⟨k,hk⟩:∃ k:Nat,r.getD i (-1)=k:=⟨(r.getD i (-1)).toNat,by omega⟩
    rw [hk]
    rw [hk] at b1
    rw [show((k:Int)).toNat=k from rfl]
    have hkn:k<w.drivers.length:=by omega
    obtain⟨l1,l2,hall,hu⟩:=hs
    have hi:A6 w'.drivers (k:Int)=A6 w.drivers (k:Int):=by
     show w'.drivers[k]? = w.drivers[k]?
     rw [h3,Zat hkn]
    rw [hall k hkn,AlJ h1 h2 hi,he]
    refine⟨rfl,by simp [l1],by simp [l2],fun j hj=>?_,?_⟩
    · rw [AbG,AbG]
      by_cases hjk:k=j
      · by_cases hk6:k<6
        · rw [if_pos ⟨hjk,by omega⟩,if_pos ⟨hjk,by omega⟩]
        · rw [if_neg fun h=>hk6 (by omega),if_neg fun h=>hk6 (by omega)]
          exact hall j hj
      · rw [if_neg fun h=>hjk h.1,if_neg fun h=>hjk h.1]
        exact hall j hj
    · rw [AbG,if_neg fun h=>by omega]
      exact hu
theorem AoB {w w':Ar} (h1:w'.rest=w.rest) (h2:w'.run=w.run) {x:AJ} (h3:w'.drivers=w.drivers++[x]) {r:List Int} (hr:∀ i:Nat,-1≤r.getD i (-1)∧r.getD i (-1)<(w.drivers.length:Int)) (day:Int):∀ (l:List AP)(i:Nat)(st st':List Ay×List A1),Aiu w.drivers.length st'.2 st.2→st'.1=st.1→(D7 w' r day i st' l).1=(D7 w r day i st l).1∧Aiu w.drivers.length (D7 w' r day i st' l).2 (D7 w r day i st l).2
 | [],i,st,st',hs,he=>⟨he,hs⟩
 | d::l,i,st,st',hs,he=>by
  obtain⟨a,b⟩:=Atn h1 h2 h3 hr day hs he i d
  exact AoB h1 h2 h3 hr day l (i+1) _ _ b a
theorem AlM {w:Ar} {k0 off:Int} {r:List Int} (hr:∀ i:Nat,-1≤r.getD i (-1)∧r.getD i (-1)<(w.drivers.length:Int)):∀ (k day:Nat)(st st':List Ay×List A1),Aiu w.drivers.length st'.2 st.2→st'.1=st.1→(CX (JH w k0 off) r k day st').1=(CX w r k day st).1∧Aiu w.drivers.length (CX (JH w k0 off) r k day st').2 (CX w r k day st).2
 | 0,_,_,_,hs,he=>⟨he,hs⟩
 | k+1,day,st,st',hs,he=>by
  simp only [CX]
  obtain⟨a,b⟩:=AoB (w:=w) (w':=JH w k0 off) rfl rfl rfl hr (day:Int) w.duties 0 st st' hs he
  exact AlM hr k (day+1) _ _ b a
theorem AqF {w:Ar} {k0 off:Int} (h:w.drivers.length<6):Aiu w.drivers.length (AW (JH w k0 off)) (AW w):=by
 refine⟨R1 (by simp [JH]; omega),R1 (by omega),fun k hk=>?_,?_⟩
 · unfold AW JH
   simp only [ZaO]
   rw [Zat (by simp; omega),Zat (by simp; omega),List.map_append,Zat (by simp; omega)]
 · unfold AW JH
   simp only [ZaO]
   rw [Zat (by simp),List.map_append,Zbb (by simp)]
   simp
theorem AmL {w:Ar} {k0 off:Int} {r:List Int} (h:Ln w r=true) (hw:Bc (JH w k0 off)=0) (hh:w.hours=3000):Ln (JH w k0 off) r=true:=by
 obtain⟨h1,h2,h3⟩:=PA.1 h
 have hl:w.drivers.length<6:=by
  have:=(B9 hw).2
  simp [JH] at this
  omega
 by_cases hr:∀ i:Nat,-1≤r.getD i (-1)∧r.getD i (-1)<(w.drivers.length:Int)
 · refine PA.2 ⟨hw,⟨h2.1,fun x hx=>by have:=h2.2 x hx; refine⟨this.1,?_⟩; simp [JH]; omega⟩,?_⟩
   obtain⟨b1,b2⟩:=P9.1 h3
   obtain⟨e1,e2⟩:=AlM (k0:=k0) (off:=off) hr 7 0 ([],AW w) ([],AW (JH w k0 off)) (AqF hl) rfl
   refine P9.2 ⟨by rw [e1]; exact b1,fun j hj=>?_⟩
   have hj':j<w.drivers.length+1:=by simpa [JH] using hj
   by_cases hjn:j<w.drivers.length
   · rw [e2.2.2.1 j hjn]; exact b2 j hjn
   · have:j=w.drivers.length:=by omega
     rw [this,e2.2.2.2,show(JH w k0 off).hours=3000 from hh]; omega
 · exact absurd (fun i=>by have:=AbH h2 i; exact⟨this.1,by omega⟩) hr
def Uq (s:An):Prop:=Ln s.week s.roster=true
theorem AmM:Uq AC:=by unfold Uq; decide
theorem AoC {s:An} (hg:Eo s) (h:Uq s) {f:Int} {l:List Int} (h0:(Br s f l).2=0):Uq (Br s f l).1:=by
 unfold Br at h0 ⊢
 split at h0
 · by_cases q0:f=189
   · rw [if_pos q0] at h0 ⊢; rw [R3 h0]; exact h
   rw [if_neg q0] at h0 ⊢
   by_cases q0:f=190
   · rw [if_pos q0] at h0 ⊢; rw [R3 h0]; exact h
   rw [if_neg q0] at h0 ⊢
   by_cases q0:f=191
   · rw [if_pos q0] at h0 ⊢; rw [R3 h0]; exact h
   rw [if_neg q0] at h0 ⊢
   by_cases q0:f=192
   · rw [if_pos q0] at h0 ⊢; rw [R3 h0]; exact h
   rw [if_neg q0] at h0 ⊢
   by_cases q0:f=193
   · rw [if_pos q0] at h0 ⊢; rw [(Aih h0).2.2.2.2]; exact h
   rw [if_neg q0] at h0 ⊢
   by_cases q0:f=194
   · rw [if_pos q0] at h0 ⊢; obtain⟨_,_,_,e,_⟩:=Ase h0; rw [e]; exact h
   rw [if_neg q0] at h0 ⊢
   by_cases q0:f=195
   · rw [if_pos q0] at h0 ⊢; rw [(W8 h0).1]; exact h
   rw [if_neg q0] at h0 ⊢
   by_cases q0:f=196
   · rw [if_pos q0] at h0 ⊢; rw [(W8 h0).1]; exact h
   rw [if_neg q0] at h0 ⊢
   by_cases q0:f=197
   · rw [if_pos q0] at h0 ⊢; rw [(W8 h0).1]; exact h
   rw [if_neg q0] at h0 ⊢
   by_cases q0:f=198
   · rw [if_pos q0] at h0 ⊢
     unfold Adv at h0 ⊢
     split at h0
     · rename_i c
       rw [if_pos c]
       exact AmL h c hg.hours
     · rename_i c; exact absurd h0 c
   rw [if_neg q0] at h0 ⊢
   by_cases q0:f=199
   · rw [if_pos q0] at h0 ⊢
     unfold Adw at h0 ⊢
     split at h0
     · rename_i c
       rw [if_pos c]
       exact AqE h c
     · rename_i c; exact absurd h0 c
   rw [if_neg q0] at h0 ⊢
   unfold Adx at h0 ⊢
   split at h0
   · rename_i c1
     rw [if_pos c1]
     split at h0
     · rename_i c2
       rw [if_pos c2]
       exact c2
     · cases h0
   · cases h0
 · cases h0
theorem AoD {s:An} (hg:Eo s) (h:Uq s) (t:ByteArray):Uq (Cf s t).1:=by
 by_cases h0:(Cf s t).2=0
 · obtain⟨y,_,hw,e⟩:=ST h0
   rw [e]; exact AoC hg h hw
 · rw [AbD h0]; exact h
def AoE (a b:Ag):Prop:=CQ a≠CQ b∧(a.machine=b.machine→(a.seq<b.seq→a.minute≤b.minute)∧(b.seq<a.seq→b.minute≤a.minute))
theorem AoE.symm {a b:Ag} (h:AoE a b):AoE b a:=⟨fun e=>h.1 e.symm,fun e=>⟨(h.2 e.symm).2,(h.2 e.symm).1⟩⟩
theorem AuW {a b:Ag}:CQ a≠CQ b↔¬ (a.machine=b.machine∧a.seq=b.seq):=by simp [CQ]
abbrev Ato (l:List Ag):Prop:=l.Pairwise fun a b=>CQ a≠CQ b
theorem Atp {m:List (NM×Ag)} {k:NM}:Dm AM m k=false↔El AM m k=none:=by
 unfold Dm
 cases El AM m k <;> simp
theorem AuX:∀ (l:List Ag)(m:List (NM×Ag))(o:List Ag),Ato l→(∀ a∈l,Dm AM m (CQ a)=false)→Ak5 m o l=some (o++l)
 | [],m,o,_,_=>by simp [Ak5]
 | r::l,m,o,hd,hm=>by
  obtain⟨h1,h2⟩:=ZaW.1 hd
  unfold Ak5
  rw [hm r (by simp),Zad,AuX l _ _ h2 fun a ha=>?_]
  · simp
  · cases hb:Dm AM (JI AM m (CQ r) r) (CQ a) with
    | false=>rfl
    | true =>
     rcases(Yw P6 _ _ _ _).1 hb with h | h
     · exact absurd h (h1 a ha)
     · rw [hm a (by simp [ha])] at h; cases h
theorem Asi:∀ (l:List Ag)(m:List (NM×Ag))(o:List Ag)(r:Ag),Ato l→(∀ a∈l,Dm AM m (CQ a)=false)→((∃ d,El AM m (CQ r)=some d∧d≠r)∨∃ a∈l,CQ a=CQ r∧a≠r)→Ak5 m o (l++[r])=none
 | [],m,o,r,_,_,h=>by
  rcases h with⟨d,h1,h2⟩ | ⟨a,h,_⟩
  · have hh:Dm AM m (CQ r)=true:=by unfold Dm; rw [h1]; rfl
    have hs:BA (AY AM m (CQ r) zR) r=false:=by
     have e:AY AM m (CQ r) zR=d:=by unfold AY; rw [h1]; rfl
     rw [e]
     cases hb:BA d r with
     | false=>rfl
     | true=>exact absurd (IQ.1 hb) h2
    show Ak5 m o [r]=none
    unfold Ak5
    rw [hh,Zab,hs]; rfl
  · simp at h
 | x::l,m,o,r,hd,hm,h=>by
  obtain⟨h1,h2⟩:=ZaW.1 hd
  show Ak5 m o (x::(l++[r]))=none
  unfold Ak5
  rw [hm x (by simp),Zad]
  refine Asi l _ _ r h2 (fun a ha=>?_) ?_
  · cases hb:Dm AM (JI AM m (CQ x) x) (CQ a) with
    | false=>rfl
    | true =>
     rcases(Yw P6 _ _ _ _).1 hb with h | h
     · exact absurd h (h1 a ha)
     · rw [hm a (by simp [ha])] at h; cases h
  · rcases h with⟨d,e1,e2⟩ | ⟨a,ha,e1,e2⟩
    · left
      refine⟨d,?_,e2⟩
      rw [KP P6,if_neg ?_]
      · exact e1
      · intro hx
        have:=hm x (by simp)
        rw [hx] at this
        rw [Atp.1 this] at e1; cases e1
    · rcases Zal.1 ha with rfl | ha
      · left
        exact⟨a,by rw [KP P6,if_pos e1],e2⟩
      · exact .inr ⟨a,ha,e1,e2⟩
theorem Atq {a b:Ag}:Adq a b=true↔a.machine<b.machine∨(a.machine=b.machine∧a.seq≤b.seq):=by simp [Adq]
theorem Atr (a b c:Ag) (h1:Adq a b=true) (h2:Adq b c=true):Adq a c=true:=by
 rw [Atq] at *; omega
theorem Ats (a b:Ag) (h:Adq a b=false):Adq b a=true:=by
 have : ¬ Adq a b=true:=by rw [h]; simp
 rw [Atq] at *; omega
theorem AwU (l:List Ag):(Le Adq l).Pairwise fun a b=>Adq a b=true:=RE Atr Ats l
theorem AoF:∀ {l:List Ag},l.Pairwise (fun a b=>Adq a b=true)→(Aaf l=true↔l.Pairwise fun a b=>a.machine=b.machine→a.minute≤b.minute)
 | [],_=>by simp [Aaf]
 | [a],_=>by simp [Aaf]
 | a::b::r,hs=>by
  obtain⟨h1,h2⟩:=ZaW.1 hs
  have ih:=AoF h2
  have hb:(!Au4 a b)=true↔(a.machine=b.machine→a.minute≤b.minute):=by
   unfold Au4
   simp only [Bool.not_eq_true',Bool.and_eq_false_iff,decide_eq_false_iff_not]
   constructor
   · rintro(h | h) e
     · exact absurd e h
     · omega
   · intro h
     by_cases e:a.machine=b.machine
     · right; have:=h e; omega
     · exact .inl e
  show(!Au4 a b && Aaf (b::r))=true↔_
  rw [Zap,hb,ih]
  constructor
  · rintro⟨p,q⟩
    refine ZaW.2 ⟨fun c hc=>?_,q⟩
    rcases Zal.1 hc with rfl | hc
    · exact p
    · intro e
      have hab:=Atq.1 (h1 b (by simp))
      have hbc:=Atq.1 ((ZaW.1 h2).1 c hc)
      have e2:a.machine=b.machine:=by omega
      have:=p e2
      have:=(ZaW.1 q).1 c hc (by omega)
      omega
  · intro h
    obtain⟨p,q⟩:=ZaW.1 h
    exact⟨p b (by simp),q⟩
theorem AwV {l:List Ag} (hd:Ato l):Aaf (Le Adq l)=true↔l.Pairwise AoE:=by
 have hp:=P0 (le:=Adq) l
 have hs:=AwU l
 have hd':Ato (Le Adq l):=(List.Perm.pairwise_iff (fun {a b} (h:CQ a≠CQ b)=>h.symm) hp).2 hd
 rw [AoF hs,← List.Perm.pairwise_iff (fun {a b} (h:AoE a b)=>h.symm) hp]
 constructor
 · intro h
   refine(hs.and (hd'.and h)).imp ?_
   rintro a b ⟨p,q,s⟩
   refine⟨q,fun e=>⟨fun _=>s e,fun hlt=>?_⟩⟩
   rw [Atq] at p
   omega
 · intro h
   refine(hs.and (hd'.and h)).imp ?_
   rintro a b ⟨p,q,s⟩ e
   rw [Atq] at p
   rw [AuW] at q
   exact(s.2 e).1 (by omega)
structure V9 (l:List Ag):Prop where
 cmp:l.Pairwise AoE
 right:∀ r∈l,Bp r=true
 len:l.length≤60
theorem V9.dist {l:List Ag} (h:V9 l):Ato l:=h.cmp.imp fun h=>h.1
theorem AbI {α:Type} {R:α→α→Prop} {l:List α} {x:α}:(l++[x]).Pairwise R↔l.Pairwise R∧∀ a∈l,R a x:=by
 rw [List.pairwise_append]
 simp
open Classical in
theorem AlN {l:List Ag} (h:V9 l) {r:Ag} (hn:l.any (BA r)=false):NZ [l,[r]]=if Bp r=false then 1 else if ¬ ∀ a∈l,AoE a r then 6 else if 60≤l.length then 3 else 0:=by
 have hl:=h.len
 have hne:∀ a∈l,a≠r:=fun a ha e=>by
  have:l.any (BA r)=true:=ZaR.2 ⟨a,ha,IQ.2 e.symm⟩
  rw [this] at hn; cases hn
 have hc:Wa [l,[r]]=if Bp r=false then 1 else 0:=by
  unfold Wa
  have e1:l.all Bp=true:=Za8.2 h.right
  rw [if_neg (by simp)]
  simp only [ZaN,List.all_nil,Bool.and_true,Za6,Zbo,e1,ZaD]
  rw [Zaf hl]
  cases Bp r <;> rfl
 unfold NZ Ul
 rw [hc]
 cases hr:Bp r with
 | false=>simp
 | true =>
  simp only [Bool.true_eq_false,if_false,ne_eq,not_true_eq_false]
  have hf:([l,[r]]:List (List Ag)).flatten=l++[r]:=by simp
  rw [hf]
  by_cases hw:∀ a∈l,CQ a≠CQ r
  · have hd:Ato (l++[r]):=AbI.2 ⟨h.dist,hw⟩
    rw [AuX _ _ _ hd (fun a _=>rfl)]
    simp only [Zau]
    have hoc:=AwV hd
    by_cases hcm:∀ a∈l,AoE a r
    · rw [hoc.2 (AbI.2 ⟨h.cmp,hcm⟩),Zab]
      have e6:(if ¬ ∀ a∈l,AoE a r then(6:Int) else if 60≤l.length then 3 else 0)=if 60≤l.length then 3 else 0:=if_neg fun h=>h hcm
      rw [e6]
      simp only [W5,Zaz,Za6,Zbo]
      by_cases h60:60≤l.length
      · rw [if_pos h60,if_pos (by omega)]
      · rw [if_neg h60,if_neg (by omega)]
    · have:Aaf (Le Adq (l++[r]))=false:=by
       cases ho:Aaf (Le Adq (l++[r])) with
       | false=>rfl
       | true=>exact absurd (AbI.1 (hoc.1 ho)).2 hcm
      rw [this,Zad,if_pos hcm]
  · have hcm : ¬ ∀ a∈l,AoE a r:=fun hh=>hw fun a ha=>(hh a ha).1
    rw [if_pos hcm]
    have:∃ a∈l,CQ a=CQ r:=by
     refine Classical.byContradiction fun hh=>hw fun a ha e=>hh ⟨a,ha,e⟩
    obtain⟨a,ha,e⟩:=this
    rw [Asi l [] [] r h.dist (fun a _=>rfl) (.inr ⟨a,ha,e,hne a ha⟩)]
theorem AwW {s:An} (h:V9 s.records) {r:Ag}:(Nc s r).2=0↔Bp r=true∧(∀ a∈s.records,AoE a r)∧s.records.length<60:=by
 unfold Nc
 cases hs:s.records.any (BA r) with
 | true =>
  simp only [if_true]
  constructor
  · intro h; cases h
  · rintro⟨_,h2,_⟩
    obtain⟨a,ha,e⟩:=ZaR.1 hs
    exact absurd rfl ((IQ.1 e▸h2 a ha).1)
 | false =>
  have hm:=AlN h hs
  simp only [Za2,if_false]
  constructor
  · intro h0
    have hz:NZ [s.records,[r]]=0:=by
     by_cases c:NZ [s.records,[r]]=0
     · exact c
     · rw [if_neg c] at h0; exact absurd h0 c
    rw [hm] at hz
    by_cases c1:Bp r=false
    · rw [if_pos c1] at hz; cases hz
    · rw [if_neg c1] at hz
      by_cases c2:∀ a∈s.records,AoE a r
      · rw [if_neg (fun h=>h c2)] at hz
        by_cases c3:60≤s.records.length
        · rw [if_pos c3] at hz; cases hz
        · exact⟨by simpa using c1,c2,by omega⟩
      · rw [if_pos c2] at hz; cases hz
  · rintro⟨p,q,t⟩
    have hz:NZ [s.records,[r]]=0:=by
     rw [hm,if_neg (by simp [p]),if_neg (fun h=>h q),if_neg (by omega)]
    rw [if_pos hz]
theorem Ayp {s:An} (h:V9 s.records) {r:Ag} (h0:(Nc s r).2=0):V9 (s.records++[r]):=by
 obtain⟨p,q,t⟩:=(AwW h).1 h0
 refine⟨AbI.2 ⟨h.cmp,q⟩,fun a ha=>?_,by simp; omega⟩
 rcases Zam.1 ha with ha | ha
 · exact h.right a ha
 · rw [Zaw.1 ha]; exact p
def Ad1 (f:Int):List Int→Ag
 | [a,b,c,d,e]=>if f=195 then Ag.mk a b c (IK.mk 0) d e else if f=196 then Ag.mk a b c (IK.mk 1) d 0 else Ag.mk a b c (IK.mk 2) d e
 | _=>zR
def AbJ (t:ByteArray):Bool:=match BQ t with
 | some (f,_)=>decide (195≤f) && decide (f≤197)
 | none=>false
def AoG (t:ByteArray):Ag:=match BQ t with
 | some (f,l)=>if 195≤f∧f≤197 then Ad1 f l else zR
 | none=>zR
theorem AuY {s:An} {t:ByteArray} (hc:AbJ t=true):((Cf s t).2=(Nc s (AoG t)).2)∧((Cf s t).2=0→(Cf s t).1={ s with records:=s.records++[AoG t] }):=by
 unfold AbJ at hc
 unfold Cf AoG
 cases hp:BQ t with
 | none=>rw [hp] at hc; cases hc
 | some y =>
  obtain⟨f,l⟩:=y
  rw [hp] at hc
  simp only at hc ⊢
  have hf:195≤f∧f≤197:=by simpa using hc
  obtain⟨_,_,h5⟩:=AuU hp
  rw [if_pos hf]
  have hw:Br s f l=Nc s (Ad1 f l):=by
   match l,h5 with
   | [a,b,c,d,e],_ =>
    unfold Br Ad1
    simp only
    rw [if_neg (by omega),if_neg (by omega),if_neg (by omega),if_neg (by omega),if_neg (by omega),if_neg (by omega)]
    by_cases q:f=195
    · rw [if_pos q,if_pos q]
    rw [if_neg q,if_neg q]
    by_cases q:f=196
    · rw [if_pos q,if_pos q]
    rw [if_neg q,if_neg q,if_pos (show f=197 by omega)]
  rw [hw]
  by_cases h0:(Nc s (Ad1 f l)).2=0
  · rw [if_pos h0]
    exact⟨rfl,fun _=>(W8 h0).1⟩
  · rw [if_neg h0]
    exact⟨rfl,fun h=>absurd h h0⟩
theorem Att {s:An} {f:Int} {l:List Int} (hf : ¬ (195≤f∧f≤197)) (h0:(Br s f l).2=0):(Br s f l).1.records=s.records:=by
 unfold Br at h0 ⊢
 split at h0
 · by_cases q0:f=189
   · rw [if_pos q0] at h0 ⊢; rw [R3 h0]
   rw [if_neg q0] at h0 ⊢
   by_cases q0:f=190
   · rw [if_pos q0] at h0 ⊢; rw [R3 h0]
   rw [if_neg q0] at h0 ⊢
   by_cases q0:f=191
   · rw [if_pos q0] at h0 ⊢; rw [R3 h0]
   rw [if_neg q0] at h0 ⊢
   by_cases q0:f=192
   · rw [if_pos q0] at h0 ⊢; rw [R3 h0]
   rw [if_neg q0] at h0 ⊢
   by_cases q0:f=193
   · rw [if_pos q0] at h0 ⊢; rw [(Aih h0).2.2.2.2]
   rw [if_neg q0] at h0 ⊢
   by_cases q0:f=194
   · rw [if_pos q0] at h0 ⊢; obtain⟨_,_,_,e,_⟩:=Ase h0; rw [e]
   rw [if_neg q0,if_neg (by omega),if_neg (by omega),if_neg (by omega)]
   rw [if_neg q0,if_neg (by omega),if_neg (by omega),if_neg (by omega)] at h0
   by_cases q0:f=198
   · rw [if_pos q0]; unfold Adv; split <;> rfl
   rw [if_neg q0]
   by_cases q0:f=199
   · rw [if_pos q0]; unfold Adw; split <;> rfl
   rw [if_neg q0]
   unfold Adx
   split
   · split <;> rfl
   · rfl
 · cases h0
theorem AqG {s:An} {t:ByteArray} (h:AbJ t=false):(Cf s t).1.records=s.records:=by
 by_cases h0:(Cf s t).2=0
 · obtain⟨y,hy,hw,e⟩:=ST h0
   unfold AbJ at h
   rw [hy] at h
   rw [e]
   exact Att (fun hc=>by simp [hc.1,hc.2] at h) hw
 · rw [AbD h0]
theorem AqH {s:An} (h:V9 s.records) (t:ByteArray):V9 (Cf s t).1.records:=by
 cases hb:AbJ t with
 | false=>rw [AqG hb]; exact h
 | true =>
  obtain⟨e1,e2⟩:=AuY (s:=s) hb
  by_cases h0:(Cf s t).2=0
  · rw [e2 h0]
    exact Ayp h (by rw [← e1]; exact h0)
  · rw [AbD h0]; exact h
theorem AoH:V9 AC.records:=⟨List.Pairwise.nil,by simp [AC],by simp [AC]⟩
theorem AuZ {p:ByteArray} {x:F9} (h:El Ep Dk p=some x):(p=B [115,97,108,101]∧x.do_.f=195∧x.many=5)∨(p=B [115,121,110,99]∧x.do_.f=196∧x.many=4)∨(p=B [99,108,111,115,101]∧x.do_.f=197∧x.many=5)∨(p≠B [115,97,108,101]∧p≠B [115,121,110,99]∧p≠B [99,108,111,115,101]∧¬ (195≤x.do_.f∧x.do_.f≤197)):=by
 have:=P7 Ep (fun a b h=>(SR a b).1 h) _ _ _ h
 simp only [Dk,Zal,Prod.mk.injEq,List.not_mem_nil,or_false] at this
 rcases this with⟨rfl,rfl⟩ | ⟨rfl,rfl⟩ | ⟨rfl,rfl⟩ | ⟨rfl,rfl⟩ | ⟨rfl,rfl⟩ | ⟨rfl,rfl⟩ | ⟨rfl,rfl⟩ | ⟨rfl,rfl⟩ | ⟨rfl,rfl⟩ | ⟨rfl,rfl⟩ | ⟨rfl,rfl⟩ | ⟨rfl,rfl⟩ <;> first | exact .inl ⟨rfl,rfl,rfl⟩ | exact .inr (.inl ⟨rfl,rfl,rfl⟩) | exact .inr (.inr (.inl ⟨rfl,rfl,rfl⟩)) | exact .inr (.inr (.inr ⟨by decide,by decide,by decide,by decide⟩))
theorem Atu {n:Nat} {t:ByteArray} (ht:t.size≤1000000) (hn:t.size+30≤n):Sg n t=some (AoG t,AbJ t,()):=by
 unfold Sg
 rw [AbF ht hn,Zaa]
 unfold Aaj AbJ AoG
 cases hp:Cs t with
 | nil=>unfold Cs at hp; exact absurd (Zb0.1 hp) (No 32 _)
 | cons p r =>
  rw [Iu hp]
  simp only
  cases hw:El Ep Dk p with
  | none=>rfl
  | some x =>
   simp only
   by_cases hl:((r.length+1:Nat):Int)=x.many+1
   · rw [if_pos hl,if_pos hl]
     cases hv:HJ r with
     | none=>rfl
     | some vs =>
      have hlen:=Pu hv
      simp only [Aim,Option.map_some,ZaC,Zad]
      rcases AuZ hw with⟨rfl,hf,hm⟩ | ⟨rfl,hf,hm⟩ | ⟨rfl,hf,hm⟩ | ⟨h1,h2,h3,hf⟩
      · rw [hm] at hl
        obtain⟨a,b,c,d,e,rfl⟩:∃ a b c d e,vs=[a,b,c,d,e]:=by
         rcases vs with _ | ⟨a,_ | ⟨b,_ | ⟨c,_ | ⟨d,_ | ⟨e,_ | ⟨f,g⟩⟩⟩⟩⟩⟩ <;> first | exact⟨_,_,_,_,_,rfl⟩ | (simp at hlen; omega)
        rw [hf]; rfl
      · rw [hm] at hl
        obtain⟨a,b,c,d,rfl⟩:∃ a b c d,vs=[a,b,c,d]:=by
         rcases vs with _ | ⟨a,_ | ⟨b,_ | ⟨c,_ | ⟨d,_ | ⟨e,f⟩⟩⟩⟩⟩ <;> first | exact⟨_,_,_,_,rfl⟩ | (simp at hlen; omega)
        rw [hf]; rfl
      · rw [hm] at hl
        obtain⟨a,b,c,d,e,rfl⟩:∃ a b c d e,vs=[a,b,c,d,e]:=by
         rcases vs with _ | ⟨a,_ | ⟨b,_ | ⟨c,_ | ⟨d,_ | ⟨e,_ | ⟨f,g⟩⟩⟩⟩⟩⟩ <;> first | exact⟨_,_,_,_,_,rfl⟩ | (simp at hlen; omega)
        rw [hf]; rfl
      · have hb:(decide (195≤x.do_.f) && decide (x.do_.f≤197))=false:=by
         cases hc:(decide (195≤x.do_.f) && decide (x.do_.f≤197)) with
         | false=>rfl
         | true=>exact absurd (by simpa using hc) hf
        rw [Bs h1,Bs h2,Bs h3,hb,if_neg hf]; rfl
   · rw [if_neg hl,if_neg hl]; rfl
theorem AmN (n:Nat) (x lo hi:Int):Gm n x lo hi=some (Co x lo hi,()):=by
 unfold Gm Co
 show(bif decide (lo≤x) then _ else _)=_
 cases decide (lo≤x) <;> rfl
theorem AbK (n:Nat) (x lo hi:Int):AX n x lo hi=some (Co x lo hi,()):=by
 unfold AX Co
 show(bif decide (lo≤x) then _ else _)=_
 cases decide (lo≤x) <;> rfl
theorem AwX (n:Nat) (x lo hi:Int):Gn n x lo hi=some (Co x lo hi,()):=by
 unfold Gn Co
 show(bif decide (lo≤x) then _ else _)=_
 cases decide (lo≤x) <;> rfl
theorem AqI (n:Nat) (c:A0) (hk:Lk c):Ma n c=some (J0 c,()):=by
 obtain⟨k0,k3⟩:=hk
 have h4:c.kind.n=0∨c.kind.n=1∨c.kind.n=2∨c.kind.n=3:=by omega
 unfold Ma J0 Aqv
 simp only [AmN,Zaa]
 cases Co c.bus 0 99 with
 | false=>rfl
 | true =>
 cases Co c.number 1 999 with
 | false=>rfl
 | true =>
 cases Co c.minute 0 1000000 with
 | false=>rfl
 | true =>
 rcases h4 with h | h | h | h <;> rw [h]
 · cases Co c.part 0 15 <;> rfl
 · cases Co c.part 0 15 <;> rfl
 · cases decide (c.part=0) <;> cases Co c.sg 1 999 <;> rfl
 · cases decide (c.part=0) with
   | false=>rfl
   | true=>cases hs:decide (c.sg=0) <;> simp
def JW (a b:A0):Bool:=decide (a.number=b.number) && !En a b
def MM {α:Type} (bad:α→α→Bool):List α→List α→Bool
 | _,[]=>false
 | pre,c::r=>pre.any (bad c) || MM bad (pre++[c]) r
theorem AlO {α:Type} {l:List α} {i k:Nat} (hi:i≤l.length) (hk:k<i):(l.take i).drop k=l[k]::(l.take i).drop (k+1):=by
 have h:k<(l.take i).length:=by rw [ZaK]; omega
 rw [Zaj h,List.getElem_take]
theorem Aiv {l:List A0} {i:Nat} (hi:i<l.length) (hl:l.length≤1000):∀ (n k:Nat),i-k<n→k≤i→Ez n l (i:Int) (k:Int)=some (bif ((l.take i).drop k).any (JW l[i]) then .inr (6,()) else .inl (l,((i:Int),())))
 | 0,_,h,_=>absurd h (Zan _)
 | n+1,k,h,hk=>by
  rw [Ez]
  by_cases hx:k<i
  · have ih:=Aiv hi hl n (k+1) (by omega) (by omega)
    rw [Zaf (show(k:Int)<(i:Int) by omega),Zab,B3 hi,Zaa,B3 (show k<l.length by omega),Zaa,wN k (by omega),AlO (by omega) hx,Zby,ih]
    show(bif decide (l[i].number=l[k].number) then(bif !En l[i] l[k] then(some (.inr (6,())):Option ((List A0×Int×Unit) ⊕ (Int×Unit))) else _) else _)=some (bif (decide (l[i].number=l[k].number) && !En l[i] l[k]) || _ then _ else _)
    cases decide (l[i].number=l[k].number) <;> cases En l[i] l[k] <;> rfl
  · have hd:(l.take i).drop k=[]:=by simp; omega
    rw [Zae (show ¬ (k:Int)<(i:Int) by omega),hd]; rfl
theorem Aiw (l:List A0) (hl:l.length≤1000):∀ (n i:Nat),l.length+(l.length-i)<n→i≤l.length→Hm n l (i:Int)=some (bif MM JW (l.take i) (l.drop i) then .inr (6,()) else .inl ())
 | 0,_,h,_=>absurd h (Zan _)
 | n+1,i,h,hi=>by
  rw [Hm]
  by_cases hx:i<l.length
  · have hd:l.drop i=l[i]::l.drop (i+1):=Zaj hx
    have h3:=Aiv hx hl n 0 (by omega) (by omega)
    rw [show((0:Nat):Int)=0 from rfl,Zar] at h3
    rw [show decide ((i:Int)<(l.length:Int))=true by simp; omega,Zab,h3,Zaa,hd]
    unfold MM
    cases (l.take i).any (JW l[i]) with
    | true=>rfl
    | false =>
     simp only [Zad,Za1,Bool.false_or]
     rw [wN i (by omega),Aiw l hl n (i+1) (by omega) (by omega),ZaQ hx]
  · have hd:l.drop i=[]:=by simp; omega
    rw [show decide ((i:Int)<(l.length:Int))=false by simp; omega,hd]; rfl
theorem Aix:∀ (l pre:List A0)(m:List (Int×A0))(o:List Int),(∀ c∈pre,El Ce m c.number=some c)→(∀ k d,El Ce m k=some d→d∈pre∧d.number=k)→(Aqp m o l=none↔MM JW pre l=true)
 | [],_,_,_,_,_=>by simp [Aqp,MM]
 | c::l,pre,m,o,h1,h2=>by
  unfold Aqp MM
  cases hm:Dm Ce m c.number with
  | true =>
   simp only [Zab]
   obtain⟨d,hd⟩:∃ d,El Ce m c.number=some d:=by
    unfold Dm at hm
    exact Option.isSome_iff_exists.1 hm
   obtain⟨hdp,hdn⟩:=h2 _ _ hd
   have hg:AY Ce m c.number zC=d:=by unfold AY; rw [hd]; rfl
   rw [hg]
   cases hs:En d c with
   | true =>
    have:=SO.1 hs
    subst this
    have hno:pre.any (JW d)=false:=by
     rw [Zbw]
     intro x hx hb
     unfold JW at hb
     rw [Zap] at hb
     have hn:d.number=x.number:=by simpa using hb.1
     have:=h1 x hx
     rw [← hn,hd] at this
     cases this
     rw [SO.2 rfl] at hb
     simp at hb
    simp only [Zab]
    rw [hno,Bool.false_or]
    refine Aix l (pre++[d]) m o (fun x hx=>?_) (fun k x hx=>?_)
    · rcases Zam.1 hx with hx | hx
      · exact h1 x hx
      · rw [Zaw.1 hx]; exact hd
    · obtain⟨p,q⟩:=h2 k x hx
      exact⟨ZaH _ p,q⟩
   | false =>
    have hyes:pre.any (JW c)=true:=by
     rw [ZaR]
     refine⟨d,hdp,?_⟩
     unfold JW
     rw [Zaf hdn.symm]
     cases hc:En c d with
     | false=>rfl
     | true =>
      have:=SO.1 hc
      subst this
      rw [SO.2 rfl] at hs; cases hs
    rw [hyes]
    simp
  | false =>
   simp only [Zad]
   have hno:pre.any (JW c)=false:=by
    rw [Zbw]
    intro x hx hb
    unfold JW at hb
    rw [Zap] at hb
    have hn:c.number=x.number:=by simpa using hb.1
    unfold Dm at hm
    rw [hn,h1 x hx] at hm; cases hm
   rw [hno,Bool.false_or]
   refine Aix l (pre++[c]) _ _ (fun x hx=>?_) (fun k x hx=>?_)
   · rw [KP SQ]
     rcases Zam.1 hx with hx | hx
     · rw [if_neg ?_]
       · exact h1 x hx
       · intro e
         unfold Dm at hm
         rw [e,h1 x hx] at hm; cases hm
     · rw [Zaw.1 hx,if_pos rfl]
   · rw [KP SQ] at hx
     by_cases e:c.number=k
     · rw [if_pos e] at hx
       cases hx
       exact⟨by simp,e⟩
     · rw [if_neg e] at hx
       obtain⟨p,q⟩:=h2 k x hx
       exact⟨ZaH _ p,q⟩
theorem AqJ {n:Nat} {l:List A0} (hk:∀ c∈l,Lk c) (hl:l.length≤1000) (hn:2100<n∨2*l.length+1<n):Pg n l=some (Aoa l,()):=by
 unfold Pg Aoa MK
 by_cases h40:40<l.length
 · rw [show decide ((l.length:Int)>40)=true by simp; omega,Zab,if_pos h40]
 · rw [show decide ((l.length:Int)>40)=false by simp; omega,Zad,if_neg h40]
   obtain⟨s1,s2⟩:=Gx (F:=fun n i=>Hl n l i) (G:=fun n i v0=>(Ma n v0).bind fun v1=>bif !v1.fst then(some (.inr (1,()))) else Hl n l (IntKind.i64.wrap (i+1))) l J0 (l,()) (fun _=>(1,())) 0 (by omega) (fun _ _=>rfl) (fun n i hi _=>by
    rw [AqI n _ (hk _ (Zax hi)),Zaa]
    cases J0 l[i] <;> rfl) (n:=n) (by omega)
   cases ha:l.all J0 with
   | false =>
    obtain⟨k,hk⟩:=s2 ha
    rw [hk,if_pos rfl]; rfl
   | true =>
    have s1:=s1 ha
    rw [s1,if_neg (by simp),Zaa]
    simp only [Za1]
    have h2:=Aiw l hl n 0 (by omega) (by omega)
    rw [show((0:Nat):Int)=0 from rfl,List.take_zero,Zar] at h2
    rw [h2,Zaa]
    have hp:=Aix l [] [] [] (fun c hc=>by cases hc) (fun k d h=>by cases h)
    cases hr:Aqp [] [] l with
    | none=>rw [hp.1 hr]; rfl
    | some y =>
     have:MM JW [] l=false:=by
      cases hb:MM JW [] l with
      | false=>rfl
      | true=>rw [hp.2 hb] at hr; cases hr
     rw [this]; rfl
theorem Atv {n:Nat} {l:List A0} {d:A0} {at_:Int} (hl:l.length≤1000) (hn:l.length<n):RW n l d at_=some (!decide (at_<d.minute) && l.all fun p=>!(decide (p.minute≤at_) && ZG p d),()):=by
 unfold RW
 show(bif decide (at_<d.minute) then _ else _)=_
 cases decide (at_<d.minute) with
 | true=>rfl
 | false =>
  simp only [Zad,Za4,ZaD]
  obtain⟨s1,s2⟩:=Gx (F:=fun n i=>AN n l at_ d i) (G:=fun n i v0=>bif !v0.bus != d.bus then(bif !decide (v0.minute<d.minute) then(bif decide (v0.minute>at_) then(AN n l at_ d (IntKind.i64.wrap (i+1))) else bif decide (v0.kind.n=2) then(bif !decide (v0.sg=d.number) then(bif decide (v0.kind.n=3) then(bif decide (d.kind.n=0) then(some (.inr (d,(false,())))) else AN n l at_ d (IntKind.i64.wrap (i+1))) else AN n l at_ d (IntKind.i64.wrap (i+1))) else some (.inr (d,(false,())))) else bif decide (v0.kind.n=3) then(bif decide (d.kind.n=0) then(some (.inr (d,(false,())))) else AN n l at_ d (IntKind.i64.wrap (i+1))) else AN n l at_ d (IntKind.i64.wrap (i+1))) else AN n l at_ d (IntKind.i64.wrap (i+1))) else AN n l at_ d (IntKind.i64.wrap (i+1))) l (fun p=>!(decide (p.minute≤at_) && ZG p d)) (d,()) (fun _=>(d,(false,()))) 0 (by omega) (fun _ _=>rfl) (fun n i hi _=>by
   generalize l[i]=v
   unfold ZG
   by_cases hm:v.minute≤at_
   · rw [Zaf hm,Zae (show ¬ v.minute>at_ by omega)]
     rw [show(v.kind.n == 2)=decide (v.kind.n=2) from rfl,show(v.sg == d.number)=decide (v.sg=d.number) from rfl,show(v.kind.n == 3)=decide (v.kind.n=3) from rfl,show(d.kind.n == 0)=decide (d.kind.n=0) from rfl]
     cases v.bus != d.bus <;> cases decide (v.minute<d.minute) <;> cases decide (v.kind.n=2) <;> cases decide (v.sg=d.number) <;> cases decide (v.kind.n=3) <;> cases decide (d.kind.n=0) <;> rfl
   · rw [Zae hm,Zaf (show v.minute>at_ by omega)]
     cases v.bus != d.bus <;> cases decide (v.minute<d.minute) <;> rfl) (n:=n) (by omega)
  cases ha:l.all fun p=>!(decide (p.minute≤at_) && ZG p d) with
  | true =>
   have s1:=s1 ha
   rw [s1]; rfl
  | false =>
   obtain⟨k,hk⟩:=s2 ha
   rw [hk]; rfl
theorem Aiy (l:List A0) (hk:∀ c∈l,Lk c) (hl:l.length≤1000) (bus at_:Int) (out:List Int) (m:Int):∀ (n i:Nat)(is:Bool),l.length+(l.length-i)<n→i≤l.length→BM n l bus at_ out m is (i:Int)=some (l,(bus,(at_,(out,(m,(is || (l.drop i).any (fun c=>decide (c.number=m) && Ao7 l bus at_ c),()))))))
 | 0,_,_,h,_=>absurd h (Zan _)
 | n+1,i,is,h,hi=>by
  rw [BM]
  by_cases hx:i<l.length
  · have hd:l.drop i=l[i]::l.drop (i+1):=Zaj hx
    have ih:=fun is=>Aiy l hk hl bus at_ out m n (i+1) is (by omega) (by omega)
    have hkd:=hk _ (Zax hx)
    rw [show decide ((i:Int)<(l.length:Int))=true by simp; omega,Zab,B3 hx,Zaa,wN i (by omega),hd,Zby]
    simp only [Zaa]
    rw [Atv hl (by omega)]
    unfold SH
    simp only [Zaa,ih]
    have hdef:(decide (l[i].kind.n=0) || decide (l[i].kind.n=1))=decide (l[i].kind.n<2):=by
     rw [Bool.eq_iff_iff]
     simp only [ZaM,decide_eq_true_eq]
     have:=hkd.1
     omega
    unfold Ao7
    rw [hdef]
    cases is with
    | true=>simp
    | false =>
     cases decide (l[i].number=m) <;> cases decide (l[i].bus=bus) <;> cases decide (l[i].kind.n<2) <;> simp
  · have hd:l.drop i=[]:=by simp; omega
    rw [show decide ((i:Int)<(l.length:Int))=false by simp; omega,hd]
    simp
def AxU (q:Int→Bool):Nat→Nat→List Int
 | 0,_=>[]
 | k+1,s=>(bif q (s:Int) then [(s:Int)] else [])++AxU q k (s+1)
theorem Asj {q:Int→Bool} {x:Int}:∀ (k s:Nat),x∈AxU q k s↔(s:Int)≤x∧x<(s:Int)+(k:Int)∧q x=true
 | 0,s=>by simp [AxU]; omega
 | k+1,s=>by
  unfold AxU
  rw [Zam,Asj k (s+1)]
  have h1:x∈(bif q (s:Int) then [(s:Int)] else [])↔x=(s:Int)∧q x=true:=by
   cases hq:q (s:Int) with
   | true=>simp; rintro rfl; exact hq
   | false =>
    simp
    rintro rfl
    exact hq
  rw [h1]
  constructor
  · rintro(⟨rfl,h⟩ | ⟨a,b,c⟩)
    · exact⟨by omega,by omega,h⟩
    · exact⟨by omega,by omega,c⟩
  · rintro⟨a,b,c⟩
    by_cases e:x=(s:Int)
    · exact .inl ⟨e,c⟩
    · exact .inr ⟨by omega,by omega,c⟩
def Aiz (l:List A0) (bus at_:Int) (m:Int):Bool:=l.any fun c=>decide (c.number=m) && Ao7 l bus at_ c
theorem Aal (l:List A0) (hk:∀ c∈l,Lk c) (hl:l.length≤40) (bus at_:Int):∀ (n k s:Nat)(out:List Int),s+k=1000→100+k<n→out.length≤s→E0 n l bus at_ out (s:Int)=some (out++AxU (Aiz l bus at_) k s,())
 | 0,_,_,_,_,h,_=>absurd h (Zan _)
 | n+1,k,s,out,hsk,h,ho=>by
  rw [E0]
  cases k with
  | zero =>
   rw [Zae (show ¬ (s:Int)≤999 by omega)]
   simp [AxU]
  | succ k =>
   have h2:=Aiy l hk (by omega) bus at_ out (s:Int) n 0 false (by omega) (by omega)
   rw [show((0:Nat):Int)=0 from rfl,Zar,Bool.false_or] at h2
   rw [show(l.any fun c=>decide (c.number=(s:Int)) && Ao7 l bus at_ c)=Aiz l bus at_ (s:Int) from rfl] at h2
   rw [Zaf (show(s:Int)≤999 by omega),Zab,h2,Zaa]
   simp only
   rw [wN s (by omega),AxU]
   cases Aiz l bus at_ (s:Int) with
   | true =>
    simp only [Zab]
    rw [AK (by simp; omega),Zaa,Aal l hk hl bus at_ n k (s+1) _ (by omega) (by omega) (by simp; omega),ZaF]
   | false =>
    simp only [Zad]
    rw [Aal l hk hl bus at_ n k (s+1) _ (by omega) (by omega) (by omega),Zau]
def PB (l:List A0) (bus at_:Int):List Int:=AxU (Aiz l bus at_) 999 1
theorem AoI {n:Nat} {l:List A0} (hk:∀ c∈l,Lk c) (hl:l.length≤40) (hn:1200<n) (bus at_:Int):Mt n l bus at_=some (PB l bus at_,()):=by
 unfold Mt PB
 have h:=Aal l hk hl bus at_ n 999 1 [] (by omega) (by omega) (by simp)
 rw [show((1:Nat):Int)=1 from rfl,Zau] at h
 rw [h]; rfl
theorem Atw {l:List A0} {bus at_:Int} (h:Aoa l=0) (hb:(Co bus 0 99 && Co at_ 0 1000000)=true) (x:Int):x∈PB l bus at_↔x∈(Gu l bus at_).1:=by
 have hall:∀ c∈l,1≤c.number∧c.number≤999:=fun c hc=>by
  unfold Aoa at h
  cases hr:MK l with
  | inl e=>rw [hr] at h; have:=SP hr; simp only at h; omega
  | inr y =>
   obtain⟨_,ha,_⟩:=Yv hr
   have:=Za8.1 ha c hc
   unfold J0 at this
   simp only [Zap,Cp] at this
   exact this.2.1
 unfold PB
 rw [Asj,AuT h hb]
 unfold Aiz
 rw [ZaR]
 constructor
 · rintro⟨_,_,c,hc,hq⟩
   rw [Zap,decide_eq_true_eq] at hq
   exact⟨c,hc,hq.1,hq.2⟩
 · rintro⟨c,hc,hn,hq⟩
   have:=hall c hc
   exact⟨by omega,by omega,c,hc,by rw [Zap,decide_eq_true_eq]; exact⟨hn,hq⟩⟩
theorem AlP {l:List A0} {bus at_:Int} (h:Aoa l=0) (hb:(Co bus 0 99 && Co at_ 0 1000000)=true):PB l bus at_=[]↔(Gu l bus at_).1=[]:=by
 rw [List.eq_nil_iff_forall_not_mem,List.eq_nil_iff_forall_not_mem]
 exact forall_congr' fun x=>not_congr (Atw h hb x)
theorem AqK (n:Nat) (r:Ag) (hk:YH r):Pd n r=some (Bp r,()):=by
 obtain⟨k0,k2⟩:=hk
 have h4:r.kind.n=0∨r.kind.n=1∨r.kind.n=2:=by omega
 unfold Pd Bp
 simp only [AwX,Zaa]
 cases Co r.machine 0 999 with
 | false=>rfl
 | true =>
 cases Co r.seq 1 9999 with
 | false=>rfl
 | true =>
 cases Co r.minute 0 1000000 with
 | false=>rfl
 | true =>
 rcases h4 with h | h | h <;> rw [h]
 · cases Co r.a 0 99 <;> cases Co r.b 0 10000 <;> rfl
 · cases Co r.a 0 1000000 <;> rfl
 · cases Co r.a 0 9999 <;> cases Co r.b 0 10000000 <;> rfl
theorem Ai0 {lists:List (List Ag)} (hk:∀ l∈lists,∀ r∈l,YH r) {i:Nat} (hi:i<lists.length) (hl:lists[i].length≤1000):∀ (n k:Nat),lists[i].length-k<n→k≤lists[i].length→Ho n lists (i:Int) (k:Int)=some (bif (lists[i].drop k).all Bp then .inl (lists,((i:Int),())) else .inr (1,()))
 | 0,_,h,_=>absurd h (Zan _)
 | n+1,k,h,hkk=>by
  rw [Ho,B3 hi,Zaa]
  by_cases hx:k<lists[i].length
  · have hd:lists[i].drop k=lists[i][k]::lists[i].drop (k+1):=Zaj hx
    rw [show decide ((k:Int)<(lists[i].length:Int))=true by simp; omega,Zab,Zaa,B3 hx,Zaa,AqK n _ (hk _ (Zax hi) _ (Zax hx)),Zaa,hd,ZaN,wN k (by omega),Ai0 hk hi hl n (k+1) (by omega) (by omega)]
    cases Bp lists[i][k] <;> rfl
  · have hd:lists[i].drop k=[]:=by simp; omega
    rw [show decide ((k:Int)<(lists[i].length:Int))=false by simp; omega,hd]; rfl
theorem Ai1 {lists:List (List Ag)} (hk:∀ l∈lists,∀ r∈l,YH r) (hl:lists.length≤1000) (hl2:∀ l∈lists,l.length≤1000):∀ (n i:Nat),1001+(lists.length-i)<n→i≤lists.length→Hp n lists (i:Int)=some (bif (lists.drop i).all (fun l=>l.all Bp) then .inl () else .inr (1,()))
 | 0,_,h,_=>absurd h (Zan _)
 | n+1,i,h,hi=>by
  rw [Hp]
  by_cases hx:i<lists.length
  · have hd:lists.drop i=lists[i]::lists.drop (i+1):=Zaj hx
    have h2:=hl2 _ (Zax hx)
    have h3:=Ai0 hk hx h2 n 0 (by omega) (by omega)
    rw [show((0:Nat):Int)=0 from rfl,Zar] at h3
    rw [show decide ((i:Int)<(lists.length:Int))=true by simp; omega,Zab,h3,Zaa,hd,ZaN]
    cases lists[i].all Bp with
    | false=>rfl
    | true =>
     simp only [Zab,Za1,ZaD]
     rw [wN i (by omega),Ai1 hk hl hl2 n (i+1) (by omega) (by omega)]
  · have hd:lists.drop i=[]:=by simp; omega
    rw [show decide ((i:Int)<(lists.length:Int))=false by simp; omega,hd]; rfl
theorem AqL {n:Nat} {lists:List (List Ag)} (hk:∀ l∈lists,∀ r∈l,YH r) (hl:lists.length≤100) (hl2:∀ l∈lists,l.length≤1000) (hn:1200<n):Ph n lists=some (Wa lists,()):=by
 unfold Ph Wa
 by_cases h6:6<lists.length
 · rw [show decide ((lists.length:Int)>6)=true by simp; omega,if_pos h6]; rfl
 · rw [show decide ((lists.length:Int)>6)=false by simp; omega,if_neg h6,Zad]
   obtain⟨s1,s2⟩:=Gx (F:=fun n i=>Hn n lists i) (G:=fun n i v0=>bif decide ((↑v0.length:Int)>60) then(some (.inr (3,()))) else Hn n lists (IntKind.i64.wrap (i+1))) lists (fun l=>decide (l.length≤60)) (lists,()) (fun _=>(3,())) 0 (by omega) (fun _ _=>rfl) (fun n i hi _=>by
    by_cases hc:lists[i].length≤60
    · rw [Zaf hc,Zae (show ¬ ((lists[i].length:Int)>60) by omega)]; rfl
    · rw [Zae hc,Zaf (show((lists[i].length:Int)>60) by omega)]; rfl) (n:=n) (by omega)
   cases ha:lists.all fun l=>decide (l.length≤60) with
   | false =>
    obtain⟨k,hk⟩:=s2 ha
    rw [hk]; rfl
   | true =>
    rw [s1 ha,Zaa]
    have h2:=Ai1 hk (by omega) hl2 n 0 (by omega) (by omega)
    rw [show((0:Nat):Int)=0 from rfl,Zar] at h2
    simp only [Za1]
    rw [h2]
    cases lists.all fun l=>l.all Bp <;> rfl
def Atx (a b:Ag):Bool:=!BA a b && (decide (a.machine=b.machine) && (decide (a.seq=b.seq) || (decide (a.seq>b.seq) && decide (a.minute<b.minute) || decide (a.seq<b.seq) && decide (a.minute>b.minute))))
theorem AkJ (n:Nat) (a b:Ag):LX n a b=some (Atx a b,()):=by
 show(bif !BA a b then _ else _)=_
 unfold Atx
 rw [show(a.machine != b.machine)=!decide (a.machine=b.machine) from rfl]
 cases BA a b <;> cases decide (a.machine=b.machine) <;> cases decide (a.seq=b.seq) <;> cases decide (a.seq>b.seq) <;> cases decide (a.minute<b.minute) <;> cases decide (a.seq<b.seq) <;> cases decide (a.minute>b.minute) <;> rfl
theorem AoJ {l:List Ag} {i:Nat} (hi:i<l.length) (hl:l.length≤1000):∀ (n k:Nat),i-k<n→k≤i→BO n l (i:Int) (k:Int)=some (bif ((l.take i).drop k).any (Atx l[i]) then .inr (true,()) else .inl (l,((i:Int),())))
 | 0,_,h,_=>absurd h (Zan _)
 | n+1,k,h,hk=>by
  rw [BO]
  by_cases hx:k<i
  · rw [Zaf (show(k:Int)<(i:Int) by omega),Zab,B3 hi,Zaa,B3 (show k<l.length by omega),Zaa,AkJ,Zaa,wN k (by omega),AlO (by omega) hx,Zby,AoJ hi hl n (k+1) (by omega) (by omega)]
    cases Atx l[i] l[k] <;> rfl
  · have hd:(l.take i).drop k=[]:=by simp; omega
    rw [Zae (show ¬ (k:Int)<(i:Int) by omega),hd]; rfl
theorem AoK (l:List Ag) (hl:l.length≤1000):∀ (n i:Nat),l.length+(l.length-i)<n→i≤l.length→BP n l (i:Int)=some (bif MM Atx (l.take i) (l.drop i) then .inr (true,()) else .inl ())
 | 0,_,h,_=>absurd h (Zan _)
 | n+1,i,h,hi=>by
  rw [BP]
  by_cases hx:i<l.length
  · have hd:l.drop i=l[i]::l.drop (i+1):=Zaj hx
    have h3:=AoJ hx hl n 0 (by omega) (by omega)
    rw [show((0:Nat):Int)=0 from rfl,Zar] at h3
    rw [show decide ((i:Int)<(l.length:Int))=true by simp; omega,Zab,h3,Zaa,hd]
    unfold MM
    cases (l.take i).any (Atx l[i]) with
    | true=>rfl
    | false =>
     simp only [Zad,Za1,Bool.false_or]
     rw [wN i (by omega),AoK l hl n (i+1) (by omega) (by omega),ZaQ hx]
  · have hd:l.drop i=[]:=by simp; omega
    rw [show decide ((i:Int)<(l.length:Int))=false by simp; omega,hd]; rfl
theorem Ad2 {n:Nat} {l:List Ag} (hl:l.length≤500) (hn:1100<n):EO n l=some (MM Atx [] l,()):=by
 unfold EO
 have h:=AoK l (by omega) n 0 (by omega) (by omega)
 rw [show((0:Nat):Int)=0 from rfl,List.take_zero,Zar] at h
 rw [h]
 cases MM Atx [] l <;> rfl
theorem Afj {α:Type} {bad:α→α→Bool}:∀ {l pre:List α},MM bad pre l=false↔(∀ c∈l,∀ a∈pre,bad c a=false)∧l.Pairwise fun a c=>bad c a=false
 | [],pre=>by simp [MM]
 | x::l,pre=>by
  unfold MM
  rw [Zbi,Zbw,Afj,ZaW]
  constructor
  · rintro⟨h1,h2,h3⟩
    refine⟨fun c hc a ha=>?_,fun c hc=>h2 c hc x (by simp),h3⟩
    rcases Zal.1 hc with rfl | hc
    · simpa using h1 a ha
    · exact h2 c hc a (ZaH _ ha)
  · rintro⟨h1,h2,h3⟩
    refine⟨fun a ha=>by simpa using h1 x (by simp) a ha,fun c hc a ha=>?_,h3⟩
    rcases Zam.1 ha with ha | ha
    · exact h1 c (by simp [hc]) a ha
    · rw [Zaw.1 ha]; exact h2 c hc
theorem AmO {a c:Ag} (hne:a≠c):Atx c a=false↔AoE a c:=by
 have hs:BA c a=false:=by
  cases hb:BA c a with
  | false=>rfl
  | true=>exact absurd (IQ.1 hb).symm hne
 unfold Atx AoE
 rw [hs,AuW]
 simp only [Za4,ZaD,Bool.and_eq_false_iff,Zbi,decide_eq_false_iff_not]
 constructor
 · rintro(h | ⟨h1,h2,h3⟩)
   · exact⟨fun e=>h e.1.symm,fun e=>absurd e.symm h⟩
   · exact⟨fun e=>h1 e.2.symm,fun e=>⟨fun hlt=>by omega,fun hlt=>by omega⟩⟩
 · rintro⟨h1,h2⟩
   by_cases e:c.machine=a.machine
   · right
     have:=h2 e.symm
     refine⟨fun e2=>h1 ⟨e.symm,e2.symm⟩,?_,?_⟩
     · by_cases q:c.seq>a.seq
       · right; have:=this.1 q; omega
       · exact .inl q
     · by_cases q:c.seq<a.seq
       · right; have:=this.2 q; omega
       · exact .inl q
   · exact .inl e
open Classical in
theorem AqM {n:Nat} {s:An} (hr:V9 s.records) (hk:∀ r∈s.records,YH r) {r:Ag} (hkr:YH r) (hn:1300<n):NV n s r=some ((Nc s r).1,((Nc s r).2,())):=by
 have h60:=hr.len
 unfold NV
 obtain⟨s1,s2⟩:=Gx (F:=fun n i=>II n s r (An.mk [] [] [] [] (Ar.mk 0 [] [] 0 0 0) []) i) (G:=fun n i v0=>bif BA v0 r then(some (.inr (s,(r,(s,((),(6,()))))))) else II n s r (An.mk [] [] [] [] (Ar.mk 0 [] [] 0 0 0) []) (IntKind.i64.wrap (i+1))) s.records (fun v0=>!BA v0 r) (s,(r,(An.mk [] [] [] [] (Ar.mk 0 [] [] 0 0 0) [],((),((),((),())))))) (fun _=>(s,(r,(s,((),(6,())))))) 0 (by omega) (fun _ _=>rfl) (fun n i hi _=>by
  cases BA s.records[i] r <;> rfl) (n:=n) (by omega)
 cases hs:s.records.any (BA r) with
 | true =>
  have ha:(s.records.all fun v0=>!BA v0 r)=false:=by
   rw [List.all_eq_false]
   obtain⟨x,hx,e⟩:=ZaR.1 hs
   exact⟨x,hx,by rw [IQ.2 (IQ.1 e).symm]; simp⟩
  obtain⟨k,hk2⟩:=s2 ha
  rw [hk2]
  unfold Nc
  rw [hs]; rfl
 | false =>
  have ha:(s.records.all fun v0=>!BA v0 r)=true:=by
   rw [Za8]
   intro x hx
   cases hb:BA x r with
   | false=>rfl
   | true =>
    have:s.records.any (BA r)=true:=ZaR.2 ⟨x,hx,IQ.2 (IQ.1 hb).symm⟩
    rw [this] at hs; cases hs
  rw [s1 ha,Zaa]
  simp only [Za1]
  have hne:∀ a∈s.records,a≠r:=fun a ha e=>by
   have:s.records.any (BA r)=true:=ZaR.2 ⟨a,ha,IQ.2 e.symm⟩
   rw [this] at hs; cases hs
  have hF:=AqL (n:=n) (lists:=[s.records,[r]]) (fun l hl=>by
   rcases Zal.1 hl with rfl | hl
   · exact hk
   · rw [Zaw.1 hl]
     intro r' hr'
     rw [Zaw.1 hr']; exact hkr) (by simp) (fun l hl=>by
   rcases Zal.1 hl with rfl | hl
   · omega
   · rw [Zaw.1 hl]; simp) (by omega)
  have hchk:Wa [s.records,[r]]=if Bp r=false then 1 else 0:=by
   unfold Wa
   have e1:s.records.all Bp=true:=Za8.2 hr.right
   rw [if_neg (by simp)]
   simp only [ZaN,List.all_nil,Bool.and_true,Za6,Zbo,e1,ZaD]
   rw [Zaf h60]
   cases Bp r <;> rfl
  have hA:app [] s.records=some s.records:=by rw [AK (by simp; omega)]; rfl
  have hB:app s.records [r]=some (s.records++[r]):=AK (by simp; omega)
  have hC:=Ad2 (n:=n) (l:=s.records++[r]) (by simp; omega) (by omega)
  have hm:=AlN hr hs
  rw [hF,hchk,Zaa]
  unfold Nc
  simp only [hs,Za2,if_false]
  rw [hm]
  cases hrr:Bp r with
  | false=>rfl
  | true =>
   simp only [Bool.true_eq_false,if_false]
   rw [show((0:Int) != 0)=false from rfl,Zad,hA,Zaa,hB,Zaa,hC,Zaa]
   have hp:MM Atx [] (s.records++[r])=false↔∀ a∈s.records,AoE a r:=by
    rw [Afj,AbI]
    constructor
    · rintro⟨_,_,h⟩ a ha
      exact(AmO (hne a ha)).1 (h a ha)
    · intro h
      refine⟨fun c _ a ha=>by simp at ha,hr.cmp.imp (fun {a b} hab=>?_),fun a ha=>(AmO (hne a ha)).2 (h a ha)⟩
      exact(AmO (fun e=>hab.1 (by rw [e]))).2 hab
   by_cases hcm:∀ a∈s.records,AoE a r
   · rw [hp.2 hcm]
     have e6:(if ¬ ∀ a∈s.records,AoE a r then(6:Int) else if 60≤s.records.length then 3 else 0)=if 60≤s.records.length then 3 else 0:=if_neg fun h=>h hcm
     rw [e6]
     simp only [Zad]
     by_cases h6:60≤s.records.length
     · rw [if_pos h6,Zaf (show(((s.records++[r]).length:Nat):Int)>60 by simp; omega)]; rfl
     · rw [if_neg h6,Zae (show ¬ (((s.records++[r]).length:Nat):Int)>60 by simp; omega)]; rfl
   · have hb:MM Atx [] (s.records++[r])=true:=by
      cases h:MM Atx [] (s.records++[r]) with
      | true=>rfl
      | false=>exact absurd (hp.1 h) hcm
     rw [hb,if_pos hcm]; rfl
theorem Ava {n:Nat} {s:An} (hg:Eo s) {c:A0} (hk:Lk c) (hn:300<n):TV n s c=some ((FX s c).1,((FX s c).2,())):=by
 have h40:=hg.cards
 unfold TV
 obtain⟨s1,s2⟩:=Gx (F:=fun n i=>Mi n s c (An.mk [] [] [] [] (Ar.mk 0 [] [] 0 0 0) []) i) (G:=fun n i v0=>bif En v0 c then(some (.inr (s,(c,(s,((),(6,()))))))) else Mi n s c (An.mk [] [] [] [] (Ar.mk 0 [] [] 0 0 0) []) (IntKind.i64.wrap (i+1))) s.cards (fun v0=>!En v0 c) (s,(c,(An.mk [] [] [] [] (Ar.mk 0 [] [] 0 0 0) [],((),((),((),())))))) (fun _=>(s,(c,(s,((),(6,())))))) 0 (by omega) (fun _ _=>rfl) (fun n i hi _=>by
  cases En s.cards[i] c <;> rfl) (n:=n) (by omega)
 unfold FX
 cases hs:s.cards.any (fun a=>En a c) with
 | true =>
  have ha:(s.cards.all fun v0=>!En v0 c)=false:=by
   rw [List.all_eq_false]
   obtain⟨x,hx,e⟩:=ZaR.1 hs
   exact⟨x,hx,by rw [e]; simp⟩
  obtain⟨k,hk2⟩:=s2 ha
  rw [hk2]; rfl
 | false =>
  have ha:(s.cards.all fun v0=>!En v0 c)=true:=by
   rw [Za8]
   intro x hx
   have:=Zbw.1 hs x hx
   simpa using this
  rw [s1 ha,Zaa]
  simp only [Za1]
  rw [AK (by simp; omega),Zaa,Zau,AK (by simp; omega),Zaa,AqJ (fun a ha=>by
   rcases Zam.1 ha with ha | ha
   · exact hg.kind a ha
   · rw [Zaw.1 ha]; exact hk) (by simp; omega) (.inr (by simp; omega)),Zaa]
  by_cases h0:Aoa (s.cards++[c])=0
  · rw [h0]; rfl
  · rw [show(Aoa (s.cards++[c]) != 0)=true by simpa using h0,if_neg (by simp),if_neg h0]; rfl
theorem Ai2 (s:An) (bus:Int) (hl:s.outs.length≤1000):∀ (n i:Nat),s.outs.length-i<n→i≤s.outs.length→Mc n bus s (i:Int)=some (match (s.outs.drop i).findIdx? (fun o=>decide (o.bus=bus)) with | some k=>.inr (s,(((i+k:Nat):Int),())) | none=>.inl (s,()))
 | 0,_,h,_=>absurd h (Zan _)
 | n+1,i,h,hi=>by
  rw [Mc]
  by_cases hx:i<s.outs.length
  · have hd:s.outs.drop i=s.outs[i]::s.outs.drop (i+1):=Zaj hx
    rw [show decide ((i:Int)<(s.outs.length:Int))=true by simp; omega,Zab,B3 hx,Zaa,hd,wN i (by omega),List.findIdx?_cons]
    cases decide (s.outs[i].bus=bus) with
    | true=>simp
    | false =>
     rw [Zad,Ai2 s bus hl n (i+1) (by omega) (by omega)]
     cases (s.outs.drop (i+1)).findIdx? (fun o=>decide (o.bus=bus)) with
     | none=>rfl
     | some k =>
      show(some (.inr (s,(((i+1+k:Nat):Int),()))):Option ((An×Unit) ⊕ (An×Int×Unit)))=some (.inr (s,(((i+(k+1):Nat):Int),())))
      rw [show i+1+k=i+(k+1) by omega]
  · have hd:s.outs.drop i=[]:=by simp; omega
    rw [show decide ((i:Int)<(s.outs.length:Int))=false by simp; omega,hd]
    rfl
theorem AoL {n:Nat} {s:An} (hl:s.outs.length≤1000) (bus:Int) (hn:s.outs.length<n):YD n s bus=some (R2 s.outs bus,()):=by
 unfold YD R2 W7
 have h:=Ai2 s bus hl n 0 (by omega) (by omega)
 rw [show((0:Nat):Int)=0 from rfl,Zar] at h
 rw [h]
 cases s.outs.findIdx? (fun o=>decide (o.bus=bus)) <;> simp
theorem Ayq {n:Nat} {s:An} (hg:Eo s) {a b c:Int} (hn:300<n):GV n s (B [105,110]) [a,b,c]=some ((Asc s a b c).1,((Asc s a b c).2,())):=by
 have h1:=hg.outs
 have h2:=hg.runs
 have i0:A6 [a,b,c] 0=some a:=rfl
 have i1:A6 [a,b,c] 1=some b:=rfl
 have i2:A6 [a,b,c] 2=some c:=rfl
 unfold GV Asc
 rw [i0,Zaa,AoL (by omega) a (by omega),Zaa,show(B [105,110]).beq (B [105,110])=true by decide,Zab,i1,i2]
 simp only [Zaa,AmN]
 unfold R2
 cases hgo:W7 s.outs a with
 | none=>rfl
 | some k =>
  obtain⟨hk,_⟩:=Aie hgo
  simp only
  rw [Zae (show ¬ ((k:Int)<0) by omega),Zad,B3 hk,Zaa,Zak hk,AwD (by omega),Zaa,wN k (by omega),Aig (by omega) (Zaq _),AK (by rw [ZaK]; simp; omega),Zaa,Zau,Zaa,AK (by simp only [ZaK,ZaY]; omega),Zaa,AK (by simp; omega),Zaa,Zau,AK (by simp; omega),Zaa]
  have he:s.outs.take k++(s.outs.drop (k+1)).take (s.outs.length-(k+1))=s.outs.eraseIdx k:=by
   rw [ZaV (l:=s.outs.drop (k+1)) (by rw [ZaY]; omega),List.eraseIdx_eq_take_drop_succ]
  rw [he]
  simp only
  by_cases c1:b<s.outs[k].fr
  · rw [Zaf c1,show Co b s.outs[k].fr 1000000=false from Yu.2 (by omega)]; rfl
  · by_cases c2:b>1000000
    · rw [Zae c1,Zaf c2,show Co b s.outs[k].fr 1000000=false from Yu.2 (by omega)]; rfl
    · rw [Zae c1,Zae c2,show Co b s.outs[k].fr 1000000=true from Cp.2 (by omega)]
      cases Co c 0 1000 <;> rfl
theorem AwY {n:Nat} {s:An} (hg:Eo s) {a b:Int} (hn:1300<n):GV n s (B [111,117,116]) [a,b]=some ((Aah s a b).1,((Aah s a b).2,())):=by
 have h1:=hg.outs
 have h2:=hg.runs
 have h3:=hg.cards
 have i0:A6 [a,b] 0=some a:=rfl
 have i1:A6 [a,b] 1=some b:=rfl
 unfold GV
 rw [i0,Zaa,AoL (by omega) a (by omega),Zaa,show(B [111,117,116]).beq (B [105,110])=false by decide,Zad,i1,Zaa]
 simp only [Zaa,AmN]
 unfold Aah
 cases hb1:Co a 0 99 with
 | false=>rfl
 | true =>
  cases hb2:Co b 0 1000000 with
  | false=>rfl
  | true =>
   simp only [ZaC,Za4,Zab,Zad,Zbx,if_true]
   by_cases hgo:R2 s.outs a<0
   · rw [Zae (show ¬ R2 s.outs a≥0 by omega),if_pos hgo,Zad]
     obtain⟨s1,s2⟩:=Gx (F:=fun n i=>C8 n [a,b] s (An.mk [] [] [] [] (Ar.mk 0 [] [] 0 0 0) []) i) (G:=fun n i v0=>bif decide (v0.bus=a) then((A6 s.runs i).bind fun v2=>bif decide (v2.to_>b) then(some (.inr (s,(s,((),(8,())))))) else C8 n [a,b] s (An.mk [] [] [] [] (Ar.mk 0 [] [] 0 0 0) []) (IntKind.i64.wrap (i+1))) else C8 n [a,b] s (An.mk [] [] [] [] (Ar.mk 0 [] [] 0 0 0) []) (IntKind.i64.wrap (i+1))) s.runs (fun r=>!decide (r.bus=a) || decide (r.to_≤b)) (s,(An.mk [] [] [] [] (Ar.mk 0 [] [] 0 0 0) [],([a,b],((),((),()))))) (fun _=>(s,(s,((),(8,()))))) 0 (by omega) (fun n i=>by
       show C8 (n+1) [a,b] s _ i=_
       rw [C8,i0,i1]
       rfl) (fun n i hi _=>by
      rw [B3 hi,Zaa]
      by_cases c1:s.runs[i].bus=a
      · by_cases c2:s.runs[i].to_>b
        · rw [Zaf c1,Zaf c2,Zae (show ¬ s.runs[i].to_≤b by omega)]; rfl
        · rw [Zaf c1,Zae c2,Zaf (show s.runs[i].to_≤b by omega)]; rfl
      · rw [Zae c1]; rfl) (n:=n) (by omega)
     unfold Afc
     cases hr:s.runs.all fun r=>!decide (r.bus=a) || decide (r.to_≤b) with
     | false =>
      obtain⟨k,hk⟩:=s2 hr
      rw [hk]; rfl
     | true =>
      rw [s1 hr,Zaa]
      simp only [Za1]
      have hz:(Gu s.cards a b).2=0:=by
       have hc:=hg.chk
       unfold Aoa at hc
       unfold Gu
       cases hr:MK s.cards with
       | inl e=>rw [hr] at hc; have:=SP hr; simp only at hc; omega
       | inr y=>simp only; rw [hb1,hb2]; rfl
      have hnil:=AlP (bus:=a) (at_:=b) hg.chk (by rw [hb1,hb2]; rfl)
      rw [i0,Zaa,i1,Zaa,AoI hg.kind h3 (by omega),Zaa]
      simp only [if_true,if_pos hz,Zaa]
      by_cases hl:(Gu s.cards a b).1=[]
      · rw [hnil.2 hl,if_pos hl]
        rw [AK (by simp; omega),Zaa,Zau,AK (by simp; omega),Zaa]
        rfl
      · have:PB s.cards a b≠[]:=fun h=>hl (hnil.1 h)
        rw [if_neg hl,Zaf (show(((PB s.cards a b).length:Nat):Int)>0 by have:=List.length_pos_iff.2 this; omega)]
        rfl
   · rw [Zaf (show R2 s.outs a≥0 by omega),if_neg hgo]; rfl
end Go.Proofs.YtkpgggfibljflaaGreatDoor
