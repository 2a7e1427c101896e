/- The plain law. -/
import Derived.Test.YtkpgggfibljflaaGreatDoorgQL03
set_option linter.all false
set_option maxRecDepth 100000
namespace Go.Proofs.YtkpgggfibljflaaGreatDoor
open Go Go.RowKit Go.Proofs
def Eb (b:Bool) (e:Int):Unit ⊕ (Av×Unit):=bif b then .inl () else .inr (Av.mk e,())
theorem DP (n:Nat) (b:Bool) (e:Int):As n b e=some (Eb b e):=by cases b <;> rfl
theorem LQ (n:Nat) (e:Int):Ce n e=some (Eb (decide (e=0)) e):=by
 unfold Ce
 rw [DP]
 cases decide (e=0) <;> rfl
theorem G2 (n:Nat) (x lo hi:Int):Bi n x lo hi=some (EJ x lo hi,()):=by
 unfold Bi EJ
 cases decide (lo≤x) <;> rfl
theorem EY {α:Type} {l:List α} (h:l.length≤1000000000):app [] l=some l:=B6 (a:=[]) (by simpa using h)
theorem Uo {n:Nat} {l:List Ap} {x:Ap} (h:l.length<1000000000):DJ n l x=some (l++[x],()):=by
 unfold DJ QV
 rw [EY (by omega)]
 simp only [Zaa]
 rw [B6 (by simp; omega)]; rfl
theorem Wr {n:Nat} {l:List Jk} {x:Jk} (h:l.length<1000000000):Di n l x=some (l++[x],()):=by
 unfold Di ID
 rw [EY (by omega)]
 simp only [Zaa]
 rw [B6 (by simp; omega)]; rfl
theorem Ws {n:Nat} {l:List I9} {x:I9} (h:l.length<1000000000):Dj n l x=some (l++[x],()):=by
 unfold Dj TZ
 rw [EY (by omega)]
 simp only [Zaa]
 rw [B6 (by simp; omega)]; rfl
theorem Rl {n:Nat} {l:List Ab} {x:Ab} (h:l.length<1000000000):CW n l x=some (l++[x],()):=by
 unfold CW Ua
 rw [EY (by omega)]
 simp only [Zaa]
 rw [B6 (by simp; omega)]; rfl
theorem Rm {n:Nat} {l:List AA} {x:AA} (h:l.length<1000000000):CX n l x=some (l++[x],()):=by
 unfold CX QR
 rw [EY (by omega)]
 simp only [Zaa]
 rw [B6 (by simp; omega)]; rfl
theorem Up {n:Nat} {l:List AH} {x:AH} (h:l.length<1000000000):DK n l x=some (l++[x],()):=by
 unfold DK QT
 rw [EY (by omega)]
 simp only [Zaa]
 rw [B6 (by simp; omega)]; rfl
theorem Wt {n:Nat} {l:List Int} {x:Int} (h:l.length<1000000000):Eh n l x=some (l++[x],()):=by
 unfold Eh Lx
 rw [EY (by omega)]
 simp only [Zaa]
 rw [B6 (by simp; omega)]; rfl
def Aak (c:Ap):Bool:=bif decide (c.kind.n<2) then EJ c.part 0 15 && decide (c.sg=0) else decide (c.part=0) && (decide (c.kind.n=2) && EJ c.sg 1 999 || decide (c.kind.n=3) && decide (c.sg=0))
def H3 (c:Ap):Bool:=EJ c.bus 0 99 && (EJ c.number 1 999 && (EJ c.minute 0 1000000 && Aak c))
theorem Aal (n:Nat) (c:Ap) (hk:0≤c.kind.n∧c.kind.n≤3):D6 n c=some (H3 c,()):=by
 have h4:c.kind.n=0∨c.kind.n=1∨c.kind.n=2∨c.kind.n=3:=by omega
 unfold D6 H3 Aak EJ
 obtain⟨bus,number,minute,⟨k⟩,part,sg⟩:=c
 simp only at h4 ⊢
 cases decide (0≤bus) with
 | false=>rfl
 | true =>
 cases decide (bus≤99) with
 | false=>rfl
 | true =>
 cases decide (1≤number) with
 | false=>rfl
 | true =>
 cases decide (number≤999) with
 | false=>rfl
 | true =>
 cases decide (0≤minute) with
 | false=>rfl
 | true =>
 cases decide (minute≤1000000) with
 | false=>rfl
 | true =>
 rcases h4 with rfl | rfl | rfl | rfl
 · show(bif decide (0≤part) then(bif decide (part≤15) then(some (decide (sg=0),())) else some (false,())) else some (false,()))=_
   cases decide (0≤part) <;> cases decide (part≤15) <;> simp
 · show(bif decide (0≤part) then(bif decide (part≤15) then(some (decide (sg=0),())) else some (false,())) else some (false,()))=_
   cases decide (0≤part) <;> cases decide (part≤15) <;> simp
 · show(bif decide (part=0) then(bif decide (1≤sg) then(some (decide (sg≤999),())) else some (false,())) else some (false,()))=_
   cases decide (part=0) <;> cases decide (1≤sg) <;> simp
 · show(bif decide (part=0) then(some (decide (sg=0),())) else some (false,()))=_
   cases decide (part=0) <;> simp
def G9 (a c:Ap):Bool:=decide (a.bus=c.bus) && (decide (a.number=c.number) && (decide (a.minute=c.minute) && (decide (a.kind.n=c.kind.n) && (decide (a.part=c.part) && (decide (a.sg=c.sg) && true)))))
theorem Wu {n:Nat} (g:Aa) (c:Ap) (l:List Ap) (hl:l.length≤4000000000000000000) (h:l.length+1≤n):AU n g c l (l.length:Int) 0=some (bif l.any (fun a=>G9 a c) then .inr (g,(c,(Av.mk 6,()))) else .inl (g,(c,((),((),()))))):=by
 have key:=R9 (F:=fun n (_:Unit) i=>AU n g c l (l.length:Int) i) (l:=l) (N:=0) (T:=fun s i a=>bif G9 a c then .inr (.inr (g,(c,(Av.mk 6,())))) else .inl s) (E:=fun _=>.inl (g,(c,((),((),())))))
  (B:=fun n _ i v0=>(As n (!G9 v0 c) 6).bind fun v1=>Sum.elim (fun v2=>AU n g c l (l.length:Int) (IntKind.i64.wrap (i+1))) (fun v2=>some (.inr (g,(c,(v2.fst,()))))) (v1)) (fun _ _=>True)
  (fun _ _ _=>rfl) (fun n s i hi _ _=>by
   rw [DP]
   cases G9 l[i] c
   · exact⟨rfl,trivial⟩
   · rfl) hl l.length () 0 n (by simp) (by omega) trivial
 rw [show((0:Nat):Int)=0 from rfl,Zay] at key
 rw [key]
 congr 1
 suffices H:∀ (l:List Ap)(i:Nat),ZO (fun(s:Unit)(i:Nat) a=>bif G9 a c then .inr (.inr (g,(c,(Av.mk 6,())))) else .inl s) (fun _=>(.inl (g,(c,((),((),())))):(Aa×Ap×Unit×Unit×Unit) ⊕ ((Aa×Ap×Av×Unit)))) i () l=(bif l.any (fun a=>G9 a c) then .inr (g,(c,(Av.mk 6,()))) else .inl (g,(c,((),((),()))))) from H l 0
 intro l
 induction l with
 | nil=>intro i; rfl
 | cons a l ih =>
  intro i
  unfold ZO
  rw [List.any_cons]
  cases G9 a c
  · exact ih (i+1)
  · rfl
def KS (c:Ap):Prop:=0≤c.kind.n∧c.kind.n≤3
theorem SM {α R:Type} (p:α→Bool) (r:Nat→R) (E:R):∀ (l:List α)(i:Nat),(l.all p=true→ZO (fun(s:Unit) i a=>bif p a then .inl s else .inr (r i)) (fun _=>E) i () l=E)∧(l.all p=false→∃ k,ZO (fun(s:Unit) i a=>bif p a then .inl s else .inr (r i)) (fun _=>E) i () l=r k)
 | [],i=>⟨fun _=>rfl,fun h=>by cases h⟩
 | a::l,i=>by
  obtain⟨h1,h2⟩:=SM p r E l (i+1)
  unfold ZO
  rw [ZaT]
  cases hp:p a with
  | false=>exact⟨(fun h=>by cases h),fun _=>⟨i,rfl⟩⟩
  | true =>
   simp only [ZaS,Zac]
   exact⟨h1,h2⟩
theorem Wv {n:Nat} {l:List Ap} (hk:∀ c∈l,KS c) (hl:l.length≤1000) (h:l.length<n):(l.all H3=true→Dv n l (l.length:Int) 0=some (.inl ((((),()),()),())))∧(l.all H3=false→∃ k:Nat,Dv n l (l.length:Int) 0=some (.inr ((((),()),()),((k:Int),())))):=by
 have key:=R9 (F:=fun n (_:Unit) i=>Dv n l (l.length:Int) i) (l:=l) (N:=0) (T:=fun s i a=>bif H3 a then .inl s else .inr (.inr ((((),()),()),((i:Int),())))) (E:=fun _=>.inl ((((),()),()),()))
  (B:=fun n _ i v0=>(D6 n v0).bind fun v1=>bif !v1.fst then(some (.inr ((((),()),()),(i,())))) else Dv n l (l.length:Int) (IntKind.i64.wrap (i+1))) (fun _ _=>True)
  (fun _ _ _=>rfl) (fun n s i hi _ _=>by
   rw [Aal n _ (hk _ (Za9 hi))]
   cases H3 l[i]
   · rfl
   · exact⟨rfl,trivial⟩) (by omega) l.length () 0 n (by simp) (by omega) trivial
 rw [show((0:Nat):Int)=0 from rfl,Zay] at key
 obtain⟨h1,h2⟩:=SM (R:=((((Unit×Unit)×Unit)×Unit) ⊕ ((((Unit×Unit)×Unit)×Int×Unit)))) H3 (fun i=>.inr ((((),()),()),((i:Int),()))) (.inl ((((),()),()),())) l 0
 exact⟨fun h=>by rw [key,h1 h],fun h=>by obtain⟨k,hk⟩:=h2 h; exact⟨k,by rw [key,hk]⟩⟩
def zC:Ap:=Ap.mk 0 0 0 (IK.mk 0) 0 0
def Acj:List (Int×Ap)→List Int→List Ap→Option (List (Int×Ap)×List Int)
 | m,o,[]=>some (m,o)
 | m,o,c::l=>bif Dm DO m c.number then(bif G9 (AN DO m c.number zC) c then Acj m o l else none) else Acj (Fe DO m c.number c) (o++[c.number]) l
theorem OV (full:List Ap) (hl:full.length≤1000):∀ (n i:Nat)(m:List (Int×Ap))(o:List Int),full.length-i<n→i≤full.length→o.length≤i→match Acj m o (full.drop i) with
  | some (m',o')=>BB n m o full (full.length:Int) (i:Int)=some (.inl ((m',(o',())),((),((),()))))
  | none=>∃ m' o',BB n m o full (full.length:Int) (i:Int)=some (.inr ((m',(o',())),((),((),(6,())))))
 | 0,_,_,_,h,_,_=>absurd h (Zav _)
 | n+1,i,m,o,h,hi,ho=>by
  rw [BB]
  by_cases hx:i<full.length
  · have hd:full.drop i=full[i]::full.drop (i+1):=Zaj hx
    rw [show decide ((i:Int)<(full.length:Int))=true by simp; omega,Zac,Cb hx,Zaa,hd,wN i (by omega)]
    have ih:=fun m o=>OV full hl n (i+1) m o (by omega) (by omega)
    have happ:app o [full[i].number]=some (o++[full[i].number]):=B6 (by simp; omega)
    unfold Acj
    cases hm:Dm DO m full[i].number with
    | true =>
     simp only [Zac,ZaM,Zad]
     show(match (bif G9 (AN DO m full[i].number zC) full[i] then Acj m o (full.drop (i+1)) else none) with | some (m',o')=>(bif !G9 (AN DO m full[i].number zC) full[i] then _ else _)=_ | none=>∃ m' o',(bif !G9 (AN DO m full[i].number zC) full[i] then _ else _)=_)
     cases G9 (AN DO m full[i].number zC) full[i] with
     | true =>
      simp only [Zac,ZaM,Zad]
      exact ih m o (by omega)
     | false=>exact⟨m,o,rfl⟩
    | false =>
     simp only [Zac,ZaI,Zad]
     rw [happ,Zaa]
     exact ih _ _ (by simp; omega)
  · have hd:full.drop i=[]:=by simp; omega
    rw [show decide ((i:Int)<(full.length:Int))=false by simp; omega,hd]
    rfl
theorem OF:∀ (l:List Ap)(m:List (Int×Ap))(o:List Int)(m':List (Int×Ap))(o':List Int),Acj m o l=some (m',o')→o'.length≤o.length+l.length
 | [],m,o,m',o',h=>by cases h; simp
 | c::l,m,o,m',o',h=>by
  unfold Acj at h
  cases hm:Dm DO m c.number with
  | true =>
   rw [hm,Zac] at h
   cases hs:G9 (AN DO m c.number zC) c with
   | true =>
    rw [hs,Zac] at h
    have:=OF l m o m' o' h
    simp; omega
   | false=>rw [hs] at h; cases h
  | false =>
   rw [hm,Zad] at h
   have:=OF l _ _ m' o' h
   simp at this ⊢; omega
theorem Acw {o:List Int} (h:o.length≤1000000):Xt o=some (Ev (fun a b=>decide (a≤b)) o):=by
 unfold Xt
 have hl:∀ (l:List Int),AZ l=l.length:=fun l=>by induction l with
  | nil=>rfl
  | cons a l ih=>simp [AZ,ih]
 rw [show Nat.blt (AZ o) 4611686018427387904=true by rw [hl]; exact Za1 (by omega)]
 rfl
def IV (l:List Ap):Int ⊕ (List (Int×Ap)×List Int) :=
 if 40<l.length then .inl 3 else if l.all H3=false then .inl 1 else match Acj [] [] l with
  | none=>.inl 6
  | some (m,o)=>.inr (m,Ev (fun a b=>decide (a≤b)) o)
theorem XI {n:Nat} {l:List Ap} (hk:∀ c∈l,KS c) (hl:l.length≤1000) (h:l.length<n):Ia n l=some (match IV l with | .inl e=>.inl ((),(e,())) | .inr y=>.inr ((y.1,(y.2,())),(0,()))):=by
 unfold Ia IV
 by_cases h40:40<l.length
 · rw [show decide ((l.length:Int)>40)=true by simp; omega,Zac,if_pos h40]
 · rw [show decide ((l.length:Int)>40)=false by simp; omega,Zad,if_neg h40]
   obtain⟨r1,r2⟩:=Wv hk hl h
   have r3:=OV l hl n 0 [] [] (by omega) (by omega) (by simp)
   rw [show((0:Nat):Int)=0 from rfl,Zay] at r3
   cases ha:l.all H3 with
   | false =>
    obtain⟨k,hk⟩:=r2 ha
    rw [hk,if_pos rfl]
    simp only [Zaa,Sum.elim_inr]
    rw [show decide ((k:Int)≥0)=true by simp]
    rfl
   | true =>
    rw [r1 ha,if_neg (by simp)]
    simp only [Zaa,Za8]
    cases hr:Acj [] [] l with
    | none =>
     rw [hr] at r3
     obtain⟨m',o',e⟩:=r3
     rw [e]; rfl
    | some y =>
     rw [hr] at r3
     have hlen:=OF l [] [] y.1 y.2 hr
     rw [r3]
     simp only [Zaa,Za8]
     rw [Acw (by simp at hlen; omega)]; rfl
def Adt (l:List Ap):Int:=match IV l with
 | .inl e=>e
 | .inr _=>0
theorem Rn {n:Nat} {l:List Ap} (hk:∀ c∈l,KS c) (hl:l.length≤1000) (h:l.length<n):EB n l=some (Adt l,()):=by
 unfold EB Adt
 rw [XI hk hl h]
 cases IV l <;> rfl
def AeW (m:List (Int×Ap)) (bus at_:Int) (v:Int):Bool:=decide ((AN DO m v zC).bus=bus) && ((decide ((AN DO m v zC).kind.n=0) || decide ((AN DO m v zC).kind.n=1)) && Rf m (AN DO m v zC) at_)
def Adu (m:List (Int×Ap)) (o:List Int) (bus at_:Int):List Int:=(o.filter (AeW m bus at_)).map fun v=>(AN DO m v zC).number
theorem NE (m:List (Int×Ap)) (cl full:List Int) (bus at_:Int) (hl:full.length≤1000):∀ (n i:Nat)(acc:List Int),full.length-i<n→i≤full.length→acc.length≤i→AB n at_ acc m cl bus full (full.length:Int) (i:Int)=some (.inl (((at_,()),((acc++Adu m (full.drop i) bus at_,()),(((((m,(cl,())),()),()),()),()))),((),((),((),((),((),(((),()),((bus,()),())))))))))
 | 0,_,_,h,_,_=>absurd h (Zav _)
 | n+1,i,acc,h,hi,ha=>by
  rw [AB]
  by_cases hx:i<full.length
  · have hd:full.drop i=full[i]::full.drop (i+1):=Zaj hx
    have ih:=fun acc=>NE m cl full bus at_ hl n (i+1) acc (by omega) (by omega)
    have happ:∀ x,app acc [x]=some (acc++[x]):=fun x=>B6 (by simp; omega)
    rw [show decide ((i:Int)<(full.length:Int))=true by simp; omega,Zac,Cb hx,Zaa,hd,wN i (by omega)]
    have e1:Adu m (full[i]::full.drop (i+1)) bus at_=(bif AeW m bus at_ full[i] then [(AN DO m full[i] zC).number] else [])++Adu m (full.drop (i+1)) bus at_:=by
     unfold Adu
     rw [List.filter_cons]
     cases AeW m bus at_ full[i] <;> simp
    rw [e1]
    unfold Yx AeW
    simp only [Zaa,happ]
    generalize hz:AN DO m full[i] zC=z
    unfold zC at hz
    rw [hz]
    cases decide (z.bus=bus) with
    | false=>simpa using ih acc (by omega)
    | true =>
     cases decide (z.kind.n=0) with
     | true =>
      cases Rf m z at_ with
      | true=>simpa using ih (acc++[z.number]) (by simp; omega)
      | false=>simpa using ih acc (by omega)
     | false =>
      cases decide (z.kind.n=1) with
      | true =>
       cases Rf m z at_ with
       | true=>simpa using ih (acc++[z.number]) (by simp; omega)
       | false=>simpa using ih acc (by omega)
      | false=>simpa using ih acc (by omega)
  · have hd:full.drop i=[]:=by simp; omega
    rw [show decide ((i:Int)<(full.length:Int))=false by simp; omega,hd]
    simp [Adu]
def F8 (l:List Ap) (bus at_:Int):List Int×Int:=match IV l with
 | .inl e=>([],e)
 | .inr y=>if EJ bus 0 99 && EJ at_ 0 1000000 then(Adu y.1 y.2 bus at_,0) else([],2)
theorem Uq {α:Type} (le:α→α→Bool) (x:α):∀ l,(VU le x l).length=l.length+1
 | []=>rfl
 | y::r=>by
  unfold VU
  cases le x y
  · simp [Uq le x r]
  · simp
theorem HI {α:Type} (le:α→α→Bool):∀ l,(Ev le l).length=l.length
 | []=>rfl
 | x::r=>by
  unfold Ev
  rw [Uq,HI le r]; rfl
theorem RC {l:List Ap} {y:List (Int×Ap)×List Int} (h:IV l=.inr y):l.length≤40∧l.all H3=true∧∃ o,Acj [] [] l=some (y.1,o)∧y.2=Ev (fun a b=>decide (a≤b)) o:=by
 unfold IV at h
 split at h
 · cases h
 · rename_i h40
   split at h
   · cases h
   · rename_i ha
     split at h
     · cases h
     · rename_i m o hr
       cases h
       exact⟨by omega,by simpa using ha,o,hr,rfl⟩
theorem RD {l:List Ap} {e:Int} (h:IV l=.inl e):e=1∨e=3∨e=6:=by
 unfold IV at h
 split at h
 · cases h; simp
 · split at h
   · cases h; simp
   · split at h
     · cases h; simp
     · cases h
theorem RE {l:List Ap} {y:List (Int×Ap)×List Int} (h:IV l=.inr y):y.2.length≤40:=by
 obtain⟨h1,_,o,h2,h3⟩:=RC h
 have:=OF l _ _ _ _ h2
 rw [h3,HI]
 simp at this; omega
theorem SN {n:Nat} {l:List Ap} {bus at_:Int} (hk:∀ c∈l,KS c) (hl:l.length≤1000) (h:l.length+50<n):Cx n l bus at_=some ((F8 l bus at_).1,((F8 l bus at_).2,())):=by
 unfold Cx F8
 rw [XI hk hl (by omega)]
 cases hr:IV l with
 | inl e =>
  have he:e≠0:=by have:=RD hr; omega
  simp only [Zaa,Za8]
  rw [show(e != 0)=true by simpa using he]
  rfl
 | inr y =>
  simp only [Zaa,Sum.elim_inr]
  rw [show((0:Int) != 0)=false from rfl,Zad]
  unfold EJ
  have hy:=RE hr
  have ho:=NE y.1 y.2 y.2 bus at_ (by omega) n 0 [] (by omega) (by omega) (by simp)
  rw [show((0:Nat):Int)=0 from rfl,Zay,Za6] at ho
  have hb:EC n y.1 y.2 bus at_=some (((y.1,(y.2,())),((),(Adu y.1 y.2 bus at_,())))):=by
   unfold EC
   rw [ho]; rfl
  cases decide (0≤bus) <;> cases decide (bus≤99) <;> cases decide (0≤at_) <;> cases decide (at_≤1000000) <;> simp [hb]
section
variable {α β:Type} [DecidableEq α] {q:α→α→Bool} (hq:∀ a b,q a b=true↔a=b)
include hq
theorem Ww (a:α):q a a=true:=(hq a a).2 rfl
theorem Kd (k k':α) (v:β):∀ m:List (α×β),GL q (Fe q m k v) k' = if k=k' then some v else GL q m k'
 | []=>by
  unfold Fe GL GL
  by_cases h:k=k'
  · subst h; simp [Ww hq]
  · have:q k k' = false:=by
     cases hh:q k k' with
     | false=>rfl
     | true=>exact absurd ((hq _ _).1 hh) h
    rw [this,if_neg h]; rfl
 | p::r=>by
  have ih:=Kd k k' v r
  unfold Fe
  cases hp:q p.1 k with
  | true =>
   have hpk:=(hq _ _).1 hp
   simp only [Zac]
   unfold GL
   by_cases h:k=k'
   · subst h; simp [Ww hq]
   · have h1:q k k' = false:=by
      cases hh:q k k' with
      | false=>rfl
      | true=>exact absurd ((hq _ _).1 hh) h
     have h2:q p.1 k' = false:=by rw [hpk]; exact h1
     simp only [h1,h2,Zad,if_neg h]
  | false =>
   simp only [Zad]
   unfold GL
   cases hp2:q p.1 k' with
   | true =>
    have hpk:=(hq _ _).1 hp2
    have:k≠k':=fun h=>by
     rw [h,← hpk] at hp
     rw [Ww hq] at hp; cases hp
    rw [if_neg this]; rfl
   | false=>simpa using ih
theorem MY (m:List (α×β)) (k k':α) (v:β):Dm q (Fe q m k v) k' = true↔k=k'∨Dm q m k' = true:=by
 unfold Dm
 rw [Kd hq]
 by_cases h:k=k' <;> simp [h]
end
theorem GB (a b:FX):Ax a b=true↔a=b:=by
 obtain⟨a1,a2⟩:=a
 obtain⟨b1,b2⟩:=b
 simp [Ax]
theorem Ur (a b:ByteArray):F7 a b=true↔a=b:=by simp [F7]
def Ro (r:Ab):Prop:=0≤r.kind.n∧r.kind.n≤2
def Cw (v a:Ab):Bool:=decide (v.machine=a.machine) && (decide (v.seq=a.seq) && (decide (v.minute=a.minute) && (decide (v.kind.n=a.kind.n) && (decide (v.a=a.a) && (decide (v.b=a.b) && true)))))
theorem MZ {a c:Ab}:Cw a c=true↔a=c:=by
 obtain⟨a1,a2,a3,⟨a4⟩,a5,a6⟩:=a
 obtain⟨c1,c2,c3,⟨c4⟩,c5,c6⟩:=c
 simp [Cw]
theorem Us {n:Nat} {l:List Ab} {v:Ab} (hl:l.length≤1000) (h:l.length<n):BM n l v=some (l.any (Cw v),()):=by
 have H:∀ (n i:Nat),l.length-i<n→i≤l.length→((l.drop i).any (Cw v)=false→AV n l v (l.length:Int) (i:Int)=some (.inl (v,())))∧((l.drop i).any (Cw v)=true→∃ k:Nat,AV n l v (l.length:Int) (i:Int)=some (.inr (v,((k:Int),())))):=by
  intro n
  induction n with
  | zero=>intro i h; exact absurd h (Zav _)
  | succ n ih =>
   intro i h hi
   rw [AV]
   by_cases hx:i<l.length
   · have hd:l.drop i=l[i]::l.drop (i+1):=Zaj hx
     rw [show decide ((i:Int)<(l.length:Int))=true by simp; omega,Zac,Cb hx,Zaa,hd,wN i (by omega),List.any_cons]
     change ((Cw v l[i] || (l.drop (i+1)).any (Cw v))=false→(bif Cw v l[i] then _ else _)=_)∧((Cw v l[i] || (l.drop (i+1)).any (Cw v))=true→∃ k:Nat,(bif Cw v l[i] then _ else _)=_)
     cases Cw v l[i] with
     | true=>exact⟨(fun h=>by cases h),fun _=>⟨i,rfl⟩⟩
     | false=>simpa using ih (i+1) (by omega) (by omega)
   · have hd:l.drop i=[]:=by simp; omega
     rw [show decide ((i:Int)<(l.length:Int))=false by simp; omega,hd]
     exact⟨fun _=>rfl,fun h=>by cases h⟩
 obtain⟨h1,h2⟩:=H n 0 (by omega) (by omega)
 rw [show((0:Nat):Int)=0 from rfl,Zay] at h1 h2
 unfold BM DW
 cases hc:l.any (Cw v) with
 | false=>rw [h1 hc]; rfl
 | true =>
  obtain⟨k,hk⟩:=h2 hc
  rw [hk]
  simp
def Bo (r:Ab):Bool:=EJ r.machine 0 999 && (EJ r.seq 1 9999 && (EJ r.minute 0 1000000 && (bif decide (r.kind.n=0) then EJ r.a 0 99 && EJ r.b 0 10000 else bif decide (r.kind.n=1) then EJ r.a 0 1000000 && decide (r.b=0) else EJ r.a 0 9999 && EJ r.b 0 10000000)))
theorem Y8 (n:Nat) (r:Ab) (hk:Ro r):BU n r=some (Bo r,()):=by
 obtain⟨hk0,hk1⟩:=hk
 have h4:r.kind.n=0∨r.kind.n=1∨r.kind.n=2:=by omega
 unfold BU Bo EJ
 obtain⟨machine,seq,minute,⟨k⟩,a,b⟩:=r
 simp only at h4 ⊢
 cases decide (0≤machine) with
 | false=>rfl
 | true =>
 cases decide (machine≤999) with
 | false=>rfl
 | true =>
 cases decide (1≤seq) with
 | false=>rfl
 | true =>
 cases decide (seq≤9999) with
 | false=>rfl
 | true =>
 cases decide (0≤minute) with
 | false=>rfl
 | true =>
 cases decide (minute≤1000000) with
 | false=>rfl
 | true =>
 rcases h4 with rfl | rfl | rfl
 · show(bif decide (0≤a) then(bif decide (a≤99) then(bif decide (0≤b) then(some (decide (b≤10000),())) else some (false,())) else some (false,())) else some (false,()))=_
   cases decide (0≤a) <;> cases decide (a≤99) <;> cases decide (0≤b) <;> simp
 · show(bif decide (0≤a) then(bif decide (a≤1000000) then(some (decide (b=0),())) else some (false,())) else some (false,()))=_
   cases decide (0≤a) <;> cases decide (a≤1000000) <;> simp
 · show(bif decide (0≤a) then(bif decide (a≤9999) then(bif decide (0≤b) then(some (decide (b≤10000000),())) else some (false,())) else some (false,())) else some (false,()))=_
   cases decide (0≤a) <;> cases decide (a≤9999) <;> cases decide (0≤b) <;> simp
theorem Io {α A B:Type} {F:Nat→Int→Option (A ⊕ B)} {G:Nat→Int→α→Option (A ⊕ B)} (l:List α) (p:α→Bool) (okv:A) (bad:Int→B) (N:Nat) (hl:l.length≤4000000000000000000)
  (hF:∀ n i,F (n+1) i=bif decide (i<(l.length:Int)) then(A4 l i).bind (G n i) else some (.inl okv))
  (hG:∀ n (i:Nat) (hi:i<l.length),N≤n→G n (i:Int) l[i]=bif p l[i] then F n (IntKind.i64.wrap ((i:Int)+1)) else some (.inr (bad (i:Int)))) {n:Nat} (hn:N+l.length<n) :
  (l.all p=true→F n 0=some (.inl okv))∧(l.all p=false→∃ k:Nat,F n 0=some (.inr (bad (k:Int)))):=by
 have key:=R9 (F:=fun n (_:Unit) i=>F n i) (l:=l) (N:=N) (T:=fun s i a=>bif p a then .inl s else .inr (.inr (bad (i:Int)))) (E:=fun _=>.inl okv)
  (B:=fun n _ i v0=>G n i v0) (fun _ _=>True) (fun n _ i=>hF n i) (fun n s i hi hN _=>by
   rw [hG n i hi hN]
   cases p l[i]
   · rfl
   · exact⟨rfl,trivial⟩) hl l.length () 0 n (by simp) (by omega) trivial
 rw [show((0:Nat):Int)=0 from rfl,Zay] at key
 obtain⟨h1,h2⟩:=SM (R:=A ⊕ B) p (fun i=>.inr (bad (i:Int))) (.inl okv) l 0
 exact⟨fun h=>by rw [key,h1 h],fun h=>by obtain⟨k,hk⟩:=h2 h; exact⟨k,by rw [key,hk]⟩⟩
def Ky (lists:List (List Ab)):Int:=if 6<lists.length then 3 else bif lists.all (fun l=>decide (l.length≤60)) then(bif lists.all (fun l=>l.all Bo) then 0 else 1) else 3
theorem Wx (lists:List (List Ab)):Ky lists=0∨Ky lists=1∨Ky lists=3:=by
 unfold Ky
 split
 · simp
 · cases lists.all (fun l=>decide (l.length≤60)) <;> cases lists.all (fun l=>l.all Bo) <;> simp
theorem Rp {n:Nat} {l:List Ab} (hk:∀ r∈l,Ro r) (hl:l.length≤1000) (h:l.length<n) :
 (l.all Bo=true→Bh n l (l.length:Int) 0=some (.inl ((((),()),()),())))∧(l.all Bo=false→∃ k:Nat,Bh n l (l.length:Int) 0=some (.inr ((((),()),()),((k:Int),())))):=Io (F:=fun n i=>Bh n l (l.length:Int) i) (G:=fun n i v0=>(BU n v0).bind fun v1=>bif !v1.fst then(some (.inr ((((),()),()),(i,())))) else Bh n l (l.length:Int) (IntKind.i64.wrap (i+1))) l Bo ((((),()),()),()) (fun i=>((((),()),()),(i,()))) 0 (by omega) (fun _ _=>rfl) (fun n i hi _=>by
 rw [Y8 n _ (hk _ (Za9 hi))]
 cases Bo l[i] <;> rfl) (n:=n) (by omega)
theorem Rq {n:Nat} {lists:List (List Ab)} (hl:lists.length≤1000) (h:lists.length<n) :
 (lists.all (fun l=>decide (l.length≤60))=true→Bt n lists (lists.length:Int) 0=some (.inl ((((),()),()),())))∧(lists.all (fun l=>decide (l.length≤60))=false→∃ k:Nat,Bt n lists (lists.length:Int) 0=some (.inr ((((),()),()),((k:Int),())))):=Io (F:=fun n i=>Bt n lists (lists.length:Int) i) (G:=fun n i v0=>bif !decide ((v0.length:Int)≤60) then(some (.inr ((((),()),()),(i,())))) else Bt n lists (lists.length:Int) (IntKind.i64.wrap (i+1))) lists (fun l=>decide (l.length≤60)) ((((),()),()),()) (fun i=>((((),()),()),(i,()))) 0 (by omega) (fun _ _=>rfl) (fun n i hi _=>by
 have:decide ((lists[i].length:Int)≤60)=decide (lists[i].length≤60):=by
  by_cases h:lists[i].length≤60
  · rw [Zak h]; exact Zak (by omega)
  · rw [Zah h]; exact Zah (by omega)
 rw [this]
 cases decide (lists[i].length≤60) <;> rfl) (n:=n) (by omega)
theorem Rr {n:Nat} {lists:List (List Ab)} (hk:∀ l∈lists,∀ r∈l,Ro r) (hl:lists.length≤1000) (hl2:∀ l∈lists,l.length≤1000) (h:1001+lists.length<n) :
 (lists.all (fun l=>l.all Bo)=true→AD n lists (lists.length:Int) 0=some (.inl ((((),()),()),())))∧(lists.all (fun l=>l.all Bo)=false→∃ k:Nat,AD n lists (lists.length:Int) 0=some (.inr ((((),()),()),((k:Int),())))):=Io (F:=fun n i=>AD n lists (lists.length:Int) i) (G:=fun n i v0=>(Bh n v0 (v0.length:Int) 0).bind fun v1=>Sum.elim (fun v2=>AD n lists (lists.length:Int) (IntKind.i64.wrap (i+1))) (fun v2=>bif !!decide (v2.snd.fst≥0) then(some (.inr ((((),()),()),(i,())))) else AD n lists (lists.length:Int) (IntKind.i64.wrap (i+1))) (v1)) lists (fun l=>l.all Bo) ((((),()),()),()) (fun i=>((((),()),()),(i,()))) 1001 (by omega) (fun _ _=>rfl) (fun n i hi hn=>by
 obtain⟨h1,h2⟩:=Rp (n:=n) (l:=lists[i]) (hk _ (Za9 hi)) (hl2 _ (Za9 hi)) (by have:=hl2 _ (Za9 hi); omega)
 cases ha:lists[i].all Bo with
 | true=>rw [h1 ha]; rfl
 | false =>
  obtain⟨k,hk⟩:=h2 ha
  rw [hk]
  simp only [Zaa,Sum.elim_inr]
  rw [show decide ((k:Int)≥0)=true by simp]
  rfl) (n:=n) (by omega)
theorem Wy {n:Nat} {lists:List (List Ab)} (hk:∀ l∈lists,∀ r∈l,Ro r) (hl:lists.length≤1000) (hl2:∀ l∈lists,l.length≤1000) (h:1001+lists.length<n):Fo n lists=some (Ky lists,()):=by
 unfold Fo Ky
 by_cases h6:6<lists.length
 · rw [show decide ((lists.length:Int)>6)=true by simp; omega,if_pos h6]; rfl
 · rw [show decide ((lists.length:Int)>6)=false by simp; omega,if_neg h6,ZaI,Zac]
   obtain⟨a1,a2⟩:=Rq (n:=n) (lists:=lists) hl (by omega)
   obtain⟨b1,b2⟩:=Rr (n:=n) hk hl hl2 h
   cases ha:lists.all (fun l=>decide (l.length≤60)) with
   | false =>
    obtain⟨k,hk⟩:=a2 ha
    rw [hk]
    simp only [Zaa,Sum.elim_inr]
    rw [show decide ((k:Int)≥0)=true by simp]
    rfl
   | true =>
    rw [a1 ha]
    simp only [Zaa,Za8]
    cases hb:lists.all (fun l=>l.all Bo) with
    | false =>
     obtain⟨k,hk⟩:=b2 hb
     rw [hk]
     simp only [Zaa,Sum.elim_inr]
     rw [show decide ((k:Int)≥0)=true by simp]
     rfl
    | true=>rw [b1 hb]; rfl
def KU:List (List Ab)→Nat
 | []=>0
 | l::r=>l.length+KU r
theorem XJ:∀ (r:List (List Ab)),(∀ l∈r,l.length≤1000)→KU r≤r.length*1000
 | [],_=>by simp [KU]
 | l::r,h=>by
  have h1:=XJ r fun x hx=>h x (by simp [hx])
  have h2:=h l (by simp)
  simp only [KU,Zas]
  omega
theorem Ut:∀ (r:List (List Ab)),r.flatten.length=KU r
 | []=>rfl
 | l::r=>by simp [KU,Ut r]
theorem LR (full:List (List Ab)) (hl:full.length≤1000) (hl2:∀ l∈full,l.length≤1000):∀ (n i s:Nat),full.length-i<n→i≤full.length→s≤i*1000→GX n full (s:Int) full (full.length:Int) (i:Int)=some (full,(((s+KU (full.drop i):Nat):Int),()))
 | 0,_,_,h,_,_=>absurd h (Zav _)
 | n+1,i,s,h,hi,hs=>by
  rw [GX]
  by_cases hx:i<full.length
  · have hd:full.drop i=full[i]::full.drop (i+1):=Zaj hx
    have h2:=hl2 _ (Za9 hx)
    have e:IntKind.i64.wrap ((s:Int)+(full[i].length:Int))=((s+full[i].length:Nat):Int):=by rw [LP (by omega) (by omega)]; omega
    rw [show decide ((i:Int)<(full.length:Int))=true by simp; omega,Zac,Cb hx,Zaa,e,show decide (((s+full[i].length:Nat):Int)<0)=false from Zah (by omega),Zad,wN i (by omega),LR full hl hl2 n (i+1) _ (by omega) (by omega) (by omega),hd]
    simp only [KU]
    rw [Zbk]
  · have hd:full.drop i=[]:=by simp; omega
    rw [show decide ((i:Int)<(full.length:Int))=false by simp; omega,hd]
    simp [KU]
theorem LS (full:List (List Ab)) (hl:full.length≤1000) (hl2:∀ l∈full,l.length≤1000):∀ (n i:Nat)(acc:List Ab),full.length-i<n→i≤full.length→acc.length≤i*1000→GY n acc full (full.length:Int) (i:Int)=some (acc++(full.drop i).flatten,())
 | 0,_,_,h,_,_=>absurd h (Zav _)
 | n+1,i,acc,h,hi,hs=>by
  rw [GY]
  by_cases hx:i<full.length
  · have hd:full.drop i=full[i]::full.drop (i+1):=Zaj hx
    have h2:=hl2 _ (Za9 hx)
    rw [show decide ((i:Int)<(full.length:Int))=true by simp; omega,Zac,Cb hx,Zaa,B6 (by omega),Zaa,wN i (by omega),LS full hl hl2 n (i+1) _ (by omega) (by omega) (by simp; omega),hd,List.flatten_cons,ZaC]
  · have hd:full.drop i=[]:=by simp; omega
    rw [show decide ((i:Int)<(full.length:Int))=false by simp; omega,hd]
    simp
theorem Y9 {n:Nat} {lists:List (List Ab)} (hl:lists.length≤1000) (hl2:∀ l∈lists,l.length≤1000) (h:lists.length<n):ON n lists=some (lists.flatten,()):=by
 unfold ON
 have h1:=LR lists hl hl2 n 0 0 (by omega) (by omega) (by omega)
 have h2:=LS lists hl hl2 n 0 [] (by omega) (by omega) (by simp)
 have h3:=XJ lists hl2
 rw [show((0:Nat):Int)=0 from rfl] at h1 h2
 rw [Zay,Zar] at h1
 rw [Zay,Za6] at h2
 rw [h1]
 simp only [Zaa]
 rw [show(decide ((0:Int)≤((KU lists:Nat):Int)) && decide (((KU lists:Nat):Int)≤1000000000))=true by simp; omega,Zac,Zaa,h2]
 rfl
def zR:Ab:=Ab.mk 0 0 0 (IK.mk 0) 0 0
def BE (r:Ab):FX:=FX.mk r.machine r.seq
def Rh:List (FX×Ab)→List Ab→List Ab→Option (List Ab)
 | _,o,[]=>some o
 | m,o,r::l=>bif Dm Ax m (BE r) then(bif Cw (AN Ax m (BE r) zR) r then Rh m o l else none) else Rh (Fe Ax m (BE r) r) (o++[r]) l
theorem LU (full:List Ab) (hl:full.length≤1000000):∀ (n i:Nat)(m:List (FX×Ab))(o:List Ab),full.length-i<n→i≤full.length→o.length≤i→match Rh m o (full.drop i) with
  | some o'=>∃ m',Ba n m o full (full.length:Int) (i:Int)=some (.inl (m',(o',())))
  | none=>∃ m',Ba n m o full (full.length:Int) (i:Int)=some (.inr (m',([],(6,()))))
 | 0,_,_,_,h,_,_=>absurd h (Zav _)
 | n+1,i,m,o,h,hi,ho=>by
  rw [Ba]
  by_cases hx:i<full.length
  · have hd:full.drop i=full[i]::full.drop (i+1):=Zaj hx
    rw [show decide ((i:Int)<(full.length:Int))=true by simp; omega,Zac,Cb hx,Zaa,hd,wN i (by omega)]
    have ih:=fun m o=>LU full hl n (i+1) m o (by omega) (by omega)
    have happ:app o [full[i]]=some (o++[full[i]]):=B6 (by simp; omega)
    unfold Rh
    change match (bif Dm Ax m (BE full[i]) then(bif Cw (AN Ax m (BE full[i]) zR) full[i] then Rh m o (full.drop (i+1)) else none) else Rh (Fe Ax m (BE full[i]) full[i]) (o++[full[i]]) (full.drop (i+1))) with
     | some o'=>∃ m',(bif Dm Ax m (BE full[i]) then(bif !Cw (AN Ax m (BE full[i]) zR) full[i] then _ else(bif !Dm Ax m (BE full[i]) then _ else _)) else(bif !Dm Ax m (BE full[i]) then _ else _))=_
     | none=>∃ m',(bif Dm Ax m (BE full[i]) then(bif !Cw (AN Ax m (BE full[i]) zR) full[i] then _ else(bif !Dm Ax m (BE full[i]) then _ else _)) else(bif !Dm Ax m (BE full[i]) then _ else _))=_
    cases hm:Dm Ax m (BE full[i]) with
    | true =>
     cases Cw (AN Ax m (BE full[i]) zR) full[i] with
     | true =>
      simp only [Zac,ZaM,Zad]
      exact ih m o (by omega)
     | false=>exact⟨m,rfl⟩
    | false =>
     simp only [Zac,ZaI,Zad]
     rw [happ]
     simp only [Zaa]
     exact ih _ _ (by simp; omega)
  · have hd:full.drop i=[]:=by simp; omega
    rw [show decide ((i:Int)<(full.length:Int))=false by simp; omega,hd]
    exact⟨m,rfl⟩
def Aam (a b:Ab):Bool:=decide (a.machine=b.machine) && decide (a.minute>b.minute)
def KV:List Ab→Bool
 | a::b::r=>!Aam a b && KV (b::r)
 | _=>true
theorem LV (full:List Ab) (hl:full.length≤1000000):∀ (n i:Nat),full.length-i<n→i≤full.length→B7 n full (full.length:Int) (i:Int)=some (bif KV (full.drop (i-1)) then .inl (full,()) else .inr ([],(6,())))
 | 0,_,h,_=>absurd h (Zav _)
 | n+1,i,h,hi=>by
  rw [B7]
  by_cases hx:i<full.length
  · rw [show decide ((i:Int)<(full.length:Int))=true by simp; omega,Zac,Cb hx,Zaa,show((i:Nat):Int).toNat=i from rfl,Ug hx,Zaa,wN i (by omega)]
    have ih:=LV full hl n (i+1) (by omega) (by omega)
    rw [show i+1-1=i by omega] at ih
    by_cases h0:i=0
    · subst h0
      rw [show decide (((0:Nat):Int)>0)=false from rfl,Zad,ih]
    · have hx1:i-1<full.length:=by omega
      have e:IntKind.i64.wrap ((i:Int)-1)=((i-1:Nat):Int):=by rw [LP (by omega) (by omega)]; omega
      rw [show decide ((i:Int)>0)=true from Zak (by omega),Zac,e,Cb hx1,Zaa,show((i-1:Nat):Int).toNat=i-1 from rfl,Ug hx1,Zaa]
      simp only [Zaa]
      have hd:full.drop (i-1)=full[i-1]::full[i]::full.drop (i+1):=by
       rw [Zaj hx1,show i-1+1=i by omega,Zaj hx]
      have hd2:full.drop i=full[i]::full.drop (i+1):=Zaj hx
      rw [hd2] at ih
      rw [hd,ih]
      simp only [KV,Aam]
      cases decide (full[i-1].machine=full[i].machine) <;> cases decide (full[i-1].minute>full[i].minute) <;> simp
  · have hi':i=full.length:=by omega
    rw [show decide ((i:Int)<(full.length:Int))=false by simp; omega,Zad]
    have:KV (full.drop (i-1))=true:=by
     rcases ZaW full.length with h0 | h0
     · have:full=[]:=List.length_eq_zero_iff.1 h0
       subst this
       simp [KV]
     · have hx1:i-1<full.length:=by omega
       rw [Zaj hx1,show i-1+1=full.length by omega,List.drop_length]
       rfl
    rw [this]; rfl
theorem RF {α:Type} (eq:α→α→Bool) (x:α):∀ l,CO eq (l++[x])=(CO eq l && !l.any (fun a=>eq a x))
 | []=>by simp [CO]
 | y::r=>by
  rw [ZaP,CO,CO,RF eq x r,List.any_append,List.any_cons]
  simp only [List.any_cons,List.any_nil,Bool.or_false]
  cases r.any (eq y) <;> cases eq y x <;> cases CO eq r <;> cases r.any (fun a=>eq a x) <;> rfl
def Aer (a b:Ab):Bool:=a.machine == b.machine && a.seq == b.seq
theorem Acx {a b:Ab}:Aer a b=true↔BE a=BE b:=by simp [Aer,BE]
theorem OW:∀ (l:List Ab)(m:List (FX×Ab))(o o':List Ab),Rh m o l=some o'→(∀ a∈o,Dm Ax m (BE a)=true)→CO Aer o=true→CO Aer o' = true
 | [],m,o,o',h,_,hd=>by cases h; exact hd
 | r::l,m,o,o',h,hm,hd=>by
  unfold Rh at h
  cases hr:Dm Ax m (BE r) with
  | true =>
   rw [hr,Zac] at h
   cases hs:Cw (AN Ax m (BE r) zR) r with
   | true=>rw [hs,Zac] at h; exact OW l m o o' h hm hd
   | false=>rw [hs] at h; cases h
  | false =>
   rw [hr,Zad] at h
   refine OW l _ _ o' h (fun a ha=>?_) ?_
   · rw [MY GB]
     rcases Zap.1 ha with ha | ha
     · exact .inr (hm a ha)
     · rw [Za7.1 ha]; exact .inl rfl
   · rw [RF,hd,ZaS]
     have:o.any (fun a=>Aer a r)=false:=by
      rw [List.any_eq_false]
      intro a ha he
      have:=hm a ha
      rw [Acx.1 he,hr] at this; cases this
     rw [this]; rfl
theorem SO:∀ (l:List Ab)(m:List (FX×Ab))(o o':List Ab),Rh m o l=some o'→∀ a∈o',a∈o∨a∈l
 | [],m,o,o',h=>by cases h; exact fun a ha=>.inl ha
 | r::l,m,o,o',h=>by
  unfold Rh at h
  cases hr:Dm Ax m (BE r) with
  | true =>
   rw [hr,Zac] at h
   cases hs:Cw (AN Ax m (BE r) zR) r with
   | true =>
    rw [hs,Zac] at h
    intro a ha
    rcases SO l m o o' h a ha with h' | h'
    · exact .inl h'
    · exact .inr (by simp [h'])
   | false=>rw [hs] at h; cases h
  | false =>
   rw [hr,Zad] at h
   intro a ha
   rcases SO l _ _ o' h a ha with h' | h'
   · rcases Zap.1 h' with h' | h'
     · exact .inl h'
     · exact .inr (by rw [Za7.1 h']; simp)
   · exact .inr (by simp [h'])
theorem SP:∀ (l:List Ab)(m:List (FX×Ab))(o o':List Ab),Rh m o l=some o'→o'.length≤o.length+l.length
 | [],m,o,o',h=>by cases h; simp
 | r::l,m,o,o',h=>by
  unfold Rh at h
  cases hr:Dm Ax m (BE r) with
  | true =>
   rw [hr,Zac] at h
   cases hs:Cw (AN Ax m (BE r) zR) r with
   | true =>
    rw [hs,Zac] at h
    have:=SP l m o o' h
    simp; omega
   | false=>rw [hs] at h; cases h
  | false =>
   rw [hr,Zad] at h
   have:=SP l _ _ o' h
   simp at this ⊢; omega
theorem HJ {α:Type}:∀ (l:List α),AZ l=l.length
 | []=>rfl
 | a::l=>by simp [AZ,HJ l]
theorem Acy {o:List Ab} (hl:o.length≤1000000) (hr:∀ a∈o,Bo a=true) (hd:CO Aer o=true):Z4 o=some (Ev Jl o):=by
 unfold Z4
 have h1:Nat.blt (AZ o) 4611686018427387904=true:=by rw [HJ]; exact Za1 (by omega)
 have h2:o.all (fun a=>TO a.machine && TO a.seq)=true:=by
  rw [ZaE]
  intro a ha
  have:=hr a ha
  unfold Bo at this
  simp only [Zax,EX] at this
  simp [TO]; omega
 have h3:CO (fun a b:Ab=>a.machine == b.machine && a.seq == b.seq) o=true:=hd
 rw [h1,h2,h3]; rfl
def Gr (lists:List (List Ab)):Int ⊕ List Ab :=
 if Ky lists≠0 then .inl (Ky lists) else match Rh [] [] lists.flatten with
  | none=>.inl 6
  | some o=>bif KV (Ev Jl o) then .inr (Ev Jl o) else .inl 6
theorem Uu {lists:List (List Ab)} {e:Int} (h:Gr lists=.inl e):e=1∨e=3∨e=6:=by
 unfold Gr at h
 have:=Wx lists
 split at h
 · cases h; omega
 · split at h
   · cases h; simp
   · rename_i o _
     cases ho:KV (Ev Jl o) with
     | true=>rw [ho] at h; cases h
     | false=>rw [ho] at h; cases h; simp
theorem YA {lists:List (List Ab)} (h:Ky lists=0):lists.length≤6∧(∀ l∈lists,l.length≤60)∧∀ l∈lists,∀ r∈l,Bo r=true:=by
 unfold Ky at h
 split at h
 · omega
 · rename_i h6
   cases ha:lists.all (fun l=>decide (l.length≤60)) with
   | false=>rw [ha] at h; simp at h
   | true =>
    rw [ha,Zac] at h
    cases hb:lists.all (fun l=>l.all Bo) with
    | false=>rw [hb] at h; simp at h
    | true=>exact⟨by omega,fun l hl=>by simpa using ZaE.1 ha l hl,fun l hl=>ZaE.1 (ZaE.1 hb l hl)⟩
theorem RG {n:Nat} {lists:List (List Ab)} (hk:∀ l∈lists,∀ r∈l,Ro r) (hl:lists.length≤1000) (hl2:∀ l∈lists,l.length≤1000) (h:1001+lists.length<n):D7 n lists=some (match Gr lists with | .inl e=>([],(e,())) | .inr s=>(s,(0,()))):=by
 unfold D7 Gr
 rw [Wy hk hl hl2 h,Zaa]
 simp only
 by_cases hc:Ky lists=0
 · rw [hc,show((0:Int) != 0)=false from rfl,Zad,if_neg (by simp)]
   obtain⟨h6,h60,hR⟩:=YA hc
   have hs:KU lists≤360:=by
    have H:∀ (r:List (List Ab)),(∀ l∈r,l.length≤60)→KU r≤r.length*60:=by
     intro r
     induction r with
     | nil=>intro _; simp [KU]
     | cons l r ih =>
      intro h
      have h1:=ih fun x hx=>h x (by simp [hx])
      have h2:=h l (by simp)
      simp only [KU,Zas]
      omega
    have:=H lists h60
    omega
   have hfl:=Ut lists
   rw [Y9 hl hl2 (by omega),Zaa]
   simp only
   have h1:=LU lists.flatten (by omega) n 0 [] [] (by omega) (by omega) (by simp)
   rw [show((0:Nat):Int)=0 from rfl,Zay] at h1
   cases hm:Rh [] [] lists.flatten with
   | none =>
    rw [hm] at h1
    obtain⟨m',e⟩:=h1
    rw [e]; rfl
   | some o =>
    rw [hm] at h1
    obtain⟨m',e⟩:=h1
    have hol:o.length≤360:=by
     have:=SP _ _ _ _ hm
     rw [Zbh,Zar] at this
     omega
    have hod:=OW _ _ _ _ hm (by simp) rfl
    have hos:=SO _ _ _ _ hm
    have hor:∀ a∈o,Bo a=true:=fun a ha=>by
     rcases hos a ha with h' | h'
     · simp at h'
     · obtain⟨l,hl1,hl2⟩:=List.mem_flatten.1 h'
       exact hR l hl1 a hl2
    have hsl:(Ev Jl o).length=o.length:=HI _ _
    have h2:=LV (Ev Jl o) (by omega) n 0 (by omega) (by omega)
    rw [show((0:Nat):Int)=0 from rfl,Zay] at h2
    rw [e]
    simp only [Zaa,Za8]
    rw [Acy (by omega) hor hod]
    simp only [Zaa]
    rw [h2]
    cases KV (Ev Jl o) <;> rfl
 · rw [show(Ky lists != 0)=true by simpa using hc,Zac,if_pos hc]
def Gf (lists:List (List Ab)):Int:=match Gr lists with
 | .inl e=>e
 | .inr s=>if 60<s.length then 3 else 0
theorem Aan {n:Nat} {lists:List (List Ab)} (hk:∀ l∈lists,∀ r∈l,Ro r) (hl:lists.length≤1000) (hl2:∀ l∈lists,l.length≤1000) (h:1001+lists.length<n):∃ x,Gz n lists=some (x,(Gf lists,())):=by
 unfold Gz Gf
 rw [RG hk hl hl2 h,Zaa]
 cases hm:Gr lists with
 | inl e =>
  have:=Uu hm
  simp only
  rw [show(e != 0)=true by simp; omega]
  exact⟨_,rfl⟩
 | inr s =>
  simp only
  rw [show((0:Int) != 0)=false from rfl,Zad]
  by_cases h60:60<s.length
  · rw [show decide ((s.length:Int)>60)=true from Zak (by omega),if_pos h60]; exact⟨_,rfl⟩
  · rw [show decide ((s.length:Int)>60)=false from Zah (by omega),if_neg h60]; exact⟨_,rfl⟩
def wkOk (w:Aq):Prop:=w.days=7∧w.rest=600∧w.run=5∧w.hours=3000∧w.duties.length≤13∧w.drivers.length≤7∧∀ d∈w.drivers,∃ k off,d=AA.mk [k] [] [] off 0 0
def NF (d:AH):Bool:=EJ d.day 0 6 && (EJ d.on 0 1439 && (decide (d.on≤d.off.lo) && (decide (d.off.lo≤d.off.hi) && (decide (d.off.hi≤d.on+1440) && EJ d.route 0 15))))
def Uv (d:AA):Bool:=(d.knows.all fun k=>EJ k 0 15) && EJ d.off (-10080) 1440
theorem Acz (n:Nat) (w:Aq) (d:AH) (hw:w.days=7):C9 n w d=some (NF d,()):=by
 unfold C9 NF EJ
 rw [hw,show IntKind.i64.wrap (7-1)=6 from rfl]
 cases decide (0≤d.day) with
 | false=>rfl
 | true =>
 cases decide (d.day≤6) with
 | false=>rfl
 | true =>
 by_cases h0:0≤d.on
 · by_cases h1:d.on≤1439
   · rw [Zak h0,Zak h1,LP (x:=d.on+1440) (by omega) (by omega)]
     cases decide (d.on≤d.off.lo) <;> cases decide (d.off.lo≤d.off.hi) <;> cases decide (d.off.hi≤d.on+1440) <;> cases decide (0≤d.route) <;> simp
   · rw [Zak h0,Zah h1]; rfl
 · rw [Zah h0]; rfl
theorem YB (n:Nat) (k lo hi:Int):D8 (n+2) [k] lo hi=some (EJ k lo hi,()):=by
 show((bif decide (lo≤k) then(bif !!decide (k≤hi) then _ else some (.inr (false,()))) else some (.inr (false,()))):Option (Unit ⊕ ((Bool×Unit)))).bind _=_
 unfold EJ
 cases decide (lo≤k) <;> cases decide (k≤hi) <;> rfl
theorem YC (n:Nat) (lo hi:Int):D8 (n+1) [] lo hi=some (true,()):=rfl
theorem YD (n:Nat) (w:Aq) (d:AA) (hw:w.days=7) (hh:w.hours=3000) (hd:∃ k off,d=AA.mk [k] [] [] off 0 0):BX (n+2) w d=some (Uv d,()):=by
 obtain⟨k,off,rfl⟩:=hd
 unfold BX Uv
 rw [hw,hh,YB]
 simp only [Zaa,YC]
 simp only [ZaT,List.all_nil,Bool.and_true]
 unfold EJ
 cases (decide (0≤k) && decide (k≤15)) <;> cases decide (-10080≤off) <;> cases decide (off≤1440) <;> rfl
def D1 (w:Aq):Int:=if 12<w.duties.length then 3 else if 6<w.drivers.length then 3 else bif w.duties.all NF then(bif w.drivers.all Uv then 0 else 1) else 1
theorem Wz {n:Nat} {w:Aq} (hw:wkOk w) (h:20<n) :
  (w.duties.all NF=true→AF n w.duties w (w.duties.length:Int) 0=some (.inl ((((w,()),()),()),())))∧(w.duties.all NF=false→∃ k:Nat,AF n w.duties w (w.duties.length:Int) 0=some (.inr ((((w,()),()),()),((k:Int),())))) :=
 Io (F:=fun n i=>AF n w.duties w (w.duties.length:Int) i) (G:=fun n i v0=>(C9 n w v0).bind fun v1=>bif !v1.fst then(some (.inr ((((w,()),()),()),(i,())))) else AF n w.duties w (w.duties.length:Int) (IntKind.i64.wrap (i+1))) w.duties NF ((((w,()),()),()),()) (fun i=>((((w,()),()),()),(i,()))) 0 (by have:=hw.2.2.2.2.1; omega) (fun _ _=>rfl) (fun n i hi _=>by
  rw [Acz n w _ hw.1]
  cases NF w.duties[i] <;> rfl) (n:=n) (by have:=hw.2.2.2.2.1; omega)
theorem W3 {n:Nat} {w:Aq} (hw:wkOk w) (h:20<n) :
  (w.drivers.all Uv=true→AG n w.drivers w (w.drivers.length:Int) 0=some (.inl ((((w,()),()),()),())))∧(w.drivers.all Uv=false→∃ k:Nat,AG n w.drivers w (w.drivers.length:Int) 0=some (.inr ((((w,()),()),()),((k:Int),())))) :=
 Io (F:=fun n i=>AG n w.drivers w (w.drivers.length:Int) i) (G:=fun n i v0=>(BX n w v0).bind fun v1=>bif !v1.fst then(some (.inr ((((w,()),()),()),(i,())))) else AG n w.drivers w (w.drivers.length:Int) (IntKind.i64.wrap (i+1))) w.drivers Uv ((((w,()),()),()),()) (fun i=>((((w,()),()),()),(i,()))) 2 (by have:=hw.2.2.2.2.2.1; omega) (fun _ _=>rfl) (fun n i hi hn=>by
  obtain⟨m,rfl⟩:∃ m,n=m+2:=⟨n-2,by omega⟩
  rw [YD m w _ hw.1 hw.2.2.2.1 (hw.2.2.2.2.2.2 _ (Za9 hi))]
  cases Uv w.drivers[i] <;> rfl) (n:=n) (by have:=hw.2.2.2.2.2.1; omega)
theorem Ip {n:Nat} {w:Aq} (hw:wkOk w) (h:20<n):BN n w=some (D1 w,()):=by
 unfold BN D1
 have hw':=hw
 obtain⟨h1,h2,h3,h4,_⟩:=hw'
 rw [h1,h2,h3,h4]
 by_cases h12:12<w.duties.length
 · rw [show decide ((w.duties.length:Int)>12)=true from Zak (by omega),if_pos h12]; rfl
 · rw [show decide ((w.duties.length:Int)>12)=false from Zah (by omega),if_neg h12]
   by_cases h6:6<w.drivers.length
   · rw [show decide ((w.drivers.length:Int)>6)=true from Zak (by omega),if_pos h6]; rfl
   · rw [show decide ((w.drivers.length:Int)>6)=false from Zah (by omega),if_neg h6]
     obtain⟨a1,a2⟩:=Wz hw h
     obtain⟨b1,b2⟩:=W3 hw h
     show(AF n w.duties w (w.duties.length:Int) 0).bind _=_
     cases ha:w.duties.all NF with
     | false =>
      obtain⟨k,hk⟩:=a2 ha
      rw [hk]
      simp only [Zaa,Sum.elim_inr]
      rw [show decide ((k:Int)≥0)=true by simp]
      rfl
     | true =>
      rw [a1 ha]
      simp only [Zaa,Za8]
      cases hb:w.drivers.all Uv with
      | false =>
       obtain⟨k,hk⟩:=b2 hb
       rw [hk]
       simp only [Zaa,Sum.elim_inr]
       rw [show decide ((k:Int)≥0)=true by simp]
       rfl
      | true=>rw [b1 hb]; rfl
abbrev SQ (x:Int):Int:=IntKind.i64.wrap x
def LW:Ai:=Ai.mk 0 0 0 0
def OX (s:Ai) (d:AH) (e:Int):Ai :=
 bif decide (s.day=d.day) then Ai.mk s.free s.row (SQ (s.used+SQ (e-d.on))) s.day else
 bif s.day != SQ (d.day-1) then Ai.mk (SQ (SQ (d.day*1440)+e)) (SQ (0+1)) (SQ (s.used+SQ (e-d.on))) d.day else
 Ai.mk (SQ (SQ (d.day*1440)+e)) (SQ (s.row+1)) (SQ (s.used+SQ (e-d.on))) d.day
theorem XK (n:Nat) (s:Ai) (d:AH) (e:Int):Cq n s d e=some (OX s d e,()):=by
 unfold Cq OX
 cases decide (s.day=d.day)
 · cases s.day != IntKind.i64.wrap (d.day-1) <;> rfl
 · rfl
def Jc (w:Aq) (k:Int) (d:AH) (s:Ai):Nat→Bool
 | 0=>match A4 w.drivers k with
  | some v=>v.knows.any fun x=>decide (d.route=x)
  | none=>true
 | 1=>true
 | 2=>s.day != d.day
 | 3=>bif !decide (s.day=d.day) then decide (SQ (SQ (SQ (d.day*1440)+d.on)-s.free)≥w.rest) else true
 | _=>bif !decide (s.day=d.day) then decide ((OX s d d.on).row≤w.run) else true
theorem Aao {n:Nat} {w:Aq} {k:Int} {d:AH} {s:Ai} {v:AA} (hv:A4 w.drivers k=some v) (hk:∃ x off,v=AA.mk [x] [] [] off 0 0):Cp (n+2) w k d s=some (Jc w k d s 0,()):=by
 obtain⟨x,off,rfl⟩:=hk
 unfold Cp Jc
 rw [hv]
 show((bif decide (d.route=x) then some (.inr (0,())) else some (.inl ()):Option (Unit ⊕ (Int×Unit))).bind _)=_
 simp only [List.any_cons,List.any_nil,Bool.or_false]
 cases decide (d.route=x) <;> rfl
theorem Ac0 {n:Nat} {w:Aq} {k:Int} {d:AH} {s:Ai} {v:AA} (hv:A4 w.drivers k=some v) (hk:∃ x off,v=AA.mk [x] [] [] off 0 0):CC (n+1) w k d s=some (Jc w k d s 1,()):=by
 obtain⟨x,off,rfl⟩:=hk
 unfold CC Jc
 rw [hv]; rfl
theorem YE {n:Nat} {w:Aq} {k:Int} {d:AH} {s:Ai}:Dc n w k d s=some (Jc w k d s 2,()):=rfl
theorem YF {n:Nat} {w:Aq} {k:Int} {d:AH} {s:Ai}:BY n w k d s=some (Jc w k d s 3,()):=by
 unfold BY
 show _=some ((bif !decide (s.day=d.day) then decide (SQ (SQ (SQ (d.day*1440)+d.on)-s.free)≥w.rest) else true),())
 cases decide (s.day=d.day) <;> rfl
theorem Aap {n:Nat} {w:Aq} {k:Int} {d:AH} {s:Ai}:Cr n w k d s=some (Jc w k d s 4,()):=by
 unfold Cr
 show _=some ((bif !decide (s.day=d.day) then decide ((OX s d d.on).row≤w.run) else true),())
 rw [XK]
 cases decide (s.day=d.day) <;> rfl
def Ri (w:Aq) (k i:Int) (d:AH) (s:Ai) (j:Nat):List Ak:=bif Jc w k d s j then [] else [Ak.mk (IK.mk (j:Int)) k i]
def LX (w:Aq) (k i:Int) (d:AH) (s:Ai):List Ak:=Ri w k i d s 0++(Ri w k i d s 1++(Ri w k i d s 2++(Ri w k i d s 3++Ri w k i d s 4)))
abbrev Rs:List AC:=[AC.mk (IK.mk 0) (Fp.mk (↑238:Int)),AC.mk (IK.mk 1) (Fp.mk (↑239:Int)),AC.mk (IK.mk 2) (Fp.mk (↑240:Int)),AC.mk (IK.mk 3) (Fp.mk (↑241:Int)),AC.mk (IK.mk 4) (Fp.mk (↑242:Int))]
section
variable {w:Aq} {truth:List Int} {now:List Ai} {i k:Int} {d:AH} {s:Ai} {v:AA}
theorem Ae1 {n:Nat} {out:List Ak} (h6:now.length.beq 6=true) (hn:A4 now k=some s) (hg:now.get?Internal k.toNat=some s) (hv:A4 w.drivers k=some v) (hk:∃ x off,v=AA.mk [x] [] [] off 0 0) (ho:out.length≤1000) :
  Ac (n+3) w truth out now i d k Rs 5 0=Ac (n+2) w truth (out++Ri w k i d s 0) now i d k Rs 5 1:=by
 rw [Ac]
 show(bif now.length.beq 6 then((A4 now k).bind fun v2=>(now.get?Internal k.toNat).bind fun v3=>((Cp (n+2) w k d v3).bind fun v4=>bif !v4.fst then((app out [Ak.mk (IK.mk 0) k i]).bind fun v5=>Ac (n+2) w truth v5 now i d k Rs 5 1) else Ac (n+2) w truth out now i d k Rs 5 1)) else none)=_
 rw [h6,Zac,hn,Zaa,hg,Zaa,Aao hv hk,Zaa,B6 (by simp; omega)]
 unfold Ri
 cases Jc w k d s 0 <;> simp
theorem Ae2 {n:Nat} {out:List Ak} (h6:now.length.beq 6=true) (hn:A4 now k=some s) (hg:now.get?Internal k.toNat=some s) (hv:A4 w.drivers k=some v) (hk:∃ x off,v=AA.mk [x] [] [] off 0 0) (ho:out.length≤1000) :
  Ac (n+3) w truth out now i d k Rs 5 1=Ac (n+2) w truth (out++Ri w k i d s 1) now i d k Rs 5 2:=by
 rw [Ac]
 show(bif now.length.beq 6 then((A4 now k).bind fun v2=>(now.get?Internal k.toNat).bind fun v3=>((CC (n+2) w k d v3).bind fun v4=>bif !v4.fst then((app out [Ak.mk (IK.mk 1) k i]).bind fun v5=>Ac (n+2) w truth v5 now i d k Rs 5 2) else Ac (n+2) w truth out now i d k Rs 5 2)) else none)=_
 rw [h6,Zac,hn,Zaa,hg,Zaa,Ac0 hv hk,Zaa,B6 (by simp; omega)]
 unfold Ri
 cases Jc w k d s 1 <;> simp
theorem Ae3 {n:Nat} {out:List Ak} (h6:now.length.beq 6=true) (hn:A4 now k=some s) (hg:now.get?Internal k.toNat=some s) (hv:A4 w.drivers k=some v) (hk:∃ x off,v=AA.mk [x] [] [] off 0 0) (ho:out.length≤1000) :
  Ac (n+3) w truth out now i d k Rs 5 2=Ac (n+2) w truth (out++Ri w k i d s 2) now i d k Rs 5 3:=by
 rw [Ac]
 show(bif now.length.beq 6 then((A4 now k).bind fun v2=>(now.get?Internal k.toNat).bind fun v3=>((Dc (n+2) w k d v3).bind fun v4=>bif !v4.fst then((app out [Ak.mk (IK.mk 2) k i]).bind fun v5=>Ac (n+2) w truth v5 now i d k Rs 5 3) else Ac (n+2) w truth out now i d k Rs 5 3)) else none)=_
 rw [h6,Zac,hn,Zaa,hg,Zaa,YE,Zaa,B6 (by simp; omega)]
 unfold Ri
 cases Jc w k d s 2 <;> simp
theorem Ae4 {n:Nat} {out:List Ak} (h6:now.length.beq 6=true) (hn:A4 now k=some s) (hg:now.get?Internal k.toNat=some s) (hv:A4 w.drivers k=some v) (hk:∃ x off,v=AA.mk [x] [] [] off 0 0) (ho:out.length≤1000) :
  Ac (n+3) w truth out now i d k Rs 5 3=Ac (n+2) w truth (out++Ri w k i d s 3) now i d k Rs 5 4:=by
 rw [Ac]
 show(bif now.length.beq 6 then((A4 now k).bind fun v2=>(now.get?Internal k.toNat).bind fun v3=>((BY (n+2) w k d v3).bind fun v4=>bif !v4.fst then((app out [Ak.mk (IK.mk 3) k i]).bind fun v5=>Ac (n+2) w truth v5 now i d k Rs 5 4) else Ac (n+2) w truth out now i d k Rs 5 4)) else none)=_
 rw [h6,Zac,hn,Zaa,hg,Zaa,YF,Zaa,B6 (by simp; omega)]
 unfold Ri
 cases Jc w k d s 3 <;> simp
theorem Ae5 {n:Nat} {out:List Ak} (h6:now.length.beq 6=true) (hn:A4 now k=some s) (hg:now.get?Internal k.toNat=some s) (hv:A4 w.drivers k=some v) (hk:∃ x off,v=AA.mk [x] [] [] off 0 0) (ho:out.length≤1000) :
  Ac (n+3) w truth out now i d k Rs 5 4=Ac (n+2) w truth (out++Ri w k i d s 4) now i d k Rs 5 5:=by
 rw [Ac]
 show(bif now.length.beq 6 then((A4 now k).bind fun v2=>(now.get?Internal k.toNat).bind fun v3=>((Cr (n+2) w k d v3).bind fun v4=>bif !v4.fst then((app out [Ak.mk (IK.mk 4) k i]).bind fun v5=>Ac (n+2) w truth v5 now i d k Rs 5 5) else Ac (n+2) w truth out now i d k Rs 5 5)) else none)=_
 rw [h6,Zac,hn,Zaa,hg,Zaa,Aap,Zaa,B6 (by simp; omega)]
 unfold Ri
 cases Jc w k d s 4 <;> simp
theorem XL (j:Nat):(Ri w k i d s j).length≤1:=by
 unfold Ri
 cases Jc w k d s j <;> simp
theorem Ae6 {n:Nat} {out:List Ak} (h6:now.length.beq 6=true) (hn:A4 now k=some s) (hg:now.get?Internal k.toNat=some s) (hv:A4 w.drivers k=some v) (hk:∃ x off,v=AA.mk [x] [] [] off 0 0) (ho:out.length≤900) :
  Ac (n+10) w truth out now i d k Rs 5 0=some (w,((truth,()),((out++LX w k i d s,()),(now,(d,((),((),(i,((),(k,())))))))))):=by
 have b:=fun j=>XL (w:=w) (i:=i) (k:=k) (d:=d) (s:=s) j
 have b0:=b 0; have b1:=b 1; have b2:=b 2; have b3:=b 3
 rw [show n+10=(n+7)+3 by omega,Ae1 h6 hn hg hv hk (by omega),show n+7+2=(n+6)+3 by omega,Ae2 h6 hn hg hv hk (by simp; omega),show n+6+2=(n+5)+3 by omega,Ae3 h6 hn hg hv hk (by simp; omega),show n+5+2=(n+4)+3 by omega,Ae4 h6 hn hg hv hk (by simp; omega),show n+4+2=(n+3)+3 by omega,Ae5 h6 hn hg hv hk (by simp; omega)]
 rw [Ac]
 simp only [LX,ZaC]
 rfl
end
def EZ (w:Aq) (roster:List Int) (day:Int) (st:List Ak×List Ai) (i:Nat) (d:AH):List Ak×List Ai :=
 bif decide (d.day=day) then(bif decide (roster.getD i (-1)=-1) then st else
  (st.1++LX w (roster.getD i (-1)) (i:Int) d (st.2.getD (roster.getD i (-1)).toNat LW),st.2.set (roster.getD i (-1)).toNat (OX (st.2.getD (roster.getD i (-1)).toNat LW) d d.off.hi))) else st
def Fz (w:Aq) (roster:List Int) (day:Int):Nat→List Ak×List Ai→List AH→List Ak×List Ai
 | _,st,[]=>st
 | i,st,d::r=>Fz w roster day (i+1) (EZ w roster day st i d) r
def K9 (w:Aq) (roster:List Int):Prop:=roster.length=w.duties.length∧∀ x∈roster,-1≤x∧x<(w.drivers.length:Int)
theorem Uw (w:Aq) (k i:Int) (d:AH) (s:Ai):(LX w k i d s).length≤5:=by
 have b:=fun j=>XL (w:=w) (i:=i) (k:=k) (d:=d) (s:=s) j
 have b0:=b 0; have b1:=b 1; have b2:=b 2; have b3:=b 3; have b4:=b 4
 simp only [LX,Zan]
 omega
theorem Adv {w:Aq} {roster truth:List Int} (hw:wkOk w) (h6d:w.drivers.length≤6) (hro:K9 w roster) (htr:truth=w.duties.map fun d=>d.off.hi) (day:Int):∀ (n i:Nat)(st:List Ak×List Ai),100+(w.duties.length-i)<n→i≤w.duties.length→st.1.length≤500+i*5→st.2.length=6 →
  AJ n w roster truth st.1 st.2 day w.duties (w.duties.length:Int) (i:Int)=some (.inl ((w,((roster,()),((truth,()),(((Fz w roster day i st (w.duties.drop i)).1,()),((Fz w roster day i st (w.duties.drop i)).2,()))))),((),((),((),((),((),((day,()),()))))))))
 | 0,_,_,h,_,_,_=>absurd h (Zav _)
 | n+1,i,st,h,hi,ho,hs=>by
  have hwl:=hw.2.2.2.2.1
  rw [AJ]
  by_cases hx:i<w.duties.length
  · have hd:w.duties.drop i=w.duties[i]::w.duties.drop (i+1):=Zaj hx
    have ih:=Adv hw h6d hro htr day n (i+1)
    rw [show decide ((i:Int)<(w.duties.length:Int))=true by simp; omega,Zac,Cb hx,Zaa,hd,wN i (by omega)]
    simp only [Fz]
    generalize hst:EZ w roster day st i w.duties[i]=st'
    unfold EZ at hst
    cases hday:decide (w.duties[i].day=day) with
    | false =>
     rw [hday,Zad] at hst
     subst hst
     exact ih st (by omega) (by omega) (by omega) hs
    | true =>
     rw [hday,Zac] at hst
     have hxr:i<roster.length:=by rw [hro.1]; exact hx
     have hrg:roster.getD i (-1)=roster[i]:=by simp [List.getD,Zao hxr]
     rw [Zac,Cb hxr,Zaa]
     rw [hrg] at hst
     have hb:=hro.2 _ (Za9 hxr)
     generalize hk:roster[i]=k at *
     by_cases h1:k=-1
     · rw [Zak h1] at hst ⊢
       simp only [Zac] at hst ⊢
       subst hst
       exact ih st (by omega) (by omega) (by omega) hs
     · rw [Zah h1] at hst ⊢
       simp only [Zad] at hst ⊢
       obtain⟨j,rfl⟩:∃ j:Nat,k=j:=⟨k.toNat,by omega⟩
       have hj:j<w.drivers.length:=by omega
       have hj6:j<st.2.length:=by omega
       have hg:st.2.getD ((j:Int)).toNat LW=st.2[j]:=by simp [List.getD,Zao hj6]
       rw [hg] at hst
       have h6:st.2.length.beq 6=true:=by rw [hs]; rfl
       obtain⟨m,rfl⟩:∃ m,n=m+10:=⟨n-10,by omega⟩
       have hl2:=Ae6 (n:=m) (w:=w) (truth:=truth) (now:=st.2) (i:=(i:Int)) (k:=(j:Int)) (d:=w.duties[i]) (s:=st.2[j]) (v:=w.drivers[j]) (out:=st.1) h6 (Cb hj6) (Ug hj6) (Cb hj) (hw.2.2.2.2.2.2 _ (Za9 hj)) (by omega)
       have hl5:(([AC.mk (IK.mk 0) (Fp.mk (↑238:Int)),AC.mk (IK.mk 1) (Fp.mk (↑239:Int)),AC.mk (IK.mk 2) (Fp.mk (↑240:Int)),AC.mk (IK.mk 3) (Fp.mk (↑241:Int)),AC.mk (IK.mk 4) (Fp.mk (↑242:Int))]:List AC).length:Int)=5:=rfl
       rw [hl5,hl2]
       simp only [Zaa]
       have htl:i<truth.length:=by rw [htr,ZaH]; exact hx
       have hti:truth[i]=w.duties[i].off.hi:=by subst htr; simp
       rw [h6,Zac,Cb hj6,Zaa,show((j:Nat):Int).toNat=j from rfl,Ug hj6,Zaa,Cb htl,Zaa,XK,Zaa,Zac,Zaa,Zaa,hti]
       rw [show((j:Nat):Int).toNat=j from rfl] at hst
       have hbl:=Uw w (j:Int) (i:Int) w.duties[i] st.2[j]
       rw [← hst]
       have:=ih (st.1++LX w (j:Int) (i:Int) w.duties[i] st.2[j],st.2.set j (OX st.2[j] w.duties[i] w.duties[i].off.hi)) (by omega) (by omega) (by simp; omega) (by simp [hs])
       exact this
  · have hd:w.duties.drop i=[]:=by simp; omega
    rw [show decide ((i:Int)<(w.duties.length:Int))=false by simp; omega,hd]
    rfl
theorem YG (w:Aq) (roster:List Int) (day:Int) (st:List Ak×List Ai) (i:Nat) (d:AH):(EZ w roster day st i d).1.length≤st.1.length+5∧(EZ w roster day st i d).2.length=st.2.length:=by
 unfold EZ
 have:=Uw w (roster.getD i (-1)) (i:Int) d (st.2.getD (roster.getD i (-1)).toNat LW)
 cases decide (d.day=day)
 · exact⟨by simp,rfl⟩
 · cases decide (roster.getD i (-1)=-1)
   · exact⟨by simp only [Zac,Zad,Zan]; omega,by simp⟩
   · exact⟨by simp,rfl⟩
theorem OY (w:Aq) (roster:List Int) (day:Int):∀ (l:List AH)(i:Nat)(st:List Ak×List Ai),(Fz w roster day i st l).1.length≤st.1.length+5*l.length∧(Fz w roster day i st l).2.length=st.2.length
 | [],_,st=>⟨by simp [Fz],rfl⟩
 | d::l,i,st=>by
  obtain⟨h1,h2⟩:=OY w roster day l (i+1) (EZ w roster day st i d)
  obtain⟨h3,h4⟩:=YG w roster day st i d
  simp only [Fz,Zas]
  exact⟨by omega,by rw [h2,h4]⟩
def D3 (w:Aq) (roster:List Int):Nat→Nat→List Ak×List Ai→List Ak×List Ai
 | 0,_,st=>st
 | k+1,day,st=>D3 w roster k (day+1) (Fz w roster (day:Int) 0 st w.duties)
theorem Adw {w:Aq} {roster truth:List Int} (hw:wkOk w) (h6d:w.drivers.length≤6) (hro:K9 w roster) (htr:truth=w.duties.map fun d=>d.off.hi):∀ (k day n:Nat)(st:List Ak×List Ai),day+k=7→200+k<n→st.1.length≤day*65→st.2.length=6 →
  AK n w roster truth st.1 st.2 7 (day:Int)=some (w,((roster,()),((truth,()),(((D3 w roster k day st).1,()),((D3 w roster k day st).2,((),((),((),()))))))))
 | _,_,0,_,_,h,_,_=>absurd h (Zav _)
 | 0,day,n+1,st,hd,h,ho,hs=>by
  rw [AK,show decide ((day:Int)<7)=false from Zah (by omega)]
  rfl
 | k+1,day,n+1,st,hd,h,ho,hs=>by
  have hwl:=hw.2.2.2.2.1
  have h4:=Adv hw h6d hro htr (day:Int) n 0 st (by omega) (by omega) (by omega) hs
  rw [show((0:Nat):Int)=0 from rfl,Zay] at h4
  obtain⟨a1,a2⟩:=OY w roster (day:Int) w.duties 0 st
  rw [AK,show decide ((day:Int)<7)=true from Zak (by omega),Zac,h4,wN day (by omega)]
  simp only [Zaa,Za8]
  have:=Adw hw h6d hro htr k (day+1) n (Fz w roster (day:Int) 0 st w.duties) (by omega) (by omega) (by omega) (by omega)
  exact this
def Fa (w:Aq) (now:List Ai):Nat→Nat→List Ak
 | 0,_=>[]
 | k+1,i=>(bif decide ((now.getD i LW).used>w.hours) then [Ak.mk (IK.mk 5) (i:Int) 0] else [])++Fa w now k (i+1)
theorem Aaq {w:Aq} {now:List Ai} (h6d:w.drivers.length≤6) (hs:now.length=6):∀ (k i n:Nat)(out:List Ak),i+k=w.drivers.length→k<n→out.length≤900+i→AM n w out now (w.drivers.length:Int) (i:Int)=some (w,((out++Fa w now k i,()),(now,((),()))))
 | _,_,0,_,_,h,_=>absurd h (Zav _)
 | 0,i,n+1,out,hk,h,ho=>by
  rw [AM,show decide ((i:Int)<(w.drivers.length:Int))=false from Zah (by omega)]
  simp [Fa]
 | k+1,i,n+1,out,hk,h,ho=>by
  have hi:i<now.length:=by omega
  have h6:now.length.beq 6=true:=by rw [hs]; rfl
  have hg:now.getD i LW=now[i]:=by simp [List.getD,Zao hi]
  rw [AM,show decide ((i:Int)<(w.drivers.length:Int))=true from Zak (by omega),Zac,h6,Zac,Cb hi,Zaa,show((i:Nat):Int).toNat=i from rfl,Ug hi,Zaa,wN i (by omega),B6 (by simp; omega)]
  simp only [Fa,hg,Zaa]
  cases decide (now[i].used>w.hours) with
  | true =>
   have:=Aaq h6d hs k (i+1) n (out++[Ak.mk (IK.mk 5) (i:Int) 0]) (by omega) (by omega) (by simp; omega)
   simpa using this
  | false =>
   have:=Aaq h6d hs k (i+1) n out (by omega) (by omega) (by omega)
   simpa using this
def Bq (w:Aq):List Ai:=(w.drivers.map fun d=>Ai.mk d.off d.row d.used (-1))++List.replicate (6-w.drivers.length) LW
theorem NG (full:List AA) (h6:full.length≤6):∀ (n i:Nat),full.length-i<n→i≤full.length→Bw n ((full.take i).map (fun d=>Ai.mk d.off d.row d.used (-1))++List.replicate (6-i) LW) full (full.length:Int) (i:Int)=some ((full.map fun d=>Ai.mk d.off d.row d.used (-1))++List.replicate (6-full.length) LW,((),()))
 | 0,_,h,_=>absurd h (Zav _)
 | n+1,i,h,hi=>by
  have hlen:((full.take i).map (fun d=>Ai.mk d.off d.row d.used (-1))++List.replicate (6-i) LW).length=6:=by
   rw [Zan,ZaH,ZaU,Zbq]; omega
  rw [Bw]
  by_cases hx:i<full.length
  · rw [show decide ((i:Int)<(full.length:Int))=true by simp; omega,Zac,Cb hx,Zaa,hlen,show Nat.beq 6 6=true from rfl,Zac,Cb (by omega),Zaa,show((i:Nat):Int).toNat=i from rfl,Ug (by omega),Zaa,wN i (by omega)]
    have:((full.take i).map (fun d=>Ai.mk d.off d.row d.used (-1))++List.replicate (6-i) LW).set i (Ai.mk full[i].off full[i].row full[i].used (-1))=(full.take (i+1)).map (fun d=>Ai.mk d.off d.row d.used (-1))++List.replicate (6-(i+1)) LW:=by
     rw [List.take_succ_eq_append_getElem hx,List.map_append,ZaC,List.set_append_right _ _ (by rw [ZaH,ZaU]; omega)]
     congr 1
     rw [ZaH,ZaU,Nat.min_eq_left hi,Nat.sub_self,show 6-i=(6-(i+1))+1 by omega,Zbx]
     rfl
    rw [this]
    exact NG full h6 n (i+1) (by omega) (by omega)
  · have:i=full.length:=by omega
    subst this
    rw [show decide ((full.length:Int)<(full.length:Int))=false by simp,Zad,Zbl (Zal _)]
theorem YH {n:Nat} {w:Aq} (h6:w.drivers.length≤6) (hn:10<n):Da n w=some (Bq w,()):=by
 unfold Da
 have h:=NG w.drivers h6 n 0 (by omega) (by omega)
 rw [show((0:Nat):Int)=0 from rfl] at h
 have e:([Ai.mk 0 0 0 0,Ai.mk 0 0 0 0,Ai.mk 0 0 0 0,Ai.mk 0 0 0 0,Ai.mk 0 0 0 0,Ai.mk 0 0 0 0]:List Ai)=(w.drivers.take 0).map (fun d=>Ai.mk d.off d.row d.used (-1))++List.replicate (6-0) LW:=rfl
 rw [e,h]
 have hl:((w.drivers.map fun d=>Ai.mk d.off d.row d.used (-1))++List.replicate (6-w.drivers.length) LW).length=6:=by
  rw [Zan,ZaH,Zbq]; omega
 simp only [Zaa,hl]
 rfl
theorem Jr {w:Aq} (h6:w.drivers.length≤6):(Bq w).length=6:=by
 unfold Bq
 rw [Zan,ZaH,Zbq]; omega
theorem RH (full:List AH) (hl:full.length≤1000):∀ (n i:Nat),full.length-i<n→i≤full.length→BH n ((full.take i).map fun d=>d.off.hi) full (full.length:Int) (i:Int)=some (full.map fun d=>d.off.hi,())
 | 0,_,h,_=>absurd h (Zav _)
 | n+1,i,h,hi=>by
  rw [BH]
  by_cases hx:i<full.length
  · rw [show decide ((i:Int)<(full.length:Int))=true by simp; omega,Zac,Cb hx,Zaa,B6 (by rw [ZaH,ZaU]; simp; omega),Zaa,wN i (by omega)]
    have:(full.take i).map (fun d=>d.off.hi)++[full[i].off.hi]=(full.take (i+1)).map fun d=>d.off.hi:=by
     rw [List.take_succ_eq_append_getElem hx,List.map_append]; rfl
    rw [this]
    exact RH full hl n (i+1) (by omega) (by omega)
  · have:i=full.length:=by omega
    subst this
    rw [show decide ((full.length:Int)<(full.length:Int))=false by simp,Zad,Zbl (Zal _)]
theorem Ac1 {n:Nat} {w:Aq} (h:w.duties.length≤1000) (hn:w.duties.length<n):DL n w=some (w.duties.map fun d=>d.off.hi,()):=by
 unfold DL
 have h:=RH w.duties h n 0 (by omega) (by omega)
 rw [show((0:Nat):Int)=0 from rfl,List.take_zero,List.map_nil] at h
 rw [h]; rfl
def Rt (a b:Ak):Bool:=a.driver == b.driver && a.kind.n == b.kind.n && a.duty == b.duty
theorem C1 {α:Type} (eq:α→α→Bool):∀ (a b:List α),CO eq a=true→CO eq b=true→(∀ x∈a,∀ y∈b,eq x y=false)→CO eq (a++b)=true
 | [],b,_,hb,_=>hb
 | x::a,b,ha,hb,h=>by
  unfold CO at ha
  obtain⟨h1,h2⟩:=Ao ha
  rw [ZaP]
  unfold CO
  rw [List.any_append,C1 eq a b h2 hb fun x' hx'=>h x' (by simp [hx'])]
  have:b.any (eq x)=false:=by
   rw [List.any_eq_false]
   intro y hy he
   rw [h x (by simp) y hy] at he; cases he
  rw [this,Bool.or_false,h1]; rfl
theorem Cc {w:Aq} {k i:Int} {d:AH} {s:Ai} {j:Nat} {b:Ak} (h:b∈Ri w k i d s j):b=Ak.mk (IK.mk (j:Int)) k i:=by
 unfold Ri at h
 cases hr:Jc w k d s j with
 | true=>rw [hr] at h; cases h
 | false=>rw [hr] at h; simpa using h
theorem Ux {w:Aq} {k i:Int} {d:AH} {s:Ai} {b:Ak} (h:b∈LX w k i d s):∃ j:Nat,j≤4∧b=Ak.mk (IK.mk (j:Int)) k i:=by
 unfold LX at h
 rcases Zap.1 h with h | h
 · exact⟨0,by omega,Cc h⟩
 rcases Zap.1 h with h | h
 · exact⟨1,by omega,Cc h⟩
 rcases Zap.1 h with h | h
 · exact⟨2,by omega,Cc h⟩
 rcases Zap.1 h with h | h
 · exact⟨3,by omega,Cc h⟩
 · exact⟨4,by omega,Cc h⟩
theorem Js (w:Aq) (k i:Int) (d:AH) (s:Ai) (j:Nat):CO Rt (Ri w k i d s j)=true:=by
 unfold Ri
 cases Jc w k d s j <;> rfl
theorem YI (w:Aq) (k i:Int) (d:AH) (s:Ai):CO Rt (LX w k i d s)=true:=by
 have hne:∀ (a b:Nat),a≠b→Rt (Ak.mk (IK.mk (a:Int)) k i) (Ak.mk (IK.mk (b:Int)) k i)=false:=fun a b h=>by
  simp only [Rt,beq_self_eq_true,ZaS,Bool.and_true,beq_eq_false_iff_ne,ne_eq]; omega
 unfold LX
 refine C1 _ _ _ (Js ..) (C1 _ _ _ (Js ..) (C1 _ _ _ (Js ..) (C1 _ _ _ (Js ..) (Js ..) ?_) ?_) ?_) ?_
 · intro x hx y hy
   rw [Cc hx,Cc hy]; exact hne 3 4 (by omega)
 · intro x hx y hy
   rw [Cc hx]
   rcases Zap.1 hy with hy | hy
   · rw [Cc hy]; exact hne 2 3 (by omega)
   · rw [Cc hy]; exact hne 2 4 (by omega)
 · intro x hx y hy
   rw [Cc hx]
   rcases Zap.1 hy with hy | hy
   · rw [Cc hy]; exact hne 1 2 (by omega)
   rcases Zap.1 hy with hy | hy
   · rw [Cc hy]; exact hne 1 3 (by omega)
   · rw [Cc hy]; exact hne 1 4 (by omega)
 · intro x hx y hy
   rw [Cc hx]
   rcases Zap.1 hy with hy | hy
   · rw [Cc hy]; exact hne 0 1 (by omega)
   rcases Zap.1 hy with hy | hy
   · rw [Cc hy]; exact hne 0 2 (by omega)
   rcases Zap.1 hy with hy | hy
   · rw [Cc hy]; exact hne 0 3 (by omega)
   · rw [Cc hy]; exact hne 0 4 (by omega)
def W5 (w:Aq) (day:Int) (i:Nat) (out:List Ak):Prop:=CO Rt out=true∧∀ b∈out,∃ (j:Nat)(hj:j<w.duties.length),b.duty=(j:Int)∧(w.duties[j].day<day∨(w.duties[j].day=day∧j<i))∧0≤b.kind.n∧b.kind.n≤4∧0≤b.driver∧b.driver≤10
theorem XM {w:Aq} {roster:List Int} (h6d:w.drivers.length≤6) (hro:K9 w roster) (day:Int):∀ (l:List AH)(i:Nat)(st:List Ak×List Ai),w.duties.drop i=l→W5 w day i st.1→W5 w day w.duties.length (Fz w roster day i st l).1
 | [],i,st,hd,h=>by
  refine⟨h.1,fun b hb=>?_⟩
  obtain⟨j,hj,e1,e2,e3⟩:=h.2 b hb
  exact⟨j,hj,e1,e2.imp id (fun h=>⟨h.1,hj⟩),e3⟩
 | d::l,i,st,hd,h=>by
  have hx:i<w.duties.length:=by
   rcases Za2 i w.duties.length with h' | h'
   · exact h'
   · rw [List.drop_eq_nil_of_le h'] at hd; cases hd
  have hd2:=Zaj hx
  rw [hd] at hd2
  obtain⟨e1,e2⟩:=List.cons.inj hd2
  simp only [Fz]
  refine XM h6d hro day l (i+1) _ e2.symm ?_
  have mono:∀ out,W5 w day i out→W5 w day (i+1) out:=fun out h=>⟨h.1,fun b hb=>by
   obtain⟨j,hj,e1,e2,e3⟩:=h.2 b hb
   exact⟨j,hj,e1,e2.imp id (fun h=>⟨h.1,by omega⟩),e3⟩⟩
  unfold EZ
  by_cases hday:d.day=day
  · rw [Zak hday,Zac]
    have hxr:i<roster.length:=by rw [hro.1]; exact hx
    have hrg:roster.getD i (-1)=roster[i]:=by simp [List.getD,Zao hxr]
    rw [hrg]
    have hb:=hro.2 _ (Za9 hxr)
    generalize roster[i]=k at *
    by_cases h1:k=-1
    · rw [Zak h1,Zac]; exact mono _ h
    · rw [Zah h1,Zad]
      have m:=mono _ h
      refine⟨C1 _ _ _ h.1 (YI ..) fun x hx' y hy=>?_,fun b hb'=>?_⟩
      · obtain⟨j,hj,q1,q2,_⟩:=h.2 x hx'
        obtain⟨j',_,q4⟩:=Ux hy
        have hne:x.duty≠y.duty:=by
         rw [q1,q4]
         intro hc
         have hc:(j:Int)=(i:Int):=hc
         have:j=i:=by omega
         subst this
         rcases q2 with q2 | q2
         · rw [← e1,hday] at q2; omega
         · omega
        simp [Rt,hne]
      · rcases Zap.1 hb' with hb' | hb'
        · exact m.2 b hb'
        · obtain⟨j',q3,q4⟩:=Ux hb'
          subst q4
          exact⟨i,hx,rfl,.inr ⟨by rw [← e1]; exact hday,by omega⟩,by simp,by show(j':Int)≤4; omega,by show 0≤k; omega,by show k≤10; omega⟩
  · rw [Zah hday,Zad]; exact mono _ h
theorem Uy {w:Aq} {roster:List Int} (h6d:w.drivers.length≤6) (hro:K9 w roster):∀ (k day:Nat)(st:List Ak×List Ai),W5 w (day:Int) 0 st.1→W5 w ((day+k:Nat):Int) 0 (D3 w roster k day st).1
 | 0,day,st,h=>h
 | k+1,day,st,h=>by
  simp only [D3]
  have h1:=XM h6d hro (day:Int) w.duties 0 st rfl h
  have h2:W5 w ((day+1:Nat):Int) 0 (Fz w roster (day:Int) 0 st w.duties).1:=⟨h1.1,fun b hb=>by
   obtain⟨j,hj,e1,e2,e3⟩:=h1.2 b hb
   exact⟨j,hj,e1,.inl (by rcases e2 with e2 | e2 <;> omega),e3⟩⟩
  have:=Uy h6d hro k (day+1) _ h2
  rw [show day+1+k=day+(k+1) by omega] at this
  exact this
theorem Iq {w:Aq} {now:List Ai}:∀ (k i:Nat)(b:Ak),b∈Fa w now k i→∃ j:Nat,i≤j∧j<i+k∧b=Ak.mk (IK.mk 5) (j:Int) 0
 | 0,_,b,h=>by cases h
 | k+1,i,b,h=>by
  simp only [Fa] at h
  rcases Zap.1 h with h | h
  · cases hd:decide ((now.getD i LW).used>w.hours) with
    | false=>rw [hd] at h; cases h
    | true =>
     rw [hd] at h
     exact⟨i,by omega,by omega,by simpa using h⟩
  · obtain⟨j,h1,h2,h3⟩:=Iq k (i+1) b h
    exact⟨j,by omega,by omega,h3⟩
theorem NH (w:Aq) (now:List Ai):∀ (k i:Nat),CO Rt (Fa w now k i)=true
 | 0,_=>rfl
 | k+1,i=>by
  simp only [Fa]
  refine C1 _ _ _ ?_ (NH w now k (i+1)) fun x hx y hy=>?_
  · cases decide ((now.getD i LW).used>w.hours) <;> rfl
  · obtain⟨j,h1,h2,h3⟩:=Iq _ _ _ hy
    have hx':x=Ak.mk (IK.mk 5) (i:Int) 0:=by
     cases hd:decide ((now.getD i LW).used>w.hours) with
     | false=>rw [hd] at hx; cases hx
     | true=>rw [hd] at hx; simpa using hx
    rw [hx',h3]
    have:(i:Int)≠(j:Int):=by omega
    simp [Rt,this]
def FC (w:Aq) (roster:List Int):List Ak:=(D3 w roster 7 0 ([],Bq w)).1++Fa w (D3 w roster 7 0 ([],Bq w)).2 w.drivers.length 0
theorem RI {w:Aq} {roster:List Int}:∀ (k day:Nat)(st:List Ak×List Ai),(D3 w roster k day st).1.length≤st.1.length+k*(5*w.duties.length)∧(D3 w roster k day st).2.length=st.2.length
 | 0,_,st=>⟨by simp [D3],rfl⟩
 | k+1,day,st=>by
  obtain⟨h1,h2⟩:=OY w roster (day:Int) w.duties 0 st
  obtain⟨h3,h4⟩:=RI (w:=w) (roster:=roster) k (day+1) (Fz w roster (day:Int) 0 st w.duties)
  simp only [D3]
  rw [Nat.succ_mul]
  exact⟨by omega,by rw [h4,h2]⟩
theorem OZ (w:Aq) (now:List Ai):∀ (k i:Nat),(Fa w now k i).length≤k
 | 0,_=>by simp [Fa]
 | k+1,i=>by
  have:=OZ w now k (i+1)
  simp only [Fa,Zan]
  cases decide ((now.getD i LW).used>w.hours)
  · simp; omega
  · simp; omega
theorem Aar {out:List Ak} (hl:out.length≤1000000) (hs:∀ b∈out,0≤b.driver∧b.driver≤10∧0≤b.duty∧b.duty≤100∧0≤b.kind.n∧b.kind.n≤5) (hd:CO Rt out=true):SB out=some (Ev Aeo out):=by
 unfold SB
 have h1:Nat.blt (AZ out) 4611686018427387904=true:=by rw [HJ]; exact Za1 (by omega)
 have h2:out.all (fun a=>TO a.driver && TO a.duty && (decide (0≤a.kind.n) && decide (a.kind.n≤255)))=true:=by
  rw [ZaE]
  intro a ha
  have:=hs a ha
  simp [TO]; omega
 have h3:CO (fun a b:Ak=>a.driver == b.driver && a.kind.n == b.kind.n && a.duty == b.duty) out=true:=hd
 rw [h1,h2,h3]; rfl
theorem YJ {n:Nat} {w:Aq} {roster:List Int} (hw:wkOk w) (h6d:w.drivers.length≤6) (hro:K9 w roster) (hn:300<n):Dd n w roster (w.duties.map fun d=>d.off.hi)=some (Ev Aeo (FC w roster),()):=by
 unfold Dd
 have hsl:=Jr h6d
 have hwl:=hw.2.2.2.2.1
 rw [YH h6d (by omega)]
 simp only [Zaa,hsl,hw.1]
 rw [show(([Ai.mk 0 0 0 0,Ai.mk 0 0 0 0,Ai.mk 0 0 0 0,Ai.mk 0 0 0 0,Ai.mk 0 0 0 0,Ai.mk 0 0 0 0]:List Ai).length.beq 6 && Nat.beq 6 6)=true from rfl,Zac]
 have h1:=Adw hw h6d hro rfl 7 0 n ([],Bq w) (by omega) (by omega) (by simp) hsl
 rw [show((0:Nat):Int)=0 from rfl] at h1
 rw [h1]
 simp only [Zaa]
 obtain⟨d1,d2⟩:=RI (w:=w) (roster:=roster) 7 0 ([],Bq w)
 simp only [Zbh,Zar] at d1
 have h3:=Aaq (w:=w) (now:=(D3 w roster 7 0 ([],Bq w)).2) h6d (by rw [d2]; exact hsl) w.drivers.length 0 n (D3 w roster 7 0 ([],Bq w)).1 (by omega) (by omega) (by omega)
 rw [show((0:Nat):Int)=0 from rfl] at h3
 rw [h3]
 simp only [Zaa]
 have ok:=Uy h6d hro 7 0 ([],Bq w) ⟨rfl,fun b hb=>by cases hb⟩
 have hh:=OZ w (D3 w roster 7 0 ([],Bq w)).2 w.drivers.length 0
 have:=Aar (out:=FC w roster) (by unfold FC; rw [Zan]; omega) (fun b hb=>by
  unfold FC at hb
  rcases Zap.1 hb with hb | hb
  · obtain⟨j,hj,e1,_,e3,e4,e5,e6⟩:=ok.2 b hb
    omega
  · obtain⟨j,e1,e2,e3⟩:=Iq _ _ _ hb
    subst e3
    simp only
    omega) (by
  unfold FC
  refine C1 _ _ _ ok.1 (NH ..) fun x hx y hy=>?_
  obtain⟨j,hj,e1,_,e3,e4,_⟩:=ok.2 x hx
  obtain⟨j',f1,f2,f3⟩:=Iq _ _ _ hy
  subst f3
  have:x.kind.n≠5:=by omega
  simp [Rt,this])
 unfold FC at this ⊢
 rw [this]; rfl
theorem Aas {n:Nat} {w:Aq} {roster:List Int} (hw:wkOk w) (h6d:w.drivers.length≤6) (hro:K9 w roster) (hn:300<n):Dx n w roster=some (decide (FC w roster=[]),()):=by
 unfold Dx
 have hwl:=hw.2.2.2.2.1
 rw [Ac1 (by omega) (by omega),Zaa]
 simp only
 rw [YJ hw h6d hro hn,Zaa]
 simp only [HI]
 congr 2
 cases h:FC w roster with
 | nil=>rfl
 | cons a l=>simp; omega
def YL (w:Aq) (roster:List Int):Bool:=decide (roster.length=w.duties.length) && roster.all fun x=>EJ x (-1) ((w.drivers.length:Int)-1)
theorem Uz {w:Aq} {roster:List Int}:YL w roster=true↔K9 w roster:=by
 unfold YL K9
 rw [Zax,decide_eq_true_eq,ZaE]
 constructor
 · rintro⟨h1,h2⟩
   exact⟨h1,fun x hx=>by have:=EX.1 (h2 x hx); omega⟩
 · rintro⟨h1,h2⟩
   exact⟨h1,fun x hx=>EX.2 (by have:=h2 x hx; omega)⟩
theorem SR {n:Nat} {w:Aq} {l:List Int} (hl:l.length≤1000) (hd:w.drivers.length≤7) (h:l.length<n) :
  (l.all (fun x=>EJ x (-1) ((w.drivers.length:Int)-1))=true→AI n l w (l.length:Int) 0=some (.inl ((((),(w,())),()),((),()))))∧(l.all (fun x=>EJ x (-1) ((w.drivers.length:Int)-1))=false→∃ k:Nat,AI n l w (l.length:Int) 0=some (.inr ((((),(w,())),()),((),((k:Int),()))))) :=
 Io (F:=fun n i=>AI n l w (l.length:Int) i) (G:=fun n i v0=>bif decide (-1≤v0) then(bif !decide (v0≤IntKind.i64.wrap ((↑w.drivers.length:Int)-1)) then(some (.inr ((((),(w,())),()),((),(i,()))))) else AI n l w (l.length:Int) (IntKind.i64.wrap (i+1))) else some (.inr ((((),(w,())),()),((),(i,()))))) l (fun x=>EJ x (-1) ((w.drivers.length:Int)-1)) ((((),(w,())),()),((),())) (fun i=>((((),(w,())),()),((),(i,())))) 0 (by omega) (fun _ _=>rfl) (fun n i hi _=>by
  rw [LP (x:=(w.drivers.length:Int)-1) (by omega) (by omega)]
  unfold EJ
  cases decide (-1≤l[i]) <;> cases decide (l[i]≤(w.drivers.length:Int)-1) <;> rfl) (n:=n) (by omega)
theorem Pa {n:Nat} {w:Aq} {l:List Int} (hl:l.length≤1000) (hd:w.drivers.length≤7) (h:l.length<n):CZ n w l=some (YL w l,()):=by
 unfold CZ YL
 obtain⟨a1,a2⟩:=SR (n:=n) (w:=w) (l:=l) hl hd h
 by_cases he:l.length=w.duties.length
 · rw [show decide ((l.length:Int)=(w.duties.length:Int))=true from Zak (by omega),Zak he,Zac,ZaS]
   cases ha:l.all fun x=>EJ x (-1) ((w.drivers.length:Int)-1) with
   | true=>rw [a1 ha]; rfl
   | false =>
    obtain⟨k,hk⟩:=a2 ha
    rw [hk]
    simp only [Zaa,Sum.elim_inr]
    rw [show decide ((k:Int)≥0)=true by simp]; rfl
 · rw [show decide ((l.length:Int)=(w.duties.length:Int))=false from Zah (by omega),Zah he]; rfl
theorem YM {n:Nat} {l:List Int} (hl:l.length≤1000) (h:l.length<n):∃ k:Nat,Fq n l=some ((k:Int),()):=by
 have H:∀ (n i k:Nat),l.length-i<n→i≤l.length→k≤i→∃ k':Nat,BO n (k:Int) l (l.length:Int) (i:Int)=some ((k':Int),()):=by
  intro n
  induction n with
  | zero=>intro i k h; exact absurd h (Zav _)
  | succ n ih =>
   intro i k h hi hk
   rw [BO]
   by_cases hx:i<l.length
   · rw [show decide ((i:Int)<(l.length:Int))=true by simp; omega,Zac,Cb hx,Zaa,wN i (by omega),wN k (by omega)]
     cases l[i] != -1
     · exact ih (i+1) k (by omega) (by omega) (by omega)
     · exact ih (i+1) (k+1) (by omega) (by omega) (by omega)
   · rw [show decide ((i:Int)<(l.length:Int))=false by simp; omega]
     exact⟨k,rfl⟩
 obtain⟨k,hk⟩:=H n 0 0 (by omega) (by omega) (by omega)
 rw [show((0:Nat):Int)=0 from rfl] at hk
 unfold Fq
 exact⟨k,by rw [hk]; rfl⟩
def Gg (w:Aq) (roster:List Int):Bool:=decide (D1 w=0) && (YL w roster && decide (FC w roster=[]))
theorem Aat {n:Nat} {w:Aq} {roster:List Int} (hw:wkOk w) (hl:roster.length≤1000) (hn:1100<n):BZ n w roster 0=some (Gg w roster,()):=by
 unfold BZ Gg
 rw [Ip hw (by omega),Zaa]
 simp only
 by_cases h0:D1 w=0
 · rw [Zak h0,Zac,Pa hl hw.2.2.2.2.2.1 (by omega),Zaa]
   simp only [ZaS]
   cases hr:YL w roster with
   | false=>rfl
   | true =>
    have h6:w.drivers.length≤6:=by
     unfold D1 at h0
     split at h0
     · cases h0
     · split at h0
       · cases h0
       · omega
    rw [Zac,Aas hw h6 (Uz.1 hr) (by omega),Zaa]
    simp only [ZaS]
    cases decide (FC w roster=[]) with
    | false=>rfl
    | true =>
     obtain⟨k,hk⟩:=YM (n:=n) hl (by omega)
     rw [Zac,hk,Zaa]
     simp
 · rw [Zah h0]; rfl
structure CP (s:Ah):Prop where
 kind:∀ c∈s.cards,KS c
 cards:s.cards.length≤40
 outs:s.outs.length≤200
 runs:s.runs.length≤200
 rk:∀ r∈s.records,Ro r
 recs:s.records.length≤200
 days:s.week.days=7
 rest:s.week.rest=600
 run:s.week.run=5
 hours:s.week.hours=3000
 duties:s.week.duties.length≤12
 drivers:s.week.drivers.length≤6
 drv:∀ d∈s.week.drivers,∃ k off,d=AA.mk [k] [] [] off 0 0
 ros:s.roster.length=s.week.duties.length
 wk:D1 s.week=0
 chk:Adt s.cards=0
theorem CP.wkOk {s:Ah} (h:CP s):wkOk s.week:=⟨h.days,h.rest,h.run,h.hours,by have:=h.duties; omega,by have:=h.drivers; omega,h.drv⟩
def EL (s:Ah) (c:Ap):Ah×Int:=if s.cards.any (fun a=>G9 a c) then(s,6) else if Adt (s.cards++[c])=0 then({ s with cards:=s.cards++[c] },0) else(s,Adt (s.cards++[c]))
def Cj (s:Ah) (y:Ah×Int):(Aa×Unit) ⊕ (Aa×Av×Unit):=if y.2=0 then .inl (Aa.mk y.1,()) else .inr (Aa.mk s,(Av.mk y.2,()))
theorem OG {n:Nat} {s:Ah} (hg:CP s) {c:Ap} (hk:KS c) (hn:200<n):AY n (Aa.mk s) c=some (Cj s (EL s c)):=by
 have h40:=hg.cards
 unfold AY EL
 rw [Wu _ c s.cards (by omega) (by omega)]
 cases hs:s.cards.any (fun a=>G9 a c) with
 | true=>simp [Cj]
 | false =>
  simp only [Zaa,Za8,Zad]
  rw [Uo (by omega)]
  simp only [Zaa]
  rw [Rn (fun a ha=>by
   rcases Zap.1 ha with ha | ha
   · exact hg.kind a ha
   · rw [Za7.1 ha]; exact hk) (by simp; omega) (by simp; omega)]
  simp only [Zaa,LQ]
  by_cases h0:Adt (s.cards++[c])=0
  · simp [Cj,Eb,h0]
  · simp [Cj,Eb,h0]
def NI (l:List Jk) (bus:Int):Option Nat:=l.findIdx? fun o=>decide (o.bus=bus)
theorem Pb (l:List Jk) (bus:Int) (hl:l.length≤1000):∀ (n i:Nat),l.length-i<n→i≤l.length→MG n bus (-1) l (l.length:Int) (i:Int)=some ((match (l.drop i).findIdx? (fun o=>decide (o.bus=bus)) with | some k=>((i+k:Nat):Int) | none=>-1),())
 | 0,_,h,_=>absurd h (Zav _)
 | n+1,i,h,hi=>by
  rw [MG]
  by_cases hx:i<l.length
  · have hd:l.drop i=l[i]::l.drop (i+1):=Zaj hx
    rw [show decide ((i:Int)<(l.length:Int))=true by simp; omega,Zac,Cb hx,Zaa,hd,wN i (by omega),List.findIdx?_cons]
    cases decide (l[i].bus=bus) with
    | true=>simp
    | false =>
     rw [Zad,Pb l bus hl n (i+1) (by omega) (by omega)]
     cases (l.drop (i+1)).findIdx? (fun o=>decide (o.bus=bus)) with
     | none=>rfl
     | some k =>
      show some (((i+1+k:Nat):Int),())=some (((i+(k+1):Nat):Int),())
      rw [show i+1+k=i+(k+1) by omega]
  · have hd:l.drop i=[]:=by simp; omega
    rw [show decide ((i:Int)<(l.length:Int))=false by simp; omega,hd]
    rfl
def IW (l:List Jk) (bus:Int):Int:=match NI l bus with
 | some k=>(k:Int)
 | none=>-1
theorem OH {n:Nat} {s:Ah} (hg:CP s) (bus:Int) (hn:250<n):R8 n (Aa.mk s) bus=some (Aa.mk s,(IW s.outs bus,())):=by
 unfold R8 IW NI
 have:=hg.outs
 have h:=Pb s.outs bus (by omega) n 0 (by omega) (by omega)
 rw [show((0:Nat):Int)=0 from rfl,Zay] at h
 simp only [h,Zaa]
 cases s.outs.findIdx? (fun o=>decide (o.bus=bus)) <;> simp
theorem FE (x:Option ((Aa×Unit) ⊕ (Aa×Av×Unit))) (s:Ah) (y:Ah×Int) (h:x=some (Cj s y)):(x.bind fun v8=>Sum.elim (fun v9=>some (.inl (v9.fst,()))) (fun v9=>some (.inr (v9.fst,(v9.snd.fst,())))) v8:Option ((Aa×Unit) ⊕ (Aa×Av×Unit)))=some (Cj s y):=by
 rw [h]
 unfold Cj
 split <;> rfl
section
variable {n:Nat} {s:Ah} {a b c d e:Int}
theorem Aau (hg:CP s) (hn:200<n):Cs n (Aa.mk s) [a,b,c,d,e]=some (Cj s (EL s (Ap.mk a b c (IK.mk 0) d 0))):=FE _ _ _ (OG hg ⟨by simp,by simp⟩ hn)
theorem Ac2 (hg:CP s) (hn:200<n):C5 n (Aa.mk s) [a,b,c,d,e]=some (Cj s (EL s (Ap.mk a b c (IK.mk 1) d 0))):=FE _ _ _ (OG hg ⟨by simp,by simp⟩ hn)
theorem YN (hg:CP s) (hn:200<n):Cf n (Aa.mk s) [a,b,c,d,e]=some (Cj s (EL s (Ap.mk a b c (IK.mk 2) 0 d))):=FE _ _ _ (OG hg ⟨by simp,by simp⟩ hn)
theorem U0 (hg:CP s) (hn:200<n):BL n (Aa.mk s) [a,b,c,d,e]=some (Cj s (EL s (Ap.mk a b c (IK.mk 3) 0 0))):=FE _ _ _ (OG hg ⟨by simp,by simp⟩ hn)
theorem Ae7:([a,b,c,d,e]:List Int).length.beq 5=true:=rfl
theorem Ae8:A4 [a,b,c,d,e] 0=some a:=rfl
theorem Ae9:A4 [a,b,c,d,e] 1=some b:=rfl
theorem Afi:A4 [a,b,c,d,e] 2=some c:=rfl
theorem Afq:A4 [a,b,c,d,e] 3=some d:=rfl
theorem Afr:A4 [a,b,c,d,e] 4=some e:=rfl
theorem AeA:([a,b,c,d,e]:List Int).get?Internal (Int.toNat 0)=some a:=rfl
theorem AeB:([a,b,c,d,e]:List Int).get?Internal (Int.toNat 1)=some b:=rfl
theorem Afj:([a,b,c,d,e]:List Int).get?Internal (Int.toNat 2)=some c:=rfl
theorem Afs:([a,b,c,d,e]:List Int).get?Internal (Int.toNat 3)=some d:=rfl
theorem Aft:([a,b,c,d,e]:List Int).get?Internal (Int.toNat 4)=some e:=rfl
def RJ (l:List I9) (bus at_:Int):Bool:=l.all fun r=>!decide (r.bus=bus) || decide (r.to_≤at_)
theorem YO (g:Aa) (bus at_:Int) (l:List I9) (hl:l.length≤1000) (hn:l.length<n):A1 n g bus at_ l (l.length:Int) 0=some (bif RJ l bus at_ then .inl (g,((),(bus,(at_,())))) else .inr (g,(Av.mk 8,()))):=by
 obtain⟨h1,h2⟩:=Io (F:=fun n i=>A1 n g bus at_ l (l.length:Int) i) (G:=fun n i v0=>bif !v0.bus != bus then((As n (decide (v0.to_≤at_)) 8).bind fun v1=>Sum.elim (fun v2=>A1 n g bus at_ l (l.length:Int) (IntKind.i64.wrap (i+1))) (fun v2=>some (.inr (g,(v2.fst,())))) (v1)) else(As n true 8).bind fun v1=>Sum.elim (fun v2=>A1 n g bus at_ l (l.length:Int) (IntKind.i64.wrap (i+1))) (fun v2=>some (.inr (g,(v2.fst,())))) (v1)) l (fun r=>!decide (r.bus=bus) || decide (r.to_≤at_)) (g,((),(bus,(at_,())))) (fun _=>(g,(Av.mk 8,()))) 0 (by omega) (fun _ _=>rfl) (fun n i hi _=>by
  rw [DP,DP]
  by_cases hb:l[i].bus=bus
  · rw [show(!l[i].bus != bus)=true by simp [hb],Zak hb]
    cases decide (l[i].to_≤at_) <;> rfl
  · rw [show(!l[i].bus != bus)=false by simp [hb],Zah hb]
    rfl) (n:=n) (by omega)
 unfold RJ
 cases hc:l.all fun r=>!decide (r.bus=bus) || decide (r.to_≤at_) with
 | true=>exact h1 hc
 | false=>obtain⟨k,hk⟩:=h2 hc; exact hk
def U1 (s:Ah) (bus at_:Int):Ah×Int :=
 if EJ bus 0 99 && EJ at_ 0 1000000 then
  if IW s.outs bus<0 then
   if RJ s.runs bus at_ then
    if (F8 s.cards bus at_).2=0 then
     if (F8 s.cards bus at_).1=[] then({ s with outs:=s.outs++[Jk.mk bus at_] },0) else(s,11)
    else(s,(F8 s.cards bus at_).2)
   else(s,8)
  else(s,8)
 else(s,2)
theorem Ac3 (hg:CP s) (hn:300<n):BT n (Aa.mk s) [a,b,c,d,e]=some (Cj s (U1 s a b)):=by
 have h1:=hg.outs
 have h2:=hg.runs
 have h3:=hg.cards
 unfold BT
 simp only [Ae7,Ae8,AeA,Ae9,AeB,Zac,Zaa]
 unfold U1
 rw [G2,G2]
 simp only [Zaa]
 cases hb1:EJ a 0 99 with
 | false =>
  simp [DP,Eb,Cj]
 | true =>
  rw [Zac,DP,Zaa]
  cases hb2:EJ b 0 1000000 with
  | false=>simp [Eb,Cj]
  | true =>
   simp only [Eb,Zac,Za8,Bool.and_self,if_true]
   rw [OH hg a (by omega),Zaa]
   simp only [DP,Zaa]
   by_cases hgo:IW s.outs a<0
   · rw [Zak hgo,if_pos hgo]
     simp only [Eb,Zac,Za8]
     rw [YO _ a b s.runs (by omega) (by omega),Zaa]
     cases hr:RJ s.runs a b with
     | false=>simp [Cj]
     | true =>
      simp only [Zac,Za8,if_true]
      rw [SN hg.kind (by omega) (by omega)]
      simp only [Zaa,LQ]
      by_cases h0:(F8 s.cards a b).2=0
      · rw [if_pos h0,h0]
        simp only [Eb,decide_true,Zac,Za8]
        by_cases hl:(F8 s.cards a b).1=[]
        · rw [if_pos hl,hl]
          simp only [Zbh]
          rw [show decide (((0:Nat):Int)=0)=true from rfl]
          simp only [Zac,Zaa,Za8]
          rw [Wr (by omega)]
          simp [Cj]
        · rw [if_neg hl]
          have : ¬ (((F8 s.cards a b).1.length:Int)=0):=fun h=>hl (List.length_eq_zero_iff.1 (by omega))
          rw [Zah this]
          simp [Cj]
      · rw [if_neg h0,Zah h0]
        simp [Cj,h0,Eb]
   · rw [Zah hgo,if_neg hgo]
     simp [Eb,Cj]
def Adx (s:Ah) (bus to_ miles:Int):Ah×Int :=
 match NI s.outs bus with
 | none=>(s,8)
 | some k=>match s.outs[k]? with
  | none=>(s,8)
  | some o=>if EJ to_ o.fr 1000000 && EJ miles 0 1000 then({ s with outs:=s.outs.eraseIdx k,runs:=s.runs++[I9.mk o.bus o.fr to_ miles] },0) else(s,2)
theorem U2 {l:List Jk} {bus:Int} {k:Nat} (h:NI l bus=some k):∃ hk:k<l.length,l[k].bus=bus:=by
 unfold NI at h
 obtain⟨hk,h1,_⟩:=List.findIdx?_eq_some_iff_getElem.1 h
 exact⟨hk,by simpa using h1⟩
theorem AdM (hg:CP s) (hn:300<n):Co n (Aa.mk s) [a,b,c,d,e]=some (Cj s (Adx s a b c)):=by
 have h1:=hg.outs
 have h2:=hg.runs
 unfold Co
 simp only [Ae7,Ae8,AeA,Ae9,AeB,Afi,Afj,Zac,Zaa]
 rw [OH hg a (by omega),Zaa]
 simp only [DP,Zaa]
 unfold Adx IW
 cases hgo:NI s.outs a with
 | none =>
  simp only
  rw [show decide ((-1:Int)≥0)=false from rfl]
  simp [Eb,Cj]
 | some k =>
  obtain⟨hk,_⟩:=U2 hgo
  simp only
  rw [show decide ((k:Int)≥0)=true by simp]
  simp only [Eb,Zac,Za8]
  rw [Cb hk,Zaa,Zao hk]
  simp only [G2,Zaa]
  have hw:IntKind.i64.wrap ((k:Int)+1)=((k+1:Nat):Int):=wN k (by omega)
  have hdel:Ub n s.outs (k:Int) ((k+1:Nat):Int)=some (s.outs.eraseIdx k,()):=by
   show(bif Nat.blt k (k+1) && Nat.ble (k+1) (AZ s.outs) then some (s.outs.take k++s.outs.drop (k+1),()) else none)=_
   rw [show Nat.blt k (k+1)=true from Za1 (by omega),HJ,show Nat.ble (k+1) s.outs.length=true from Za1 (by omega)]
   rw [List.eraseIdx_eq_take_drop_succ]; rfl
  have hcl:ID n s.outs=some (s.outs,()):=by unfold ID; rw [EY (by omega)]; rfl
  cases hb1:EJ b s.outs[k].fr 1000000 with
  | false=>simp [Eb,Cj]
  | true =>
   cases hb2:EJ c 0 1000 with
   | false=>simp [Eb,Cj]
   | true =>
    simp only [Zac,Za8,Bool.and_self,if_true]
    rw [hcl,Zaa,hw,hdel,Zaa,Ws (by omega)]
    simp [Cj]
def Ir (s:Ah) (r:Ab):Ah×Int:=if s.records.any (Cw r) then(s,6) else if Gf [s.records,[r]]=0 then({ s with records:=s.records++[r] },0) else(s,Gf [s.records,[r]])
theorem W6 (hg:CP s) {r:Ab} (hk:Ro r) (hn:1200<n):Bb n (Aa.mk s) r=some (Cj s (Ir s r)):=by
 have h60:=hg.recs
 unfold Bb Ir
 rw [Us (by show s.records.length≤1000; omega) (by show s.records.length<n; omega),Zaa]
 simp only [DP,Zaa]
 cases hs:s.records.any (Cw r) with
 | true=>simp [Cj,Eb]
 | false =>
  simp only [ZaI,Eb,Zac,Za8]
  obtain⟨x,hx⟩:=Aan (n:=n) (lists:=[s.records,[r]]) (fun l hl=>by
   rcases Zam.1 hl with rfl | hl
   · exact hg.rk
   · rw [Za7.1 hl]
     intro r' hr'
     rw [Za7.1 hr']; exact hk) (by simp) (fun l hl=>by
   rcases Zam.1 hl with rfl | hl
   · omega
   · rw [Za7.1 hl]; simp) (by simp; omega)
  rw [hx,Zaa]
  simp only [LQ,Zaa]
  by_cases h0:Gf [s.records,[r]]=0
  · rw [h0]
    simp only [Eb,decide_true,Zac,Za8]
    rw [Rl (by omega)]
    simp [Cj]
  · rw [Zah h0]
    simp [Eb,Cj,h0]
theorem Ac4 (hg:CP s) (hn:1200<n):C7 n (Aa.mk s) [a,b,c,d,e]=some (Cj s (Ir s (Ab.mk a b c (IK.mk 0) d e))):=FE _ _ _ (W6 hg ⟨by simp,by simp⟩ hn)
theorem Ac5 (hg:CP s) (hn:1200<n):C8 n (Aa.mk s) [a,b,c,d,e]=some (Cj s (Ir s (Ab.mk a b c (IK.mk 1) d 0))):=FE _ _ _ (W6 hg ⟨by simp,by simp⟩ hn)
theorem Aav (hg:CP s) (hn:1200<n):Ct n (Aa.mk s) [a,b,c,d,e]=some (Cj s (Ir s (Ab.mk a b c (IK.mk 2) d e))):=FE _ _ _ (W6 hg ⟨by simp,by simp⟩ hn)
def FT (w:Aq) (k off:Int):Aq:={ w with drivers:=w.drivers++[AA.mk [k] [] [] off 0 0] }
def GC (w:Aq) (d:AH):Aq:={ w with duties:=w.duties++[d] }
def SS (s:Ah) (k off:Int):Ah×Int:=if D1 (FT s.week k off)=0 then({ s with week:=FT s.week k off },0) else(s,D1 (FT s.week k off))
def ST (s:Ah) (d:AH):Ah×Int:=if D1 (GC s.week d)=0 then({ s with week:=GC s.week d,roster:=s.roster++[-1] },0) else(s,D1 (GC s.week d))
theorem W7 (hg:CP s) (hn:100<n):Bv n (Aa.mk s) [a,b,c,d,e]=some (Cj s (SS s a b)):=by
 have h6:=hg.drivers
 have h12:=hg.duties
 unfold Bv SS
 simp only [Ae7,Ae8,AeA,Ae9,AeB,Zac,Zaa]
 rw [Rm (by omega),Zaa]
 have hw:wkOk (FT s.week a b):=⟨hg.days,hg.rest,hg.run,hg.hours,by show s.week.duties.length≤13; omega,by simp [FT]; omega,fun d hd=>by
  rcases Zap.1 hd with hd | hd
  · exact hg.drv d hd
  · rw [Za7.1 hd]; exact⟨a,b,rfl⟩⟩
 have hc:=Ip (n:=n) hw (by omega)
 unfold FT at hc
 simp only at hc ⊢
 rw [hc,Zaa]
 simp only [LQ,Zaa]
 show _=some (Cj s (if D1 (FT s.week a b)=0 then _ else _))
 change (Sum.elim _ _ (Eb (decide (D1 (FT s.week a b)=0)) (D1 (FT s.week a b))))=_
 by_cases h0:D1 (FT s.week a b)=0
 · rw [h0]; simp [Eb,Cj,FT]
 · rw [Zah h0,if_neg h0]
   simp [Eb,Cj,h0]
theorem Aaw (hg:CP s) (hn:100<n):BG n (Aa.mk s) [a,b,c,d,e]=some (Cj s (ST s (AH.mk a b (Rg.mk c d) e))):=by
 have h6:=hg.drivers
 have h12:=hg.duties
 have hr:=hg.ros
 unfold BG ST
 simp only [Ae7,Ae8,AeA,Ae9,AeB,Afi,Afj,Afq,Afs,Afr,Aft,Zac,Zaa]
 rw [Up (by omega),Zaa]
 have hw:wkOk (GC s.week (AH.mk a b (Rg.mk c d) e)):=⟨hg.days,hg.rest,hg.run,hg.hours,by simp [GC]; omega,by show s.week.drivers.length≤7; omega,hg.drv⟩
 have hc:=Ip (n:=n) hw (by omega)
 unfold GC at hc
 simp only at hc ⊢
 rw [hc,Zaa]
 simp only [LQ,Zaa]
 show _=some (Cj s (if D1 (GC s.week (AH.mk a b (Rg.mk c d) e))=0 then _ else _))
 change (Sum.elim _ _ (Eb (decide (D1 (GC s.week (AH.mk a b (Rg.mk c d) e))=0)) (D1 (GC s.week (AH.mk a b (Rg.mk c d) e)))))=_
 by_cases h0:D1 (GC s.week (AH.mk a b (Rg.mk c d) e))=0
 · rw [h0]
   simp only [Eb,decide_true,Zac,Za8]
   rw [Wt (by omega)]
   simp [Cj,GC]
 · rw [Zah h0,if_neg h0]
   simp [Eb,Cj,h0]
def SU (s:Ah) (i k:Int):Ah×Int :=
 if EJ i 0 ((s.roster.length:Int)-1) && EJ k (-1) ((s.week.drivers.length:Int)-1) then
  if Gg s.week (s.roster.set i.toNat k) then({ s with roster:=s.roster.set i.toNat k },0) else(s,10)
 else(s,2)
theorem Aax (hg:CP s) (hn:1200<n):BI n (Aa.mk s) [a,b,c,d,e]=some (Cj s (SU s a b)):=by
 have h6:=hg.drivers
 have h12:=hg.duties
 have hr:=hg.ros
 unfold BI SU
 simp only [Ae7,Ae8,AeA,Ae9,AeB,Zac,Zaa]
 rw [LP (x:=(s.roster.length:Int)-1) (by omega) (by omega),LP (x:=(s.week.drivers.length:Int)-1) (by omega) (by omega)]
 simp only [G2,Zaa,DP]
 cases hb1:EJ a 0 ((s.roster.length:Int)-1) with
 | false=>simp [Eb,Cj]
 | true =>
  cases hb2:EJ b (-1) ((s.week.drivers.length:Int)-1) with
  | false=>simp [Eb,Cj]
  | true =>
   simp only [Eb,Zac,Za8,Bool.and_self,if_true]
   obtain⟨a1,a2⟩:=EX.1 hb1
   obtain⟨i,rfl⟩:∃ i:Nat,a=i:=⟨a.toNat,by omega⟩
   have hi:i<s.roster.length:=by omega
   have hcl:Lx n s.roster=some (s.roster,()):=by unfold Lx; rw [EY (by omega)]; rfl
   rw [hcl]
   simp only [Zaa]
   rw [Cb hi,Zaa,show((i:Nat):Int).toNat=i from rfl,Ug hi,Zaa,Aat hg.wkOk (by rw [List.length_set]; omega) (by omega),Zaa]
   simp only
   cases Gg s.week (s.roster.set i b) with
   | true=>simp [Cj]
   | false=>simp [Cj]
end
theorem W8 {l:List UInt8} {v:Int} (h:Lib.atoiAll l=.ok v) : -9223372036854775808≤v∧v≤9223372036854775807:=by
 unfold Lib.atoiAll at h
 simp only at h
 split at h
 · cases h
 · split at h
   · cases h
   · cases h
   · rename_i u _
     split at h
     · cases h
     · split at h
       · cases h
       · rename_i h1 h2
         cases h
         split <;> rename_i hn <;> simp only [hn,true_and,not_true,false_and,not_false_iff] at h1 h2 <;> omega
def U3 (s:ByteArray):Option Int:=MX s.data.toList
theorem YP {n:Nat} {s:ByteArray} (hs:s.size≤1000000):Fs n s=some (match U3 s with | some v=>.inl (v,()) | none=>.inr (Av.mk 4,())):=by
 unfold Fs KJ
 rw [if_pos (by omega)]
 simp only [Zaa]
 cases hw:U3 s with
 | some v =>
  obtain⟨h1,h2,h3,h4⟩:=RB hw
  rw [h2]
  simp only [Za8]
  have hi:B3 n v=some (BK v,()):=by
   unfold B3
   rw [show(decide (-9223372036854775808≤v) && decide (v≤9223372036854775807))=true by simp; omega]; rfl
  rw [hi,Zaa]
  have hb:(BK v).beq s=true:=by
   unfold BK
   rw [h1,← E8 s]
   show((Ku s.data.toList).data == (Ku (Ku s.data.toList).data.toList).data)=true
   simp [Ku]
  simp only [hb,Zac]
  rw [G2,Zaa,show EJ v (-999999999) 999999999=true from EX.2 ⟨h3,h4⟩,DP]
  rfl
 | none =>
  rcases ha:Lib.atoiAll s.data.toList with v | _ | _
  · skip
    obtain⟨b1,b2⟩:=W8 ha
    have hi:B3 n v=some (BK v,()):=by
     unfold B3
     rw [show(decide (-9223372036854775808≤v) && decide (v≤9223372036854775807))=true by simp; omega]; rfl
    simp only [Za8]
    rw [hi,Zaa]
    simp only
    cases hb:(BK v).beq s with
    | false=>simp [DP,Eb]
    | true =>
     have he:Ou v=s.data.toList:=by
      have:((Ku (Ou v)).data == s.data)=true:=hb
      have:=eq_of_beq this
      have:=congrArg Array.toList this
      simpa [Ku] using this
     simp only [Zac,G2,Zaa,DP]
     by_cases hr : -999999999≤v∧v≤999999999
     · have:=Un hr.1 hr.2
       rw [he] at this
       unfold U3 at hw
       rw [this] at hw; cases hw
     · rw [Y4.2 hr]; rfl
  · simp [DP,Eb]
  · simp [DP,Eb]
def H4:List (ByteArray×Dn):=[(B [102,111,117,110,100],Dn.mk 4 (Fp.mk 189)),(B [104,101,108,100],Dn.mk 4 (Fp.mk 190)),(B [115,105,103,110,101,100],Dn.mk 4 (Fp.mk 191)),(B [99,104,101,99,107,101,100],Dn.mk 3 (Fp.mk 192)),(B [111,117,116],Dn.mk 2 (Fp.mk 193)),(B [105,110],Dn.mk 3 (Fp.mk 194)),(B [115,97,108,101],Dn.mk 5 (Fp.mk 195)),(B [115,121,110,99],Dn.mk 4 (Fp.mk 196)),(B [99,108,111,115,101],Dn.mk 5 (Fp.mk 197)),(B [100,114,105,118,101,114],Dn.mk 2 (Fp.mk 198)),(B [100,117,116,121],Dn.mk 5 (Fp.mk 199)),(B [103,105,118,101],Dn.mk 2 (Fp.mk 200))]
theorem Aay (n:Nat):Acc n=some (H4,()):=by kernel_rfl
theorem Pc {α β:Type} (q:α→α→Bool) (hq:∀ a b,q a b=true→a=b):∀ (l:List (α×β))(k:α)(v:β),GL q l k=some v→(k,v)∈l
 | [],_,_,h=>by cases h
 | p::r,k,v,h=>by
  unfold GL at h
  cases hp:q p.1 k with
  | true =>
   rw [hp,Zac] at h
   cases h
   have:=hq _ _ hp
   subst this
   simp
  | false =>
   rw [hp,Zad] at h
   exact Zbe _ (Pc q hq r k v h)
theorem Pd {w:ByteArray} {x:Dn} (h:GL F7 H4 w=some x):2≤x.many∧x.many≤5∧189≤x.do_.f∧x.do_.f≤200:=by
 have:=Pc F7 (fun a b h=>(Ur a b).1 h) _ _ _ h
 simp only [H4,Zam,Prod.mk.injEq,Zbj,or_false] at this
 rcases this with⟨_,rfl⟩ | ⟨_,rfl⟩ | ⟨_,rfl⟩ | ⟨_,rfl⟩ | ⟨_,rfl⟩ | ⟨_,rfl⟩ | ⟨_,rfl⟩ | ⟨_,rfl⟩ | ⟨_,rfl⟩ | ⟨_,rfl⟩ | ⟨_,rfl⟩ | ⟨_,rfl⟩ <;> simp
def GD:List ByteArray→Option (List Int)
 | []=>some []
 | s::r=>match U3 s with
  | none=>none
  | some v=>match GD r with
   | none=>none
   | some vs=>some (v::vs)
theorem Na:∀ {l:List ByteArray} {vs:List Int},GD l=some vs→vs.length=l.length
 | [],vs,h=>by cases h; rfl
 | s::r,vs,h=>by
  unfold GD at h
  split at h
  · cases h
  · split at h
    · cases h
    · rename_i vs' hv
      cases h
      simp [Na hv]
def Pe (i:Nat) (z vs:List Int):List Int:=z.take i++vs++z.drop (i+vs.length)
theorem Aaz {z:List Int} {i:Nat} (hi:i<z.length) (v:Int) (vs:List Int):Pe (i+1) (z.set i v) vs=Pe i z (v::vs):=by
 unfold Pe
 rw [List.take_set,List.drop_set,if_pos (by omega),List.take_succ_eq_append_getElem hi,List.set_append_right _ _ (by rw [ZaU]; omega),ZaU,Nat.min_eq_left (by omega),Nat.sub_self]
 simp only [List.set_cons_zero,Zas,ZaC,List.singleton_append,ZaP,Za6]
 rw [show i+1+vs.length=i+(vs.length+1) by omega]
theorem RK (g:Aa) (e:Int) (x:Dn) (full:List ByteArray) (hs:∀ s∈full,s.size≤1000000) (hl:full.length≤5):∀ (n i:Nat)(z:List Int),full.length-i<n→i≤full.length→z.length=5→match GD (full.drop i) with
  | some vs=>Hb n g e x z full (full.length:Int) (i:Int)=some (.inl (g,((e,()),(x,(Pe i z vs,((),((),((),((),()))))))) ))
  | none=>∃ z',Hb n g e x z full (full.length:Int) (i:Int)=some (.inr (g,((e,()),(x,(z',((),(Av.mk 4,())))))))
 | 0,_,_,h,_,_=>absurd h (Zav _)
 | n+1,i,z,h,hi,hz=>by
  rw [Hb]
  by_cases hx:i<full.length
  · have hd:full.drop i=full[i]::full.drop (i+1):=Zaj hx
    have ih:=fun z=>RK g e x full hs hl n (i+1) z (by omega) (by omega)
    rw [show decide ((i:Int)<(full.length:Int))=true by simp; omega,Zac,Cb hx,Zaa,YP (hs _ (Za9 hx)),Zaa,hd,wN i (by omega)]
    unfold GD
    cases hv:U3 full[i] with
    | none=>exact⟨z,rfl⟩
    | some v =>
     simp only [Za8]
     have h5:z.length.beq 5=true:=by rw [hz]; rfl
     rw [h5,Zac,Cb (by omega),Zaa,show((i:Nat):Int).toNat=i from rfl,Ug (by omega),Zaa]
     have:=ih (z.set i v) (by simp [hz])
     cases hr:GD (full.drop (i+1)) with
     | none =>
      rw [hr] at this
      exact this
     | some vs =>
      rw [hr] at this
      simp only
      simp only at this
      rw [this,Aaz (by omega)]
  · have hd:full.drop i=[]:=by simp; omega
    rw [show decide ((i:Int)<(full.length:Int))=false by simp; omega,hd]
    simp [GD,Pe]
def Er (text:ByteArray):Option (Int×List Int) :=
 match DC text with
 | []=>none
 | p::r=>match GL F7 H4 p with
  | none=>none
  | some x=>if ((r.length+1:Nat):Int)=x.many+1 then match GD r with
    | none=>none
    | some vs=>some (x.do_.f,vs++List.replicate (5-vs.length) 0)
   else none
def B8 (s:Ah) (f:Int):List Int→Ah×Int
 | [a,b,c,d,e] =>
  if f=189 then EL s (Ap.mk a b c (IK.mk 0) d 0) else
  if f=190 then EL s (Ap.mk a b c (IK.mk 1) d 0) else
  if f=191 then EL s (Ap.mk a b c (IK.mk 2) 0 d) else
  if f=192 then EL s (Ap.mk a b c (IK.mk 3) 0 0) else
  if f=193 then U1 s a b else
  if f=194 then Adx s a b c else
  if f=195 then Ir s (Ab.mk a b c (IK.mk 0) d e) else
  if f=196 then Ir s (Ab.mk a b c (IK.mk 1) d 0) else
  if f=197 then Ir s (Ab.mk a b c (IK.mk 2) d e) else
  if f=198 then SS s a b else
  if f=199 then ST s (AH.mk a b (Rg.mk c d) e) else
  SU s a b
 | _=>(s,4)
def B9 (s:Ah) (text:ByteArray):Ah×Int:=match Er text with
 | none=>(s,4)
 | some (f,l)=>if (B8 s f l).2=0 then B8 s f l else(s,(B8 s f l).2)
theorem Fb (c:UInt8):∀ (l:List UInt8),∀ p∈Fl c l,p.length≤l.length
 | [],p,h=>by simp [Fl] at h; subst h; simp
 | b::l,p,h=>by
  unfold Fl at h
  cases hb:b == c with
  | true =>
   rw [hb,Zac] at h
   rcases Zam.1 h with rfl | h
   · simp
   · have:=Fb c l p h; simp; omega
  | false =>
   rw [hb,Zad] at h
   split at h
   · rename_i hn; exact absurd hn (N9 c l)
   · rename_i q r hq
     have h1:=Fb c l q (by rw [hq]; simp)
     rcases Zam.1 h with rfl | h
     · simp; omega
     · have:=Fb c l p (by rw [hq]; simp [h]); simp; omega
theorem NJ {s p:ByteArray} (h:p∈DC s):p.size≤s.size:=by
 unfold DC at h
 obtain⟨l,hl,rfl⟩:=ZaV.1 h
 rw [OR,Uj]
 exact Fb _ _ _ hl
theorem W9 {α:Type} {l:List α} {a b:Nat} (h:a≤b) (h2:b≤l.length):H5 l (a:Int) (b:Int)=some ((l.drop a).take (b-a)):=by
 unfold H5
 rw [if_pos ⟨by omega,by omega,by omega⟩]
 simp
def YQ (y:(Aa×(Int×Unit)×Unit×Unit) ⊕ (Aa×(Int×Unit)×Unit×Av×Unit)):Option (Aa×Int×Unit):=match y with
 | .inl a=>some (a.1,a.2.1.1,())
 | .inr a=>some (a.1,a.2.2.2.1.errno,())
theorem AdN {x:Option ((Aa×Unit) ⊕ (Aa×Av×Unit))} {s:Ah} {y:Ah×Int} (e0:Int) (h:x=some (Cj s y)):((x.bind fun v8=>Sum.elim (fun v9=>some (.inl (v9.fst,((0,()),((),()))))) (fun v9=>some (.inr (v9.fst,((e0,()),((),(v9.snd.fst,())))))) v8).bind YQ)=some (Aa.mk (if y.2=0 then y else(s,y.2)).1,(if y.2=0 then y else(s,y.2)).2,()):=by
 rw [h]
 unfold Cj
 by_cases h0:y.2=0
 · rw [if_pos h0,if_pos h0,h0]; rfl
 · rw [if_neg h0,if_neg h0]; rfl
theorem EA {x:Option ((Aa×Unit) ⊕ (Aa×Av×Unit))} {s:Ah} {y z:Ah×Int} (e0:Int) (h:x=some (Cj s y)) (hz:z=y):((x.bind fun v8=>Sum.elim (fun v9=>some (.inl (v9.fst,((0,()),((),()))))) (fun v9=>some (.inr (v9.fst,((e0,()),((),(v9.snd.fst,())))))) v8).bind YQ)=some (Aa.mk (if z.2=0 then z else(s,z.2)).1,(if z.2=0 then z else(s,z.2)).2,()):=by
 subst hz; exact AdN e0 h
theorem XN:AbR (B [32])=true:=by decide
theorem Hm {text p:ByteArray} {r:List ByteArray} (hp:DC text=p::r):Er text=match GL F7 H4 p with
  | none=>none
  | some x=>if ((r.length+1:Nat):Int)=x.many+1 then match GD r with
    | none=>none
    | some vs=>some (x.do_.f,vs++List.replicate (5-vs.length) 0)
   else none:=by
 unfold Er
 rw [hp]
theorem Aa0 {n:Nat} {s:Ah} {text:ByteArray} (hg:CP s) (hn:1300<n) (ht:text.size≤1000000):Ace n (Aa.mk s) text=some (Aa.mk (B9 s text).1,(B9 s text).2,()):=by
 show(Wk n (Aa.mk s) text 0).bind YQ=_
 unfold Wk B9 NB
 rw [XN,show Nat.blt text.size 4294967281=true from Za1 (by omega),Bool.and_self,Zac,Zaa,Aay,Zaa]
 simp only
 have hsz:∀ q∈DC text,q.size≤1000000:=fun q hq=>ZaF (NJ hq) ht
 cases hp:DC text with
 | nil =>
  unfold DC at hp
  exact absurd (List.map_eq_nil_iff.1 hp) (N9 32 _)
 | cons p r =>
  rw [hp] at hsz
  rw [show A4 (p::r) 0=some p from rfl,Zaa]
  unfold Dm AN
  cases hw:GL F7 H4 p with
  | none =>
   have hpt:=Hm hp
   rw [hw] at hpt
   rw [hpt]
   simp only [Option.isSome_none,Zad,DP]
   simp [Eb,YQ]
  | some x =>
   obtain⟨m1,m2,f1,f2⟩:=Pd hw
   simp only [Option.isSome_some,Zac,Option.getD_some]
   have hwr:IntKind.i64.wrap (x.many+1)=x.many+1:=LP (by omega) (by omega)
   simp only [DP,Zaa,hwr,Zas]
   by_cases hl:((r.length+1:Nat):Int)=x.many+1
   · have hpt:=Hm hp
     rw [hw] at hpt
     simp only [if_pos hl] at hpt
     rw [Zak hl]
     simp only [Eb,Zac,Za8]
     have hsub:H5 (p::r) 1 ((r.length+1:Nat):Int)=some r:=by
      have:=W9 (l:=p::r) (a:=1) (b:=r.length+1) (by omega) (by simp)
      rw [show((1:Nat):Int)=1 from rfl] at this
      rw [this]
      simp
     rw [hsub,Zaa]
     have hloop:=RK (Aa.mk s) 0 x r (fun q hq=>hsz q (by simp [hq])) (by omega) n 0 [0,0,0,0,0] (by omega) (by omega) rfl
     rw [show((0:Nat):Int)=0 from rfl,Zay] at hloop
     cases hv:GD r with
     | none =>
      rw [hv] at hloop
      obtain⟨z',hz⟩:=hloop
      rw [hv] at hpt
      rw [hz,hpt]; simp [YQ]
     | some vs =>
      rw [hv] at hloop hpt
      simp only at hpt
      have hvl:=Na hv
      rw [hpt]
      simp only
      rw [hloop,Zaa]
      simp only [Za8]
      have hlaid:Pe 0 [0,0,0,0,0] vs=vs++List.replicate (5-vs.length) 0:=by
       unfold Pe
       rw [List.take_zero,Za6,Zar,show([0,0,0,0,0]:List Int)=List.replicate 5 0 from rfl,List.drop_replicate]
      have h5:(vs++List.replicate (5-vs.length) (0:Int)).length=5:=by rw [Zan,Zbq]; omega
      rw [hlaid]
      generalize vs++List.replicate (5-vs.length) (0:Int)=l at *
      match l,h5 with
      | [a,b,c,d,e],_ =>
       generalize x.do_.f=f at *
       rw [show([a,b,c,d,e]:List Int).length.beq 5=true from rfl,Zac]
       by_cases q0:f=189
       · subst q0; exact EA _ (Aau hg (by omega)) (by simp [B8])
       rw [Zah q0,Zad]
       by_cases q1:f=190
       · subst q1; exact EA _ (Ac2 hg (by omega)) (by simp [B8])
       rw [Zah q1,Zad]
       by_cases q2:f=191
       · subst q2; exact EA _ (YN hg (by omega)) (by simp [B8])
       rw [Zah q2,Zad]
       by_cases q3:f=192
       · subst q3; exact EA _ (U0 hg (by omega)) (by simp [B8])
       rw [Zah q3,Zad]
       by_cases q4:f=193
       · subst q4; exact EA _ (Ac3 hg (by omega)) (by simp [B8])
       rw [Zah q4,Zad]
       by_cases q5:f=194
       · subst q5; exact EA _ (AdM hg (by omega)) (by simp [B8])
       rw [Zah q5,Zad]
       by_cases q6:f=195
       · subst q6; exact EA _ (Ac4 hg (by omega)) (by simp [B8])
       rw [Zah q6,Zad]
       by_cases q7:f=196
       · subst q7; exact EA _ (Ac5 hg (by omega)) (by simp [B8])
       rw [Zah q7,Zad]
       by_cases q8:f=197
       · subst q8; exact EA _ (Aav hg (by omega)) (by simp [B8])
       rw [Zah q8,Zad]
       by_cases q9:f=198
       · subst q9; exact EA _ (W7 hg (by omega)) (by simp [B8])
       rw [Zah q9,Zad]
       by_cases q10:f=199
       · subst q10; exact EA _ (Aaw hg (by omega)) (by simp [B8])
       rw [Zah q10,Zad]
       have q11:f=200:=by omega
       subst q11
       exact EA _ (Aax hg (by omega)) (by simp [B8])
   · have hpt:=Hm hp
     rw [hw] at hpt
     simp only [if_neg hl] at hpt
     rw [Zah hl,hpt]; simp [Eb,YQ]
def Nb (s s':Ah):Prop:=CP s'∧s'.outs.length≤s.outs.length+1∧s'.runs.length≤s.runs.length+1∧s'.records.length≤s.records.length+1
def Aa1 (s:Ah):Prop:=s.outs.length<200∧s.runs.length<200∧s.records.length<200
theorem Nb.refl {s:Ah} (h:CP s):Nb s s:=⟨h,by omega,by omega,by omega⟩
theorem Aa2 {l:List Ap} (h:Adt l=0):l.length≤40:=by
 unfold Adt at h
 cases hr:IV l with
 | inl e=>rw [hr] at h; have:=RD hr; simp only at h; omega
 | inr y=>exact(RC hr).1
theorem Ke {s:Ah} (hg:CP s) {c:Ap} (hk:KS c) (h0:(EL s c).2=0):Nb s (EL s c).1:=by
 unfold EL at h0 ⊢
 split at h0
 · cases h0
 · rename_i h1
   rw [if_neg h1]
   split at h0
   · rename_i h2
     rw [if_pos h2]
     refine⟨{ hg with kind:=fun a ha=>?_,cards:=Aa2 h2,chk:=h2 },by simp,by simp,by simp⟩
     rcases Zap.1 ha with ha | ha
     · exact hg.kind a ha
     · rw [Za7.1 ha]; exact hk
   · rename_i h2; exact absurd h0 h2
theorem SW {s:Ah} {a b:Int} (h0:(U1 s a b).2=0):(EJ a 0 99 && EJ b 0 1000000)=true∧IW s.outs a<0∧RJ s.runs a b=true∧F8 s.cards a b=([],0)∧(U1 s a b).1={ s with outs:=s.outs++[Jk.mk a b] }:=by
 unfold U1 at h0 ⊢
 by_cases c1:(EJ a 0 99 && EJ b 0 1000000)=true
 · rw [if_pos c1] at h0 ⊢
   by_cases c2:IW s.outs a<0
   · rw [if_pos c2] at h0 ⊢
     by_cases c3:RJ s.runs a b=true
     · rw [if_pos c3] at h0 ⊢
       by_cases c4:(F8 s.cards a b).2=0
       · rw [if_pos c4] at h0 ⊢
         by_cases c5:(F8 s.cards a b).1=[]
         · rw [if_pos c5]
           exact⟨c1,c2,c3,Prod.ext c5 c4,rfl⟩
         · rw [if_neg c5] at h0; cases h0
       · rw [if_neg c4] at h0; exact absurd h0 c4
     · rw [if_neg c3] at h0; cases h0
   · rw [if_neg c2] at h0; cases h0
 · rw [if_neg c1] at h0; cases h0
theorem Aa3 {s:Ah} (hg:CP s) (hr:Aa1 s) {a b:Int} (h0:(U1 s a b).2=0):Nb s (U1 s a b).1:=by
 obtain⟨r1,r2,r3⟩:=hr
 rw [(SW h0).2.2.2.2]
 exact⟨{ hg with outs:=by simp; omega },by simp,by simp,by simp⟩
theorem XO {s:Ah} {a b c:Int} (h0:(Adx s a b c).2=0):∃ (k:Nat)(hk:k<s.outs.length),NI s.outs a=some k∧(Adx s a b c).1={ s with outs:=s.outs.eraseIdx k,runs:=s.runs++[I9.mk s.outs[k].bus s.outs[k].fr b c] }∧EJ b s.outs[k].fr 1000000=true∧EJ c 0 1000=true:=by
 unfold Adx at h0 ⊢
 cases hgo:NI s.outs a with
 | none=>rw [hgo] at h0; cases h0
 | some k =>
  obtain⟨hk,_⟩:=U2 hgo
  rw [hgo] at h0
  simp only [Zao hk] at h0 ⊢
  by_cases c1:(EJ b s.outs[k].fr 1000000 && EJ c 0 1000)=true
  · rw [if_pos c1]
    rw [Zax] at c1
    exact⟨k,hk,rfl,rfl,c1.1,c1.2⟩
  · rw [if_neg c1] at h0; cases h0
theorem Ac6 {s:Ah} (hg:CP s) (hr:Aa1 s) {a b c:Int} (h0:(Adx s a b c).2=0):Nb s (Adx s a b c).1:=by
 obtain⟨r1,r2,r3⟩:=hr
 obtain⟨k,hk,_,e,_⟩:=XO h0
 rw [e]
 have:=List.length_eraseIdx_le s.outs k
 exact⟨{ hg with outs:=by show(s.outs.eraseIdx k).length≤200; omega,runs:=by simp; omega },by show(s.outs.eraseIdx k).length≤_; omega,by simp,by simp⟩
theorem Jt {s:Ah} {r:Ab} (h0:(Ir s r).2=0):(Ir s r).1={ s with records:=s.records++[r] }∧s.records.any (Cw r)=false∧Gf [s.records,[r]]=0:=by
 unfold Ir at h0 ⊢
 by_cases c1:s.records.any (Cw r)=true
 · rw [if_pos c1] at h0; cases h0
 · rw [if_neg c1] at h0 ⊢
   by_cases c2:Gf [s.records,[r]]=0
   · rw [if_pos c2]; exact⟨rfl,by simpa using c1,c2⟩
   · rw [if_neg c2] at h0; exact absurd h0 c2
theorem Pf {s:Ah} (hg:CP s) (hr:Aa1 s) {r:Ab} (hk:Ro r) (h0:(Ir s r).2=0):Nb s (Ir s r).1:=by
 obtain⟨r1,r2,r3⟩:=hr
 rw [(Jt h0).1]
 exact⟨{ hg with recs:=by simp; omega,rk:=fun a ha=>(Zap.1 ha).elim (hg.rk a) (fun ha=>by rw [Za7.1 ha]; exact hk) },by simp,by simp,by simp⟩
theorem KW {w:Aq} (h:D1 w=0):w.duties.length≤12∧w.drivers.length≤6:=by
 unfold D1 at h
 by_cases c1:12<w.duties.length
 · rw [if_pos c1] at h; cases h
 · rw [if_neg c1] at h
   by_cases c2:6<w.drivers.length
   · rw [if_pos c2] at h; cases h
   · exact⟨by omega,by omega⟩
theorem Aa4 {s:Ah} (hg:CP s) {k off:Int} (h0:(SS s k off).2=0):Nb s (SS s k off).1:=by
 unfold SS at h0 ⊢
 by_cases c:D1 (FT s.week k off)=0
 · rw [if_pos c]
   obtain⟨w1,w2⟩:=KW c
   exact⟨{ hg with days:=hg.days,rest:=hg.rest,run:=hg.run,hours:=hg.hours,duties:=w1,drivers:=w2,ros:=hg.ros,wk:=c,drv:=fun d hd=>(Zap.1 hd).elim (hg.drv d) (fun hd=>⟨k,off,Za7.1 hd⟩) },by simp,by simp,by simp⟩
 · rw [if_neg c] at h0; exact absurd h0 c
theorem Aa5 {s:Ah} (hg:CP s) {d:AH} (h0:(ST s d).2=0):Nb s (ST s d).1:=by
 unfold ST at h0 ⊢
 by_cases c:D1 (GC s.week d)=0
 · rw [if_pos c]
   obtain⟨w1,w2⟩:=KW c
   exact⟨{ hg with days:=hg.days,rest:=hg.rest,run:=hg.run,hours:=hg.hours,duties:=w1,drivers:=w2,drv:=hg.drv,ros:=by simp [GC,hg.ros],wk:=c },by simp,by simp,by simp⟩
 · rw [if_neg c] at h0; exact absurd h0 c
theorem Aa6 {s:Ah} (hg:CP s) {i k:Int} (h0:(SU s i k).2=0):Nb s (SU s i k).1:=by
 unfold SU at h0 ⊢
 by_cases c1:(EJ i 0 ((s.roster.length:Int)-1) && EJ k (-1) ((s.week.drivers.length:Int)-1))=true
 · rw [if_pos c1] at h0 ⊢
   by_cases c2:Gg s.week (s.roster.set i.toNat k)=true
   · rw [if_pos c2]
     exact⟨{ hg with ros:=by simp [hg.ros] },by simp,by simp,by simp⟩
   · rw [if_neg c2] at h0; cases h0
 · rw [if_neg c1] at h0; cases h0
theorem YS {s:Ah} (hg:CP s) (hr:Aa1 s) {f:Int} {l:List Int} (h0:(B8 s f l).2=0):Nb s (B8 s f l).1:=by
 unfold B8 at h0 ⊢
 split at h0
 · by_cases q0:f=189
   · rw [if_pos q0] at h0 ⊢; exact Ke hg ⟨by simp,by simp⟩ h0
   rw [if_neg q0] at h0 ⊢
   by_cases q0:f=190
   · rw [if_pos q0] at h0 ⊢; exact Ke hg ⟨by simp,by simp⟩ h0
   rw [if_neg q0] at h0 ⊢
   by_cases q0:f=191
   · rw [if_pos q0] at h0 ⊢; exact Ke hg ⟨by simp,by simp⟩ h0
   rw [if_neg q0] at h0 ⊢
   by_cases q0:f=192
   · rw [if_pos q0] at h0 ⊢; exact Ke hg ⟨by simp,by simp⟩ h0
   rw [if_neg q0] at h0 ⊢
   by_cases q0:f=193
   · rw [if_pos q0] at h0 ⊢; exact Aa3 hg hr h0
   rw [if_neg q0] at h0 ⊢
   by_cases q0:f=194
   · rw [if_pos q0] at h0 ⊢; exact Ac6 hg hr h0
   rw [if_neg q0] at h0 ⊢
   by_cases q0:f=195
   · rw [if_pos q0] at h0 ⊢; exact Pf hg hr ⟨by simp,by simp⟩ h0
   rw [if_neg q0] at h0 ⊢
   by_cases q0:f=196
   · rw [if_pos q0] at h0 ⊢; exact Pf hg hr ⟨by simp,by simp⟩ h0
   rw [if_neg q0] at h0 ⊢
   by_cases q0:f=197
   · rw [if_pos q0] at h0 ⊢; exact Pf hg hr ⟨by simp,by simp⟩ h0
   rw [if_neg q0] at h0 ⊢
   by_cases q0:f=198
   · rw [if_pos q0] at h0 ⊢; exact Aa4 hg h0
   rw [if_neg q0] at h0 ⊢
   by_cases q0:f=199
   · rw [if_pos q0] at h0 ⊢; exact Aa5 hg h0
   rw [if_neg q0] at h0 ⊢
   exact Aa6 hg h0
 · cases h0
theorem YU {s:Ah} (hg:CP s) (hr:Aa1 s) (t:ByteArray):Nb s (B9 s t).1:=by
 unfold B9
 cases Er t with
 | none=>exact Nb.refl hg
 | some y =>
  obtain⟨f,l⟩:=y
  simp only
  by_cases h0:(B8 s f l).2=0
  · rw [if_pos h0]; exact YS hg hr h0
  · rw [if_neg h0]; exact Nb.refl hg
theorem Ju {s:Ah} {t:ByteArray} (h:(B9 s t).2≠0):(B9 s t).1=s:=by
 unfold B9 at h ⊢
 cases hp:Er t with
 | none=>rfl
 | some y =>
  obtain⟨f,l⟩:=y
  rw [hp] at h
  simp only at h ⊢
  by_cases h0:(B8 s f l).2=0
  · rw [if_pos h0] at h; exact absurd h0 h
  · rw [if_neg h0]
def Al:Ah:=Ah.mk [] [] [] [] (Aq.mk 7 [] [] 600 5 3000) []
theorem WA:CP Al where
 kind:=by simp [Al]
 cards:=by simp [Al]
 outs:=by simp [Al]
 runs:=by simp [Al]
 rk:=by simp [Al]
 recs:=by simp [Al]
 days:=rfl
 rest:=rfl
 run:=rfl
 hours:=rfl
 duties:=by simp [Al]
 drivers:=by simp [Al]
 drv:=by simp [Al]
 ros:=rfl
 wk:=rfl
 chk:=rfl
def A2 (s:Ah):List ByteArray→Ah×List Int
 | []=>(s,[])
 | t::r=>((A2 (B9 s t).1 r).1,(B9 s t).2::(A2 (B9 s t).1 r).2)
def LY (m:Nat) (s:Ah):Prop:=CP s∧s.outs.length+m≤200∧s.runs.length+m≤200∧s.records.length+m≤200
theorem LY.step {m:Nat} {s:Ah} (h:LY (m+1) s) (t:ByteArray):LY m (B9 s t).1:=by
 obtain⟨h1,h2,h3,h4⟩:=h
 obtain⟨a,b,c,d⟩:=YU h1 ⟨by omega,by omega,by omega⟩ t
 exact⟨a,by omega,by omega,by omega⟩
theorem LY.less {m k:Nat} {s:Ah} (h:LY m s) (hk:k≤m):LY k s:=⟨h.1,by have:=h.2.1; omega,by have:=h.2.2.1; omega,by have:=h.2.2.2; omega⟩
theorem GF:LY 150 Al:=⟨WA,by simp [Al],by simp [Al],by simp [Al]⟩
theorem GG:∀ (l:List ByteArray)(m:Nat)(s:Ah),LY (m+l.length) s→LY m (A2 s l).1
 | [],m,s,h=>h
 | t::l,m,s,h=>by
  simp only [A2]
  exact GG l m _ (LY.step (by rw [show m+(t::l).length=m+l.length+1 by simp; omega] at h; exact h) t)
theorem HK:∀ (l:List ByteArray)(s:Ah),(A2 s l).2.length=l.length
 | [],_=>rfl
 | t::l,s=>by simp [A2,HK l]
theorem Pg (full:List ByteArray) (hs:∀ t∈full,t.size≤1000000) (hl:full.length≤150):∀ (n i:Nat)(s:Ah)(es:List Int),1400+(full.length-i)<n→i≤full.length→LY (full.length-i) s→es.length=i→C0 n (Aa.mk s) es full (full.length:Int) (i:Int)=some (Aa.mk (A2 s (full.drop i)).1,((),(es++(A2 s (full.drop i)).2,())))
 | 0,_,_,_,h,_,_,_=>absurd h (Zav _)
 | n+1,i,s,es,h,hi,hL,he=>by
  rw [C0]
  by_cases hx:i<full.length
  · have hd:full.drop i=full[i]::full.drop (i+1):=Zaj hx
    rw [show decide ((i:Int)<(full.length:Int))=true by simp; omega,Zac,Cb hx,Zaa,Aa0 hL.1 (by omega) (hs _ (Za9 hx)),Zaa]
    simp only
    rw [B6 (by simp; omega),Zaa,wN i (by omega)]
    have hL':LY (full.length-(i+1)) (B9 s full[i]).1:=LY.step (by rw [show full.length-(i+1)+1=full.length-i by omega]; exact hL) _
    rw [Pg full hs hl n (i+1) _ _ (by omega) (by omega) hL' (by simp [he]),hd]
    simp [A2]
  · have hd:full.drop i=[]:=by simp; omega
    rw [show decide ((i:Int)<(full.length:Int))=false by simp; omega,hd]
    simp [A2]
theorem SX {n:Nat} {lines:List ByteArray} (hs:∀ t∈lines,t.size≤1000000) (hl:lines.length≤150) (hn:1600≤n):Em n lines=some (Aa.mk (A2 Al lines).1,((A2 Al lines).2,())):=by
 unfold Em
 have h:=Pg lines hs hl n 0 Al [] (by omega) (by omega) (GF.less (by omega)) rfl
 rw [show((0:Nat):Int)=0 from rfl,Zay,Za6] at h
 show(C0 n (Aa.mk Al) [] lines (lines.length:Int) 0).bind _=_
 rw [h]; rfl
theorem XP {n:Nat} {lines:List ByteArray} (hr:Ge lines=true) (hn:1600≤n):En n lines=some ((A2 Al lines).1,((A2 Al lines).2,(0,()))):=by
 obtain⟨h1,h2⟩:=FA.1 hr
 unfold En
 rw [OS (by omega) (by omega),hr,Zaa]
 simp only [Zac]
 rw [show((0:Int) != 0)=false from rfl,Zad,SX (fun t ht=>ZaF (h2 t ht) (by decide)) (by omega) hn]
 rfl
theorem Aa7 {n:Nat} {lines:List ByteArray} (hbig:lines.length≤4000000000000000000) (hn:lines.length<n):∃ b,MK n lines=some (b,()):=by
 have H:∀ (n i:Nat)(z:Int),lines.length-i<n→i≤lines.length→∃ z',Gb n lines z (i:Int)=some (lines,(z',())):=by
  intro n
  induction n with
  | zero=>intro i z h; exact absurd h (Zav _)
  | succ n ih =>
   intro i z h hi
   rw [Gb]
   by_cases hx:i<lines.length
   · rw [show decide ((i:Int)<(lines.length:Int))=true by simp; omega,Zac,Cb hx,Zaa,wN i (by omega)]
     exact ih (i+1) _ (by omega) (by omega)
   · rw [show decide ((i:Int)<(lines.length:Int))=false by simp; omega,Zad]
     exact⟨z,rfl⟩
 obtain⟨z,hz⟩:=H n 0 0 (by omega) (by omega)
 rw [show((0:Nat):Int)=0 from rfl] at hz
 unfold MK
 rw [hz]
 simp only [Zaa]
 generalize decide ((lines.length:Int)≤30)=b1
 generalize decide ((lines.length:Int)≤52)=b2
 generalize decide ((lines.length:Int)=1)=b3
 generalize decide (z≤1200)=b4
 generalize decide (z≤400)=b5
 cases b1 <;> cases b2 <;> cases b3 <;> cases b4 <;> cases b5 <;> exact⟨_,rfl⟩
theorem WB {n:Nat} {lines:List ByteArray} (hbig:lines.length≤4000000000000000000) (hn:lines.length<n):∃ b,IT n lines=some (b,())∧(b=true→Ge lines=true):=by
 obtain⟨b,hb⟩:=Aa7 hbig hn
 unfold IT
 rw [hb,Zaa]
 cases b with
 | false=>exact⟨false,rfl,fun h=>by cases h⟩
 | true =>
  simp only [Zac]
  rw [Aaj hbig hn,Zaa]
  exact⟨_,rfl,id⟩
def Gs (s:Ah):List ByteArray→List ByteArray
 | []=>[]
 | t::r=>if (B9 s t).2=0 then t::Gs (B9 s t).1 r else Gs (B9 s t).1 r
def Kz:List ByteArray→List Int→List ByteArray
 | t::r,e::es=>if e=0 then t::Kz r es else Kz r es
 | _,_=>[]
theorem U4:∀ (l:List ByteArray)(s:Ah),Kz l (A2 s l).2=Gs s l
 | [],_=>rfl
 | t::l,s=>by
  simp only [A2,Kz,Gs,U4 l]
theorem Aa8 {lines:List ByteArray} {es:List Int} (he:es.length=lines.length) (hl:lines.length≤1000) {n:Nat} (hn:lines.length<n):IQ n lines es=some (Kz lines es,()):=by
 have H:∀ (n i:Nat)(out:List ByteArray),lines.length-i<n→i≤lines.length→out.length≤i→DA n lines es out (i:Int)=some (out++Kz (lines.drop i) (es.drop i),()):=by
  intro n
  induction n with
  | zero=>intro i out h; exact absurd h (Zav _)
  | succ n ih =>
   intro i out h hi ho
   rw [DA]
   by_cases hx:i<lines.length
   · have hx2:i<es.length:=by omega
     have hd:lines.drop i=lines[i]::lines.drop (i+1):=Zaj hx
     have hd2:es.drop i=es[i]::es.drop (i+1):=Zaj hx2
     rw [show decide ((i:Int)<(es.length:Int))=true from Zak (by omega),Zac,show decide ((i:Int)<(lines.length:Int))=true from Zak (by omega),Zac,Cb hx2,Zaa,Cb hx,Zaa,wN i (by omega),hd,hd2]
     unfold Kz
     by_cases h0:es[i]=0
     · rw [Zak h0,Zac,if_pos h0,B6 (by simp; omega),Zaa,ih (i+1) _ (by omega) (by omega) (by simp; omega)]
       simp
     · rw [Zah h0,Zad,if_neg h0,ih (i+1) _ (by omega) (by omega) (by omega)]
   · have hd:lines.drop i=[]:=by simp; omega
     rw [show decide ((i:Int)<(es.length:Int))=false from Zah (by omega),Zad,hd]
     simp [Kz]
 have h:=H n 0 [] (by omega) (by omega) (by simp)
 rw [show((0:Nat):Int)=0 from rfl,Zay,Zay,Za6] at h
 unfold IQ
 rw [h]; rfl
theorem U5:∀ (l:List ByteArray)(s:Ah),(Gs s l).length≤l.length
 | [],_=>by simp [Gs]
 | t::l,s=>by
  have:=U5 l (B9 s t).1
  unfold Gs
  split
  · simp; omega
  · simp; omega
theorem Ph:∀ (l:List ByteArray)(s:Ah),∀ t∈Gs s l,t∈l
 | [],_,t,h=>by cases h
 | a::l,s,t,h=>by
  unfold Gs at h
  split at h
  · rcases Zam.1 h with rfl | h
    · simp
    · exact Zbe _ (Ph l _ t h)
  · exact Zbe _ (Ph l _ t h)
theorem NK {t:ByteArray} {f:Int} {l:List Int} (h:Er t=some (f,l)):∃ p r x vs,DC t=p::r∧GL F7 H4 p=some x∧((r.length+1:Nat):Int)=x.many+1∧GD r=some vs∧f=x.do_.f∧l=vs++List.replicate (5-vs.length) 0:=by
 cases hp:DC t with
 | nil=>unfold DC at hp; exact absurd (List.map_eq_nil_iff.1 hp) (N9 32 _)
 | cons p r =>
  rw [Hm hp] at h
  cases hw:GL F7 H4 p with
  | none=>rw [hw] at h; cases h
  | some x =>
   rw [hw] at h
   simp only at h
   by_cases hl:((r.length+1:Nat):Int)=x.many+1
   · rw [if_pos hl] at h
     cases hv:GD r with
     | none=>rw [hv] at h; cases h
     | some vs =>
      rw [hv] at h
      cases h
      exact⟨p,r,x,vs,rfl,hw,hl,hv,rfl,rfl⟩
   · rw [if_neg hl] at h; cases h
theorem Aa9 {p:ByteArray} {x:Dn} (h:GL F7 H4 p=some x):(p=B [111,117,116]∧x.many=2∧x.do_.f=193)∨(p≠B [111,117,116]∧x.do_.f≠193):=by
 have:=Pc F7 (fun a b h=>(Ur a b).1 h) _ _ _ h
 simp only [H4,Zam,Prod.mk.injEq,Zbj,or_false] at this
 rcases this with⟨rfl,rfl⟩ | ⟨rfl,rfl⟩ | ⟨rfl,rfl⟩ | ⟨rfl,rfl⟩ | ⟨rfl,rfl⟩ | ⟨rfl,rfl⟩ | ⟨rfl,rfl⟩ | ⟨rfl,rfl⟩ | ⟨rfl,rfl⟩ | ⟨rfl,rfl⟩ | ⟨rfl,rfl⟩ | ⟨rfl,rfl⟩ <;> first | exact .inl ⟨rfl,rfl,rfl⟩ | exact .inr ⟨by decide,by decide⟩
def LZ (cards:List Ap) (t:ByteArray):Bool:=match Er t with
 | some (f,a::b::_)=>decide (f=193) && decide ((((F8 cards a b).1.length:Nat):Int)>0)
 | _=>false
theorem RL {s:ByteArray} (hs:s.size≤1000000) {v:Int} (h:U3 s=some v):KJ s=some (.inl v):=by
 unfold KJ
 obtain⟨_,h2,_,_⟩:=RB h
 rw [if_pos (by omega),h2]
theorem AdO {a b:ByteArray} (h:a≠b):a.beq b=false:=by
 cases hb:a.beq b with
 | false=>rfl
 | true =>
  have h2:(a.data == b.data)=true:=hb
  exact absurd (ByteArray.ext (eq_of_beq h2)) h
theorem YV {n:Nat} {t:ByteArray} {g:Aa} (hg:CP g.state) (hn:300<n) (ht:t.size≤1000000) {y:Int×List Int} (hy:Er t=some y):Fw n t g=some ((g,()),((),(LZ g.state.cards t,()))):=by
 obtain⟨f,l⟩:=y
 obtain⟨p,r,x,vs,hp,hw,hl,hv,rfl,rfl⟩:=NK hy
 have hsz:∀ q∈DC t,q.size≤1000000:=fun q hq=>ZaF (NJ hq) ht
 unfold Fw NB LZ
 rw [XN,show Nat.blt t.size 4294967281=true from Za1 (by omega),Bool.and_self,Zac,Zaa,hp,hy]
 simp only
 rw [show A4 (p::r) 0=some p from rfl,Zaa]
 rw [hp] at hsz
 rcases Aa9 hw with⟨rfl,hm,hf⟩ | ⟨hne,hf⟩
 · rw [hm] at hl
   obtain⟨r1,r2,rfl⟩:∃ r1 r2,r=[r1,r2]:=by
    rcases r with _ | ⟨r1,_ | ⟨r2,_ | ⟨r3,r4⟩⟩⟩
    · simp at hl
    · simp at hl
    · exact⟨_,_,rfl⟩
    · simp at hl; omega
   have hs1:=hsz r1 (by simp)
   have hs2:=hsz r2 (by simp)
   unfold GD at hv
   cases h1:U3 r1 with
   | none=>rw [h1] at hv; cases hv
   | some a =>
    rw [h1] at hv
    unfold GD at hv
    cases h2:U3 r2 with
    | none=>rw [h2] at hv; cases hv
    | some b =>
     rw [h2] at hv
     unfold GD at hv
     cases hv
     have hb:(B [111,117,116]).beq (B [111,117,116])=true:=by decide
     have ho:=SN (n:=n) (bus:=a) (at_:=b) hg.kind (ZaF hg.cards (by decide)) (by have:=hg.cards; omega)
     rw [hb,ZaM,Zad,show A4 [B [111,117,116],r1,r2] 1=some r1 from rfl,Zaa,RL hs1 h1,Zaa,Za8,show A4 [B [111,117,116],r1,r2] 2=some r2 from rfl,Zaa,RL hs2 h2,Zaa,Za8,ho,Zaa,hf]
     rfl
 · rw [AdO hne,ZaI,Zac]
   rcases vs++List.replicate (5-vs.length) 0 with _ | ⟨a,_ | ⟨b,c⟩⟩
   · rfl
   · rfl
   · show _=some ((g,()),((),(decide (x.do_.f=193) && decide ((((F8 g.state.cards a b).1.length:Nat):Int)>0),())))
     rw [Zah hf]; rfl
theorem Kf {s:Ah} {t:ByteArray} (h:(B9 s t).2=0):∃ y,Er t=some y∧(B8 s y.1 y.2).2=0∧(B9 s t).1=(B8 s y.1 y.2).1:=by
 unfold B9 at h ⊢
 cases hp:Er t with
 | none=>rw [hp] at h; cases h
 | some y =>
  obtain⟨f,l⟩:=y
  rw [hp] at h
  simp only at h ⊢
  by_cases h0:(B8 s f l).2=0
  · rw [if_pos h0]; exact⟨_,rfl,h0,rfl⟩
  · rw [if_neg h0] at h; exact absurd h h0
def Ck (cards:List Ap):List ByteArray→List Int→Nat→List Int
 | t::l,e::es,i=>bif decide (e=0) && LZ cards t then(i:Int)::Ck cards l es (i+1) else Ck cards l es (i+1)
 | _,_,_=>[]
theorem GH (full:List ByteArray) (errs:List Int) (g:Aa) (hg:CP g.state) (hs:∀ t∈full,t.size≤1000000) (hl:full.length≤1000) (he:errs.length=full.length) (hacc:∀ (i:Nat)(h:i<full.length),errs[i]'(by omega)=0→∃ y,Er full[i]=some y):∀ (n i:Nat)(out:List Int),300+(full.length-i)<n→i≤full.length→out.length≤i→BS n errs out g full (full.length:Int) (i:Int)=some ((g,()),((),(out++Ck g.state.cards (full.drop i) (errs.drop i) i,())))
 | 0,_,_,h,_,_=>absurd h (Zav _)
 | n+1,i,out,h,hi,ho=>by
  rw [BS]
  by_cases hx:i<full.length
  · have hd:full.drop i=full[i]::full.drop (i+1):=Zaj hx
    have hxe:i<errs.length:=by omega
    have hde:errs.drop i=errs[i]::errs.drop (i+1):=Zaj hxe
    rw [show decide ((i:Int)<(full.length:Int))=true by simp; omega,Zac,Cb hx,Zaa,Cb hxe,Zaa,wN i (by omega),hd,hde]
    unfold Ck
    by_cases h0:errs[i]=0
    · obtain⟨y,hy⟩:=hacc i hx h0
      rw [Zak h0,Zac,YV hg (by omega) (hs _ (Za9 hx)) hy,Zaa,ZaS]
      simp only
      cases hb:LZ g.state.cards full[i] with
      | false =>
       simp only [Zad]
       exact GH full errs g hg hs hl he hacc n (i+1) out (by omega) (by omega) (by omega)
      | true =>
       simp only [Zac]
       rw [B6 (by simp; omega),Zaa,GH full errs g hg hs hl he hacc n (i+1) _ (by omega) (by omega) (by simp; omega)]
       simp
    · rw [Zah h0,Zad,Bool.false_and,Zad]
      exact GH full errs g hg hs hl he hacc n (i+1) out (by omega) (by omega) (by omega)
  · have hd:full.drop i=[]:=by simp; omega
    rw [show decide ((i:Int)<(full.length:Int))=false by simp; omega,hd]
    simp [Ck]
theorem Nc:∀ (l:List ByteArray)(s:Ah)(i:Nat)(h:i<l.length),((A2 s l).2[i]'(by rw [HK]; exact h))=0→∃ y,Er l[i]=some y
 | t::l,s,0,h,h0=>by
  obtain⟨y,hy,_⟩:=Kf (s:=s) (t:=t) (by simpa [A2] using h0)
  exact⟨y,by simpa using hy⟩
 | t::l,s,i+1,h,h0=>by
  have:=Nc l (B9 s t).1 i (by simpa using h) (by simpa [A2] using h0)
  simpa using this
theorem XQ {n:Nat} {lines:List ByteArray} (hr:Ge lines=true) (hn:1600≤n):Eo n lines=some (Ck (A2 Al lines).1.cards lines (A2 Al lines).2 0,(0,())):=by
 obtain⟨h1,h2⟩:=FA.1 hr
 have hs:∀ t∈lines,t.size≤1000000:=fun t ht=>ZaF (h2 t ht) (by decide)
 have hL:=GG lines 0 Al (GF.less (by omega))
 unfold Eo
 rw [OS (by omega) (by omega),hr,Zaa]
 simp only [Zac]
 rw [show((0:Int) != 0)=false from rfl,Zad,SX hs (by omega) hn,Zaa]
 unfold Dz
 have h:=GH lines (A2 Al lines).2 (Aa.mk (A2 Al lines).1) hL.1 hs (by omega) (HK _ _) (fun i hi h0=>Nc lines Al i hi h0) n 0 [] (by omega) (by omega) (by simp)
 rw [show((0:Nat):Int)=0 from rfl,Zay,Zay,Za6] at h
 simp only
 rw [h]; rfl
def Hf:List I9→Int
 | []=>0
 | r::l=>r.miles+Hf l
def GI (bus:Int) (l:List I9):List I9:=l.filter fun r=>decide (r.bus=bus)
def AaA (r:I9):Prop:=0≤r.bus∧r.bus≤99∧0≤r.miles∧r.miles≤1000
structure HL (s:Ah):Prop where
 outs:∀ o∈s.outs,0≤o.bus∧o.bus≤99
 runs:∀ r∈s.runs,AaA r
theorem U6:∀ a b:List I9,Hf (a++b)=Hf a+Hf b
 | [],b=>by simp [Hf]
 | r::a,b=>by simp only [ZaP,Hf]; rw [U6 a b]; omega
theorem Pi:∀ l:List I9,(∀ r∈l,AaA r)→0≤Hf l∧Hf l≤1000*(l.length:Int)
 | [],_=>by simp [Hf]
 | r::l,h=>by
  have h1:=h r (by simp)
  have h2:=Pi l fun x hx=>h x (by simp [hx])
  obtain⟨_,_,a,b⟩:=h1
  simp only [Hf,Zas]
  omega
theorem YW (bus:Int) (l:List I9):(GI bus l).length≤l.length:=Zbr _ _
theorem Is (bus:Int) (full:List I9) (hr:∀ r∈full,AaA r) (hl:full.length≤1000):∀ (n i:Nat)(a c:Nat),full.length-i<n→i≤full.length→a≤1000*i→c≤i→AP n bus (a:Int) (c:Int) full (full.length:Int) (i:Int)=some ((a:Int)+Hf (GI bus (full.drop i)),((c:Int)+((GI bus (full.drop i)).length:Int),()))
 | 0,_,_,_,h,_,_,_=>absurd h (Zav _)
 | n+1,i,a,c,h,hi,ha,hc=>by
  rw [AP]
  by_cases hx:i<full.length
  · have hd:full.drop i=full[i]::full.drop (i+1):=Zaj hx
    obtain⟨_,_,m0,m1⟩:=hr _ (Za9 hx)
    obtain⟨m,hm⟩:∃ m:Nat,full[i].miles=m:=⟨full[i].miles.toNat,by omega⟩
    rw [show decide ((i:Int)<(full.length:Int))=true by simp; omega,Zac,Cb hx,Zaa,hd,wN i (by omega)]
    unfold GI
    by_cases hb:full[i].bus=bus
    · rw [Zak hb,Zac,hm,LP (x:=(a:Int)+(m:Int)) (by omega) (by omega),wN c (by omega),List.filter_cons_of_pos (by simpa using hb)]
      have:=Is bus full hr hl n (i+1) (a+m) (c+1) (by omega) (by omega) (by omega) (by omega)
      rw [show((a+m:Nat):Int)=(a:Int)+(m:Int) by omega] at this
      rw [this]
      unfold GI
      simp only [Hf,Zas,hm]
      congr 2
      · omega
      · congr 1; omega
    · rw [Zah hb,Zad,List.filter_cons_of_neg (by simpa using hb)]
      exact Is bus full hr hl n (i+1) a c (by omega) (by omega) (by omega) (by omega)
  · have hd:full.drop i=[]:=by simp; omega
    rw [show decide ((i:Int)<(full.length:Int))=false by simp; omega,hd]
    simp [GI,Hf]
theorem U7:HL Al:=⟨by simp [Al],by simp [Al]⟩
theorem WC {s:Ah} (hm:HL s) {f:Int} {l:List Int} (h0:(B8 s f l).2=0):HL (B8 s f l).1∧(f≠194→(B8 s f l).1.runs=s.runs)∧(f=194→∀ a b c r,l=a::b::c::r→Hf (B8 s f l).1.runs=Hf s.runs+c):=by
 unfold B8 at h0 ⊢
 split at h0
 · rename_i a b c d e
   by_cases q0:f=189
   · rw [if_pos q0] at h0 ⊢; unfold EL; split
     · exact⟨hm,fun _=>rfl,fun q=>by omega⟩
     · split
       · exact⟨⟨hm.outs,hm.runs⟩,fun _=>rfl,fun q=>by omega⟩
       · exact⟨hm,fun _=>rfl,fun q=>by omega⟩
   rw [if_neg q0] at h0 ⊢
   by_cases q0:f=190
   · rw [if_pos q0] at h0 ⊢; unfold EL; split
     · exact⟨hm,fun _=>rfl,fun q=>by omega⟩
     · split
       · exact⟨⟨hm.outs,hm.runs⟩,fun _=>rfl,fun q=>by omega⟩
       · exact⟨hm,fun _=>rfl,fun q=>by omega⟩
   rw [if_neg q0] at h0 ⊢
   by_cases q0:f=191
   · rw [if_pos q0] at h0 ⊢; unfold EL; split
     · exact⟨hm,fun _=>rfl,fun q=>by omega⟩
     · split
       · exact⟨⟨hm.outs,hm.runs⟩,fun _=>rfl,fun q=>by omega⟩
       · exact⟨hm,fun _=>rfl,fun q=>by omega⟩
   rw [if_neg q0] at h0 ⊢
   by_cases q0:f=192
   · rw [if_pos q0] at h0 ⊢; unfold EL; split
     · exact⟨hm,fun _=>rfl,fun q=>by omega⟩
     · split
       · exact⟨⟨hm.outs,hm.runs⟩,fun _=>rfl,fun q=>by omega⟩
       · exact⟨hm,fun _=>rfl,fun q=>by omega⟩
   rw [if_neg q0] at h0 ⊢
   by_cases q0:f=193
   · rw [if_pos q0] at h0 ⊢
     obtain⟨h1,_,_,_,e⟩:=SW h0
     rw [e]
     rw [Zax,EX,EX] at h1
     refine⟨⟨fun o ho=>?_,hm.runs⟩,fun _=>rfl,fun q=>by omega⟩
     rcases Zap.1 ho with ho | ho
     · exact hm.outs o ho
     · rw [Za7.1 ho]; exact h1.1
   rw [if_neg q0] at h0 ⊢
   by_cases q0:f=194
   · rw [if_pos q0] at h0 ⊢
     obtain⟨k,hk,_,e,h1,h2⟩:=XO h0
     rw [e]
     rw [EX] at h2
     have ho:=hm.outs _ (Za9 hk)
     refine⟨⟨fun o ho=>hm.outs o (List.mem_of_mem_eraseIdx ho),fun r hr=>?_⟩,fun q=>absurd q0 q,fun _ a' b' c' r hl=>?_⟩
     · rcases Zap.1 hr with hr | hr
       · exact hm.runs r hr
       · rw [Za7.1 hr]; exact⟨ho.1,ho.2,h2.1,h2.2⟩
     · cases hl
       show Hf (s.runs++[_])=_
       rw [U6]; simp [Hf]
   rw [if_neg q0] at h0 ⊢
   have key:∀ s':Ah,s'.outs=s.outs→s'.runs=s.runs→HL s'∧(f≠194→s'.runs=s.runs)∧(f=194→∀ a' b' c' r,[a,b,c,d,e]=a'::b'::c'::r→Hf s'.runs=Hf s.runs+c'):=fun s' h1 h2=>⟨⟨by rw [h1]; exact hm.outs,by rw [h2]; exact hm.runs⟩,fun _=>h2,fun q=>absurd q q0⟩
   by_cases q1:f=195
   · rw [if_pos q1] at h0 ⊢; rw [(Jt h0).1]; exact key _ rfl rfl
   rw [if_neg q1] at h0 ⊢
   by_cases q1:f=196
   · rw [if_pos q1] at h0 ⊢; rw [(Jt h0).1]; exact key _ rfl rfl
   rw [if_neg q1] at h0 ⊢
   by_cases q1:f=197
   · rw [if_pos q1] at h0 ⊢; rw [(Jt h0).1]; exact key _ rfl rfl
   rw [if_neg q1] at h0 ⊢
   by_cases q1:f=198
   · rw [if_pos q1]; unfold SS; split <;> exact key _ rfl rfl
   rw [if_neg q1] at h0 ⊢
   by_cases q1:f=199
   · rw [if_pos q1]; unfold ST; split <;> exact key _ rfl rfl
   rw [if_neg q1] at h0 ⊢
   unfold SU
   split
   · split <;> exact key _ rfl rfl
   · exact key _ rfl rfl
 · cases h0
theorem WD {s:Ah} (hm:HL s) (t:ByteArray):HL (B9 s t).1:=by
 by_cases h0:(B9 s t).2=0
 · obtain⟨y,_,hw,e⟩:=Kf h0
   rw [e]; exact(WC hm hw).1
 · rw [Ju h0]; exact hm
theorem Pj:∀ (l:List ByteArray)(s:Ah),HL s→HL (A2 s l).1
 | [],_,h=>h
 | t::l,s,h=>by simp only [A2]; exact Pj l _ (WD h t)
theorem Hn {s:Ah} {c:Ap} (h0:(EL s c).2=0):(EL s c).1={ s with cards:=s.cards++[c] }:=by
 unfold EL at h0 ⊢
 split at h0
 · cases h0
 · rename_i h1
   rw [if_neg h1]
   split at h0
   · rename_i h2; rw [if_pos h2]
   · rename_i h2; exact absurd h0 h2
theorem AaB {t:ByteArray} {f:Int} {l:List Int} (h:Er t=some (f,l)):189≤f∧f≤200∧l.length=5:=by
 obtain⟨p,r,x,vs,_,hw,hl,hv,rfl,rfl⟩:=NK h
 obtain⟨m1,m2,f1,f2⟩:=Pd hw
 have:=Na hv
 exact⟨f1,f2,by rw [Zan,Zbq]; omega⟩
theorem G3 {α:Type} {F:Nat→Int→Option (Unit ⊕ (Bool×Unit))} (l:List α) (q:α→α→Bool) (hq:∀ a,q a a=true) (hl:l.length≤4000000000000000000)
  (hF:∀ n i,F (n+1) i=bif decide (i<(l.length:Int)) then(A4 l i).bind (fun v0=>(A4 l i).bind fun v1=>bif !q v0 v1 then some (.inr (false,())) else F n (IntKind.i64.wrap (i+1))) else some (.inl ())):∀ (n i:Nat),l.length-i<n→i≤l.length→F n (i:Int)=some (.inl ())
 | 0,_,h,_=>absurd h (Zav _)
 | n+1,i,h,hi=>by
  rw [hF]
  by_cases hx:i<l.length
  · rw [show decide ((i:Int)<(l.length:Int))=true by simp; omega,Zac,Cb hx,Zaa,Zaa,hq,ZaM,Zad,wN i (by omega)]
    exact G3 l q hq hl hF n (i+1) (by omega) (by omega)
  · rw [show decide ((i:Int)<(l.length:Int))=false by simp; omega]; rfl
theorem Kg {n:Nat} {l:List Int} (hl:l.length≤1000000) (hn:l.length<n):Cz n l l=some (true,()):=by
 unfold Cz
 have h:=G3 (F:=fun n i=>Ek n l l i) l (fun a b=>!(a != b)) (by simp) (by omega) (fun n i=>by
  show Ek (n+1) l l i=_
  rw [Ek]
  simp only [Bool.not_not]) n 0 (by omega) (by omega)
 rw [show((0:Nat):Int)=0 from rfl] at h
 rw [show((l.length:Int) != (l.length:Int))=false by simp,Zad,h]
 rfl
theorem Kh (cards:List Ap):∀ (l:List ByteArray)(es:List Int)(i:Nat),(Ck cards l es i).length≤l.length
 | [],_,_=>by simp [Ck]
 | _::_,[],_=>by simp [Ck]
 | t::l,e::es,i=>by
  have:=Kh cards l es (i+1)
  unfold Ck
  cases decide (e=0) && LZ cards t
  · simp; omega
  · simp; omega
def AaC (cur:Int) (s:Ai):Prop:=-1≤s.day∧s.day≤cur∧0≤s.row∧s.row≤5∧0≤s.used∧s.used≤1440*(s.day+1)∧-20000≤s.free∧s.free≤20000
def AeX (a b:Ai):Prop:=a.free≤b.free∧a.used≤b.used∧((a.day=b.day∧a.row≤b.row)∨a.day<b.day)
theorem Pk {α:Type} (l:List α) (i k:Nat) (x z:α):(l.set i x).getD k z=if i=k∧i<l.length then x else l.getD k z:=by
 simp only [ZaJ,List.getElem?_set]
 by_cases h:i=k
 · subst h
   by_cases h2:i<l.length
   · simp [h2]
   · simp [h2]
 · simp [h]
def AdP (cur:Int) (a b:List Ai):Prop:=a.length=6∧b.length=6∧∀ k:Nat,k<6→AaC cur (a.getD k LW)∧AaC cur (b.getD k LW)∧AeX (a.getD k LW) (b.getD k LW)
theorem AaC.up {a b:Int} {s:Ai} (h:AaC a s) (hab:a≤b):AaC b s:=⟨h.1,by have:=h.2.1; omega,h.2.2⟩
theorem AdP.up {a b:Int} {x y:List Ai} (h:AdP a x y) (hab:a≤b):AdP b x y:=⟨h.1,h.2.1,fun k hk=>by
 obtain⟨p,q,s⟩:=h.2.2 k hk
 exact⟨p.up hab,q.up hab,s⟩⟩
theorem Pm {w:Aq} {now:List Ai}:∀ (k i:Nat),Fa w now k i=[]↔∀ j,i≤j→j<i+k→¬ (now.getD j LW).used>w.hours
 | 0,i=>⟨fun _ j h1 h2=>by omega,fun _=>rfl⟩
 | k+1,i=>by
  unfold Fa
  rw [List.append_eq_nil_iff,Pm k (i+1)]
  by_cases h:(now.getD i LW).used>w.hours
  · rw [Zak h]
    constructor
    · rintro⟨h1,_⟩; cases h1
    · intro hh; exact absurd h (hh i (by omega) (by omega))
  · rw [Zah h]
    constructor
    · rintro⟨_,h2⟩ j h3 h4
      by_cases hj:j=i
      · subst hj; exact h
      · exact h2 j (by omega) (by omega)
    · intro hh
      exact⟨rfl,fun j h3 h4=>hh j (by omega) (by omega)⟩
theorem AaD {α:Type} (l:List α) (k:Nat) (z:α):l.getD k z∈l∨l.getD k z=z:=by
 by_cases h:k<l.length
 · left
   rw [ZaJ,Zao h]
   exact Za9 h
 · right
   rw [ZaJ,Za0 (by omega)]; rfl
theorem It {w:Aq} {r:List Int}:FC w r=[]↔(D3 w r 7 0 ([],Bq w)).1=[]∧∀ j,j<w.drivers.length→¬ ((D3 w r 7 0 ([],Bq w)).2.getD j LW).used>w.hours:=by
 unfold FC
 rw [List.append_eq_nil_iff,Pm]
 constructor
 · rintro⟨a,b⟩; exact⟨a,fun j hj=>b j (by omega) (by omega)⟩
 · rintro⟨a,b⟩; exact⟨a,fun j _ hj=>b j (by omega)⟩
theorem Iu {w:Aq} {r:List Int}:Gg w r=true↔D1 w=0∧K9 w r∧FC w r=[]:=by
 unfold Gg
 rw [Zax,Zax,Uz,decide_eq_true_eq,decide_eq_true_eq]
theorem AaE {w:Aq} {r:List Int} (h:K9 w r) (i:Nat) : -1≤r.getD i (-1)∧(r.getD i (-1)<(w.drivers.length:Int)∨r.getD i (-1)=-1):=by
 rcases AaD r i (-1) with hm | hm
 · have:=h.2 _ hm; omega
 · omega
theorem RM (w:Aq) (r:List Int) (day:Int) (d:AH):∀ (l:List AH)(i:Nat)(st:List Ak×List Ai),Fz w r day i st (l++[d])=EZ w r day (Fz w r day i st l) (i+l.length) d
 | [],i,st=>by simp [Fz]
 | x::l,i,st=>by
  simp only [ZaP,Fz]
  rw [RM w r day d l (i+1)]
  rw [show i+1+l.length=i+(x::l).length by simp; omega]
theorem SY {w:Aq} {r:List Int} {day:Int} {st:List Ak×List Ai} {i:Nat} {d:AH} (h:r.getD i (-1)=-1):EZ w r day st i d=st:=by
 unfold EZ
 rw [h]
 cases decide (d.day=day) <;> rfl
theorem RN {w w':Aq} (h1:w'.rest=w.rest) (h2:w'.run=w.run) {k i:Int} (h3:A4 w'.drivers k=A4 w.drivers k) (d:AH) (s:Ai):LX w' k i d s=LX w k i d s:=by
 have hr:∀ j,Jc w' k d s j=Jc w k d s j:=fun j=>by
  match j with
  | 0=>show(match A4 w'.drivers k with | some v=>_ | none=>true)=(match A4 w.drivers k with | some v=>_ | none=>true); rw [h3]
  | 1=>rfl
  | 2=>rfl
  | 3=>show(bif !decide (s.day=d.day) then decide (_≥w'.rest) else true)=(bif !decide (s.day=d.day) then decide (_≥w.rest) else true); rw [h1]
  | j+4=>show(bif !decide (s.day=d.day) then decide (_≤w'.run) else true)=(bif !decide (s.day=d.day) then decide (_≤w.run) else true); rw [h2]
 unfold LX Ri
 simp only [hr]
theorem WE {w w':Aq} (h1:w'.rest=w.rest) (h2:w'.run=w.run) (h3:w'.drivers=w.drivers) {r r':List Int} {i:Nat} (hr:r'.getD i (-1)=r.getD i (-1)) (day:Int) (st:List Ak×List Ai) (d:AH):EZ w' r' day st i d=EZ w r day st i d:=by
 unfold EZ
 rw [hr,RN h1 h2 (by rw [h3])]
theorem RO {w w':Aq} (h1:w'.rest=w.rest) (h2:w'.run=w.run) (h3:w'.drivers=w.drivers) {r r':List Int} (hr:∀ i,r'.getD i (-1)=r.getD i (-1)) (day:Int):∀ (l:List AH)(i:Nat)(st:List Ak×List Ai),Fz w' r' day i st l=Fz w r day i st l
 | [],_,_=>rfl
 | d::l,i,st=>by
  simp only [Fz]
  rw [WE h1 h2 h3 (hr i),RO h1 h2 h3 hr day l]
theorem RP (r:List Int) (i:Nat):(r++[-1]).getD i (-1)=r.getD i (-1):=by
 simp only [ZaJ]
 by_cases h:i<r.length
 · rw [Zau h]
 · rw [ZaO (by omega),Za0 (by omega:r.length≤i)]
   cases h2:i-r.length with
   | zero=>rfl
   | succ m=>rfl
theorem Pn {w:Aq} (d:AH) {r:List Int} (hl:r.length=w.duties.length):∀ (k day:Nat)(st:List Ak×List Ai),D3 (GC w d) (r++[-1]) k day st=D3 w r k day st
 | 0,_,_=>rfl
 | k+1,day,st=>by
  simp only [D3]
  have:Fz (GC w d) (r++[-1]) (day:Int) 0 st (GC w d).duties=Fz w r (day:Int) 0 st w.duties:=by
   show Fz (GC w d) (r++[-1]) (day:Int) 0 st (w.duties++[d])=_
   rw [RM,SY (by rw [RP,ZaJ,Za0 (by omega)]; rfl)]
   exact RO (w:=w) (w':=GC w d) rfl rfl rfl (RP r) _ _ _ _
  rw [this,Pn d hl k]
theorem WF {w:Aq} {d:AH} {r:List Int} (h:Gg w r=true) (hw:D1 (GC w d)=0):Gg (GC w d) (r++[-1])=true:=by
 obtain⟨h1,h2,h3⟩:=Iu.1 h
 refine Iu.2 ⟨hw,⟨by simp [GC,h2.1],fun x hx=>?_⟩,?_⟩
 · rcases Zap.1 hx with hx | hx
   · exact h2.2 x hx
   · rw [Za7.1 hx]; exact⟨by omega,by omega⟩
 · obtain⟨b1,b2⟩:=It.1 h3
   have e:=Pn d h2.1 7 0 ([],Bq w)
   refine It.2 ?_
   show(D3 (GC w d) (r++[-1]) 7 0 ([],Bq w)).1=[]∧_
   rw [show Bq (GC w d)=Bq w from rfl,e]
   exact⟨b1,b2⟩
def Po (n:Nat) (a b:List Ai):Prop:=a.length=6∧b.length=6∧(∀ k:Nat,k<n→a.getD k LW=b.getD k LW)∧(a.getD n LW).used=0
theorem YX {w w':Aq} (h1:w'.rest=w.rest) (h2:w'.run=w.run) {x:AA} (h3:w'.drivers=w.drivers++[x]) {r:List Int} (hr:∀ i:Nat,-1≤r.getD i (-1)∧r.getD i (-1)<(w.drivers.length:Int)) (day:Int) {st st':List Ak×List Ai} (hs:Po w.drivers.length st'.2 st.2) (he:st'.1=st.1) (i:Nat) (d:AH):(EZ w' r day st' i d).1=(EZ w r day st i d).1∧Po w.drivers.length (EZ w' r day st' i d).2 (EZ w r day st i d).2:=by
 unfold EZ
 cases decide (d.day=day) with
 | false=>exact⟨he,hs⟩
 | true =>
  obtain⟨b0,b1⟩:=hr i
  by_cases hn:r.getD i (-1)=-1
  · rw [Zak hn]; exact⟨he,hs⟩
  · rw [Zah hn]
    simp only [Zac,Zad]
    obtain⟨k,hk⟩:∃ k:Nat,r.getD i (-1)=k:=⟨(r.getD i (-1)).toNat,by omega⟩
    rw [hk]
    rw [hk] at b1
    rw [show((k:Int)).toNat=k from rfl]
    have hkn:k<w.drivers.length:=by omega
    obtain⟨l1,l2,hall,hu⟩:=hs
    have hi:A4 w'.drivers (k:Int)=A4 w.drivers (k:Int):=by
     show w'.drivers[k]? = w.drivers[k]?
     rw [h3,Zau hkn]
    rw [hall k hkn,RN h1 h2 hi,he]
    refine⟨rfl,by simp [l1],by simp [l2],fun j hj=>?_,?_⟩
    · rw [Pk,Pk]
      by_cases hjk:k=j
      · by_cases hk6:k<6
        · rw [if_pos ⟨hjk,by omega⟩,if_pos ⟨hjk,by omega⟩]
        · rw [if_neg fun h=>hk6 (by omega),if_neg fun h=>hk6 (by omega)]
          exact hall j hj
      · rw [if_neg fun h=>hjk h.1,if_neg fun h=>hjk h.1]
        exact hall j hj
    · rw [Pk,if_neg fun h=>by omega]
      exact hu
theorem U8 {w w':Aq} (h1:w'.rest=w.rest) (h2:w'.run=w.run) {x:AA} (h3:w'.drivers=w.drivers++[x]) {r:List Int} (hr:∀ i:Nat,-1≤r.getD i (-1)∧r.getD i (-1)<(w.drivers.length:Int)) (day:Int):∀ (l:List AH)(i:Nat)(st st':List Ak×List Ai),Po w.drivers.length st'.2 st.2→st'.1=st.1→(Fz w' r day i st' l).1=(Fz w r day i st l).1∧Po w.drivers.length (Fz w' r day i st' l).2 (Fz w r day i st l).2
 | [],i,st,st',hs,he=>⟨he,hs⟩
 | d::l,i,st,st',hs,he=>by
  obtain⟨a,b⟩:=YX h1 h2 h3 hr day hs he i d
  exact U8 h1 h2 h3 hr day l (i+1) _ _ b a
theorem RQ {w:Aq} {k0 off:Int} {r:List Int} (hr:∀ i:Nat,-1≤r.getD i (-1)∧r.getD i (-1)<(w.drivers.length:Int)):∀ (k day:Nat)(st st':List Ak×List Ai),Po w.drivers.length st'.2 st.2→st'.1=st.1→(D3 (FT w k0 off) r k day st').1=(D3 w r k day st).1∧Po w.drivers.length (D3 (FT w k0 off) r k day st').2 (D3 w r k day st).2
 | 0,_,_,_,hs,he=>⟨he,hs⟩
 | k+1,day,st,st',hs,he=>by
  simp only [D3]
  obtain⟨a,b⟩:=U8 (w:=w) (w':=FT w k0 off) rfl rfl rfl hr (day:Int) w.duties 0 st st' hs he
  exact RQ hr k (day+1) _ _ b a
theorem WG {w:Aq} {k0 off:Int} (h:w.drivers.length<6):Po w.drivers.length (Bq (FT w k0 off)) (Bq w):=by
 refine⟨Jr (by simp [FT]; omega),Jr (by omega),fun k hk=>?_,?_⟩
 · unfold Bq FT
   simp only [ZaJ]
   rw [Zau (by simp; omega),Zau (by simp; omega),List.map_append,Zau (by simp; omega)]
 · unfold Bq FT
   simp only [ZaJ]
   rw [Zau (by simp),List.map_append,ZaO (by simp)]
   simp
theorem SZ {w:Aq} {k0 off:Int} {r:List Int} (h:Gg w r=true) (hw:D1 (FT w k0 off)=0) (hh:w.hours=3000):Gg (FT w k0 off) r=true:=by
 obtain⟨h1,h2,h3⟩:=Iu.1 h
 have hl:w.drivers.length<6:=by
  have:=(KW hw).2
  simp [FT] at this
  omega
 by_cases hr:∀ i:Nat,-1≤r.getD i (-1)∧r.getD i (-1)<(w.drivers.length:Int)
 · refine Iu.2 ⟨hw,⟨h2.1,fun x hx=>by have:=h2.2 x hx; refine⟨this.1,?_⟩; simp [FT]; omega⟩,?_⟩
   obtain⟨b1,b2⟩:=It.1 h3
   obtain⟨e1,e2⟩:=RQ (k0:=k0) (off:=off) hr 7 0 ([],Bq w) ([],Bq (FT w k0 off)) (WG hl) rfl
   refine It.2 ⟨by rw [e1]; exact b1,fun j hj=>?_⟩
   have hj':j<w.drivers.length+1:=by simpa [FT] using hj
   by_cases hjn:j<w.drivers.length
   · rw [e2.2.2.1 j hjn]; exact b2 j hjn
   · have:j=w.drivers.length:=by omega
     rw [this,e2.2.2.2,show(FT w k0 off).hours=3000 from hh]; omega
 · exact absurd (fun i=>by have:=AaE h2 i; exact⟨this.1,by omega⟩) hr
def Pp (s:Ah):Prop:=Gg s.week s.roster=true
theorem U9 {s:Ah} (hg:CP s) (h:Pp s) {f:Int} {l:List Int} (h0:(B8 s f l).2=0):Pp (B8 s f l).1:=by
 unfold B8 at h0 ⊢
 split at h0
 · by_cases q0:f=189
   · rw [if_pos q0] at h0 ⊢; rw [Hn h0]; exact h
   rw [if_neg q0] at h0 ⊢
   by_cases q0:f=190
   · rw [if_pos q0] at h0 ⊢; rw [Hn h0]; exact h
   rw [if_neg q0] at h0 ⊢
   by_cases q0:f=191
   · rw [if_pos q0] at h0 ⊢; rw [Hn h0]; exact h
   rw [if_neg q0] at h0 ⊢
   by_cases q0:f=192
   · rw [if_pos q0] at h0 ⊢; rw [Hn h0]; exact h
   rw [if_neg q0] at h0 ⊢
   by_cases q0:f=193
   · rw [if_pos q0] at h0 ⊢; rw [(SW h0).2.2.2.2]; exact h
   rw [if_neg q0] at h0 ⊢
   by_cases q0:f=194
   · rw [if_pos q0] at h0 ⊢; obtain⟨_,_,_,e,_⟩:=XO h0; rw [e]; exact h
   rw [if_neg q0] at h0 ⊢
   by_cases q0:f=195
   · rw [if_pos q0] at h0 ⊢; rw [(Jt h0).1]; exact h
   rw [if_neg q0] at h0 ⊢
   by_cases q0:f=196
   · rw [if_pos q0] at h0 ⊢; rw [(Jt h0).1]; exact h
   rw [if_neg q0] at h0 ⊢
   by_cases q0:f=197
   · rw [if_pos q0] at h0 ⊢; rw [(Jt h0).1]; exact h
   rw [if_neg q0] at h0 ⊢
   by_cases q0:f=198
   · rw [if_pos q0] at h0 ⊢
     unfold SS at h0 ⊢
     split at h0
     · rename_i c
       rw [if_pos c]
       exact SZ h c hg.hours
     · rename_i c; exact absurd h0 c
   rw [if_neg q0] at h0 ⊢
   by_cases q0:f=199
   · rw [if_pos q0] at h0 ⊢
     unfold ST at h0 ⊢
     split at h0
     · rename_i c
       rw [if_pos c]
       exact WF h c
     · rename_i c; exact absurd h0 c
   rw [if_neg q0] at h0 ⊢
   unfold SU at h0 ⊢
   split at h0
   · rename_i c1
     rw [if_pos c1]
     split at h0
     · rename_i c2
       rw [if_pos c2]
       exact c2
     · cases h0
   · cases h0
 · cases h0
theorem UA {s:Ah} (hg:CP s) (h:Pp s) (t:ByteArray):Pp (B9 s t).1:=by
 by_cases h0:(B9 s t).2=0
 · obtain⟨y,_,hw,e⟩:=Kf h0
   rw [e]; exact U9 hg h hw
 · rw [Ju h0]; exact h
def YY (a b:Ab):Prop:=BE a≠BE b∧(a.machine=b.machine→(a.seq<b.seq→a.minute≤b.minute)∧(b.seq<a.seq→b.minute≤a.minute))
theorem YY.symm {a b:Ab} (h:YY a b):YY b a:=⟨fun e=>h.1 e.symm,fun e=>⟨(h.2 e.symm).2,(h.2 e.symm).1⟩⟩
theorem AaF {a b:Ab}:BE a≠BE b↔¬ (a.machine=b.machine∧a.seq=b.seq):=by simp [BE]
abbrev WH (l:List Ab):Prop:=l.Pairwise fun a b=>BE a≠BE b
theorem YZ {m:List (FX×Ab)} {k:FX}:Dm Ax m k=false↔GL Ax m k=none:=by
 unfold Dm
 cases GL Ax m k <;> simp
theorem WI:∀ (l:List Ab)(m:List (FX×Ab))(o:List Ab),WH l→(∀ a∈l,Dm Ax m (BE a)=false)→Rh m o l=some (o++l)
 | [],m,o,_,_=>by simp [Rh]
 | r::l,m,o,hd,hm=>by
  obtain⟨h1,h2⟩:=ZaK.1 hd
  unfold Rh
  rw [hm r (by simp),Zad,WI l _ _ h2 fun a ha=>?_]
  · simp
  · cases hb:Dm Ax (Fe Ax m (BE r) r) (BE a) with
    | false=>rfl
    | true =>
     rcases(MY GB _ _ _ _).1 hb with h | h
     · exact absurd h (h1 a ha)
     · rw [hm a (by simp [ha])] at h; cases h
theorem XR:∀ (l:List Ab)(m:List (FX×Ab))(o:List Ab)(r:Ab),WH l→(∀ a∈l,Dm Ax m (BE a)=false)→((∃ d,GL Ax m (BE r)=some d∧d≠r)∨∃ a∈l,BE a=BE r∧a≠r)→Rh m o (l++[r])=none
 | [],m,o,r,_,_,h=>by
  rcases h with⟨d,h1,h2⟩ | ⟨a,h,_⟩
  · have hh:Dm Ax m (BE r)=true:=by unfold Dm; rw [h1]; rfl
    have hs:Cw (AN Ax m (BE r) zR) r=false:=by
     have e:AN Ax m (BE r) zR=d:=by unfold AN; rw [h1]; rfl
     rw [e]
     cases hb:Cw d r with
     | false=>rfl
     | true=>exact absurd (MZ.1 hb) h2
    show Rh m o [r]=none
    unfold Rh
    rw [hh,Zac,hs]; rfl
  · simp at h
 | x::l,m,o,r,hd,hm,h=>by
  obtain⟨h1,h2⟩:=ZaK.1 hd
  show Rh m o (x::(l++[r]))=none
  unfold Rh
  rw [hm x (by simp),Zad]
  refine XR l _ _ r h2 (fun a ha=>?_) ?_
  · cases hb:Dm Ax (Fe Ax m (BE x) x) (BE a) with
    | false=>rfl
    | true =>
     rcases(MY GB _ _ _ _).1 hb with h | h
     · exact absurd h (h1 a ha)
     · rw [hm a (by simp [ha])] at h; cases h
  · rcases h with⟨d,e1,e2⟩ | ⟨a,ha,e1,e2⟩
    · left
      refine⟨d,?_,e2⟩
      rw [Kd GB,if_neg ?_]
      · exact e1
      · intro hx
        have:=hm x (by simp)
        rw [hx] at this
        rw [YZ.1 this] at e1; cases e1
    · rcases Zam.1 ha with rfl | ha
      · left
        exact⟨a,by rw [Kd GB,if_pos e1],e2⟩
      · exact .inr ⟨a,ha,e1,e2⟩
theorem UB {a b:Ab}:Jl a b=true↔a.machine<b.machine∨(a.machine=b.machine∧a.seq≤b.seq):=by simp [Jl]
theorem Za (a b c:Ab) (h1:Jl a b=true) (h2:Jl b c=true):Jl a c=true:=by
 rw [UB] at *; omega
theorem Zb (a b:Ab) (h:Jl a b=false):Jl b a=true:=by
 have : ¬ Jl a b=true:=by rw [h]; simp
 rw [UB] at *; omega
theorem Ta (l:List Ab):(Ev Jl l).Pairwise fun a b=>Jl a b=true:=Hx Za Zb l
theorem UC:∀ {l:List Ab},l.Pairwise (fun a b=>Jl a b=true)→(KV l=true↔l.Pairwise fun a b=>a.machine=b.machine→a.minute≤b.minute)
 | [],_=>by simp [KV]
 | [a],_=>by simp [KV]
 | a::b::r,hs=>by
  obtain⟨h1,h2⟩:=ZaK.1 hs
  have ih:=UC h2
  have hb:(!Aam a b)=true↔(a.machine=b.machine→a.minute≤b.minute):=by
   unfold Aam
   simp only [Bool.not_eq_true',Bool.and_eq_false_iff,decide_eq_false_iff_not]
   constructor
   · rintro(h | h) e
     · exact absurd e h
     · omega
   · intro h
     by_cases e:a.machine=b.machine
     · right; have:=h e; omega
     · exact .inl e
  show(!Aam a b && KV (b::r))=true↔_
  rw [Zax,hb,ih]
  constructor
  · rintro⟨p,q⟩
    refine ZaK.2 ⟨fun c hc=>?_,q⟩
    rcases Zam.1 hc with rfl | hc
    · exact p
    · intro e
      have hab:=UB.1 (h1 b (by simp))
      have hbc:=UB.1 ((ZaK.1 h2).1 c hc)
      have e2:a.machine=b.machine:=by omega
      have:=p e2
      have:=(ZaK.1 q).1 c hc (by omega)
      omega
  · intro h
    obtain⟨p,q⟩:=ZaK.1 h
    exact⟨p b (by simp),q⟩
theorem XS {l:List Ab} (hd:WH l):KV (Ev Jl l)=true↔l.Pairwise YY:=by
 have hp:=Ee (le:=Jl) l
 have hs:=Ta l
 have hd':WH (Ev Jl l):=(List.Perm.pairwise_iff (fun {a b} (h:BE a≠BE b)=>h.symm) hp).2 hd
 rw [UC hs,← List.Perm.pairwise_iff (fun {a b} (h:YY a b)=>h.symm) hp]
 constructor
 · intro h
   refine(hs.and (hd'.and h)).imp ?_
   rintro a b ⟨p,q,s⟩
   refine⟨q,fun e=>⟨fun _=>s e,fun hlt=>?_⟩⟩
   rw [UB] at p
   omega
 · intro h
   refine(hs.and (hd'.and h)).imp ?_
   rintro a b ⟨p,q,s⟩ e
   rw [UB] at p
   rw [AaF] at q
   exact(s.2 e).1 (by omega)
structure FU (l:List Ab):Prop where
 cmp:l.Pairwise YY
 right:∀ r∈l,Bo r=true
 len:l.length≤60
theorem FU.dist {l:List Ab} (h:FU l):WH l:=h.cmp.imp fun h=>h.1
theorem OI {α:Type} {R:α→α→Prop} {l:List α} {x:α}:(l++[x]).Pairwise R↔l.Pairwise R∧∀ a∈l,R a x:=by
 rw [List.pairwise_append]
 simp
open Classical in
theorem Zc {l:List Ab} (h:FU l) {r:Ab} (hn:l.any (Cw r)=false):Gf [l,[r]]=if Bo r=false then 1 else if ¬ ∀ a∈l,YY a r then 6 else if 60≤l.length then 3 else 0:=by
 have hl:=h.len
 have hne:∀ a∈l,a≠r:=fun a ha e=>by
  have:l.any (Cw r)=true:=Zbp.2 ⟨a,ha,MZ.2 e.symm⟩
  rw [this] at hn; cases hn
 have hc:Ky [l,[r]]=if Bo r=false then 1 else 0:=by
  unfold Ky
  have e1:l.all Bo=true:=ZaE.2 h.right
  rw [if_neg (by simp)]
  simp only [ZaT,List.all_nil,Bool.and_true,Zas,Zbh,e1,ZaS]
  rw [Zak hl]
  cases Bo r <;> rfl
 unfold Gf Gr
 rw [hc]
 cases hr:Bo r with
 | false=>simp
 | true =>
  simp only [Bool.true_eq_false,if_false,ne_eq,not_true_eq_false]
  have hf:([l,[r]]:List (List Ab)).flatten=l++[r]:=by simp
  rw [hf]
  by_cases hw:∀ a∈l,BE a≠BE r
  · have hd:WH (l++[r]):=OI.2 ⟨h.dist,hw⟩
    rw [WI _ _ _ hd (fun a _=>rfl)]
    simp only [Za6]
    have hoc:=XS hd
    by_cases hcm:∀ a∈l,YY a r
    · rw [hoc.2 (OI.2 ⟨h.cmp,hcm⟩),Zac]
      have e6:(if ¬ ∀ a∈l,YY a r then(6:Int) else if 60≤l.length then 3 else 0)=if 60≤l.length then 3 else 0:=if_neg fun h=>h hcm
      rw [e6]
      simp only [HI,Zan,Zas,Zbh]
      by_cases h60:60≤l.length
      · rw [if_pos h60,if_pos (by omega)]
      · rw [if_neg h60,if_neg (by omega)]
    · have:KV (Ev Jl (l++[r]))=false:=by
       cases ho:KV (Ev Jl (l++[r])) with
       | false=>rfl
       | true=>exact absurd (OI.1 (hoc.1 ho)).2 hcm
      rw [this,Zad,if_pos hcm]
  · have hcm : ¬ ∀ a∈l,YY a r:=fun hh=>hw fun a ha=>(hh a ha).1
    rw [if_pos hcm]
    have:∃ a∈l,BE a=BE r:=by
     refine Classical.byContradiction fun hh=>hw fun a ha e=>hh ⟨a,ha,e⟩
    obtain⟨a,ha,e⟩:=this
    rw [XR l [] [] r h.dist (fun a _=>rfl) (.inr ⟨a,ha,e,hne a ha⟩)]
theorem Ac7 {s:Ah} (h:FU s.records) {r:Ab}:(Ir s r).2=0↔Bo r=true∧(∀ a∈s.records,YY a r)∧s.records.length<60:=by
 unfold Ir
 cases hs:s.records.any (Cw r) with
 | true =>
  simp only [if_true]
  constructor
  · intro h; cases h
  · rintro⟨_,h2,_⟩
    obtain⟨a,ha,e⟩:=Zbp.1 hs
    exact absurd rfl ((MZ.1 e▸h2 a ha).1)
 | false =>
  have hm:=Zc h hs
  simp only [Zaz,if_false]
  constructor
  · intro h0
    have hz:Gf [s.records,[r]]=0:=by
     by_cases c:Gf [s.records,[r]]=0
     · exact c
     · rw [if_neg c] at h0; exact absurd h0 c
    rw [hm] at hz
    by_cases c1:Bo r=false
    · rw [if_pos c1] at hz; cases hz
    · rw [if_neg c1] at hz
      by_cases c2:∀ a∈s.records,YY a r
      · rw [if_neg (fun h=>h c2)] at hz
        by_cases c3:60≤s.records.length
        · rw [if_pos c3] at hz; cases hz
        · exact⟨by simpa using c1,c2,by omega⟩
      · rw [if_pos c2] at hz; cases hz
  · rintro⟨p,q,t⟩
    have hz:Gf [s.records,[r]]=0:=by
     rw [hm,if_neg (by simp [p]),if_neg (fun h=>h q),if_neg (by omega)]
    rw [if_pos hz]
theorem AdQ {s:Ah} (h:FU s.records) {r:Ab} (h0:(Ir s r).2=0):FU (s.records++[r]):=by
 obtain⟨p,q,t⟩:=(Ac7 h).1 h0
 refine⟨OI.2 ⟨h.cmp,q⟩,fun a ha=>?_,by simp; omega⟩
 rcases Zap.1 ha with ha | ha
 · exact h.right a ha
 · rw [Za7.1 ha]; exact p
def Ac8 (f:Int):List Int→Ab
 | [a,b,c,d,e]=>if f=195 then Ab.mk a b c (IK.mk 0) d e else if f=196 then Ab.mk a b c (IK.mk 1) d 0 else Ab.mk a b c (IK.mk 2) d e
 | _=>zR
def UD (t:ByteArray):Bool:=match Er t with
 | some (f,_)=>decide (195≤f) && decide (f≤197)
 | none=>false
def AdR (t:ByteArray):Ab:=match Er t with
 | some (f,l)=>if 195≤f∧f≤197 then Ac8 f l else zR
 | none=>zR
theorem AaG {s:Ah} {t:ByteArray} (hc:UD t=true):((B9 s t).2=(Ir s (AdR t)).2)∧((B9 s t).2=0→(B9 s t).1={ s with records:=s.records++[AdR t] }):=by
 unfold UD at hc
 unfold B9 AdR
 cases hp:Er t with
 | none=>rw [hp] at hc; cases hc
 | some y =>
  obtain⟨f,l⟩:=y
  rw [hp] at hc
  simp only at hc ⊢
  have hf:195≤f∧f≤197:=by simpa using hc
  obtain⟨_,_,h5⟩:=AaB hp
  rw [if_pos hf]
  have hw:B8 s f l=Ir s (Ac8 f l):=by
   match l,h5 with
   | [a,b,c,d,e],_ =>
    unfold B8 Ac8
    simp only
    rw [if_neg (by omega),if_neg (by omega),if_neg (by omega),if_neg (by omega),if_neg (by omega),if_neg (by omega)]
    by_cases q:f=195
    · rw [if_pos q,if_pos q]
    rw [if_neg q,if_neg q]
    by_cases q:f=196
    · rw [if_pos q,if_pos q]
    rw [if_neg q,if_neg q,if_pos (show f=197 by omega)]
  rw [hw]
  by_cases h0:(Ir s (Ac8 f l)).2=0
  · rw [if_pos h0]
    exact⟨rfl,fun _=>(Jt h0).1⟩
  · rw [if_neg h0]
    exact⟨rfl,fun h=>absurd h h0⟩
theorem Zd {s:Ah} {f:Int} {l:List Int} (hf : ¬ (195≤f∧f≤197)) (h0:(B8 s f l).2=0):(B8 s f l).1.records=s.records:=by
 unfold B8 at h0 ⊢
 split at h0
 · by_cases q0:f=189
   · rw [if_pos q0] at h0 ⊢; rw [Hn h0]
   rw [if_neg q0] at h0 ⊢
   by_cases q0:f=190
   · rw [if_pos q0] at h0 ⊢; rw [Hn h0]
   rw [if_neg q0] at h0 ⊢
   by_cases q0:f=191
   · rw [if_pos q0] at h0 ⊢; rw [Hn h0]
   rw [if_neg q0] at h0 ⊢
   by_cases q0:f=192
   · rw [if_pos q0] at h0 ⊢; rw [Hn h0]
   rw [if_neg q0] at h0 ⊢
   by_cases q0:f=193
   · rw [if_pos q0] at h0 ⊢; rw [(SW h0).2.2.2.2]
   rw [if_neg q0] at h0 ⊢
   by_cases q0:f=194
   · rw [if_pos q0] at h0 ⊢; obtain⟨_,_,_,e,_⟩:=XO h0; rw [e]
   rw [if_neg q0,if_neg (by omega),if_neg (by omega),if_neg (by omega)]
   rw [if_neg q0,if_neg (by omega),if_neg (by omega),if_neg (by omega)] at h0
   by_cases q0:f=198
   · rw [if_pos q0]; unfold SS; split <;> rfl
   rw [if_neg q0]
   by_cases q0:f=199
   · rw [if_pos q0]; unfold ST; split <;> rfl
   rw [if_neg q0]
   unfold SU
   split
   · split <;> rfl
   · rfl
 · cases h0
theorem WJ {s:Ah} {t:ByteArray} (h:UD t=false):(B9 s t).1.records=s.records:=by
 by_cases h0:(B9 s t).2=0
 · obtain⟨y,hy,hw,e⟩:=Kf h0
   unfold UD at h
   rw [hy] at h
   rw [e]
   exact Zd (fun hc=>by simp [hc.1,hc.2] at h) hw
 · rw [Ju h0]
theorem Pq {s:Ah} (h:FU s.records) (t:ByteArray):FU (B9 s t).1.records:=by
 cases hb:UD t with
 | false=>rw [WJ hb]; exact h
 | true =>
  obtain⟨e1,e2⟩:=AaG (s:=s) hb
  by_cases h0:(B9 s t).2=0
  · rw [e2 h0]
    exact AdQ h (by rw [← e1]; exact h0)
  · rw [Ju h0]; exact h
theorem KX:∀ (l:List ByteArray)(s:Ah),FU s.records→FU (A2 s l).1.records
 | [],_,h=>h
 | t::l,s,h=>by simp only [A2]; exact KX l _ (Pq h t)
theorem NL:FU Al.records:=⟨List.Pairwise.nil,by simp [Al],by simp [Al]⟩
theorem FU.perm {a b:List Ab} (h:FU a) (hp:b.Perm a):FU b:=⟨(List.Perm.pairwise_iff (fun {a b} (h:YY a b)=>h.symm) hp).2 h.cmp,fun r hr=>h.right r (hp.mem_iff.1 hr),by rw [hp.length_eq]; exact h.len⟩
theorem Pr:∀ {a b:List Ab},a.Perm b→WH a→a.Pairwise (fun x y=>Jl x y=true)→b.Pairwise (fun x y=>Jl x y=true)→a=b
 | [],b,hp,_,_,_=>(List.Perm.nil_eq hp)
 | x::a,[],hp,_,_,_=>by simpa using hp.length_eq
 | x::a,y::b,hp,hd,ha,hb=>by
  obtain⟨a1,a2⟩:=ZaK.1 ha
  obtain⟨b1,b2⟩:=ZaK.1 hb
  obtain⟨d1,d2⟩:=ZaK.1 hd
  have hxy:x=y:=by
   have hy:y∈x::a:=hp.mem_iff.2 (by simp)
   have hx:x∈y::b:=hp.mem_iff.1 (by simp)
   rcases Zam.1 hy with e | hy
   · exact e.symm
   · rcases Zam.1 hx with e | hx
     · exact e
     · have p:=UB.1 (a1 y hy)
       have q:=UB.1 (b1 x hx)
       exact absurd (by omega) (AaF.1 (d1 y hy))
  subst hxy
  rw [Pr (List.Perm.cons_inv hp) d2 a2 b2]
theorem Ps (s:Du) (x2:CS) (full:List Ab) (hl:full.length≤1000000):∀ (n i:Nat)(out:CS),full.length-i<n→i≤full.length→∃ o,Bc n s x2 out full (full.length:Int) (i:Int)=some (s,(x2,(o,((),((),((),()))))))
 | 0,_,_,h,_=>absurd h (Zav _)
 | n+1,i,out,h,hi=>by
  rw [Bc]
  by_cases hx:i<full.length
  · rw [show decide ((i:Int)<(full.length:Int))=true by simp; omega,Zac,Cb hx,Zaa,wN i (by omega)]
    cases decide (full[i].kind.n=0)
    · exact Ps s x2 full hl n (i+1) _ (by omega) (by omega)
    · exact Ps s x2 full hl n (i+1) _ (by omega) (by omega)
  · rw [show decide ((i:Int)<(full.length:Int))=false by simp; omega]
    exact⟨out,rfl⟩
theorem Pt {n:Nat} (s:Du) (hl:s.between.length≤1000000) (hn:s.between.length<n):∃ x b,Bz n s=some (x,(b,())):=by
 unfold Bz
 obtain⟨o,ho⟩:=Ps s (CS.mk 0 0 0 0 0) s.between hl n 0 (CS.mk s.to_.machine s.fr.seq s.to_.seq (IntKind.i64.wrap (s.to_.a-s.fr.a)) (IntKind.i64.wrap (s.to_.b-s.fr.b))) (by omega) (by omega)
 rw [show((0:Nat):Int)=0 from rfl] at ho
 rw [ho,Zaa]
 simp only
 cases decide (0≤o.sales)
 · exact⟨_,_,rfl⟩
 simp only [Zac]
 generalize decide (o.sales≤IntKind.i64.wrap (IntKind.i64.wrap (IntKind.i64.wrap (s.to_.seq-s.fr.seq)-1)-(s.between.length:Int)))=b1
 cases b1
 · exact⟨_,_,rfl⟩
 cases decide (0≤o.coins)
 · exact⟨_,_,rfl⟩
 · exact⟨_,_,rfl⟩
def AaH (m:Nat) (x:(((List CS×Unit)×(Int×Unit)×(List CS×Unit)×Unit)×Unit×Unit×Unit×(List Ab×Unit)×(Int×Int×Int×IK .u8×Int×Int×Int×Int×Int×IK .u8×Int×Int×List Ab×Unit)×Unit) ⊕ (((List CS×Unit)×(Int×Unit)×(List CS×Unit)×Unit)×Unit×Unit×Unit×(List Ab×Unit)×(Int×Int×Int×IK .u8×Int×Int×Int×Int×Int×IK .u8×Int×Int×List Ab×Unit)×Unit)):Prop:=match x with
 | .inl v=>v.fst.snd.snd.fst.fst.length≤m
 | .inr v=>v.fst.fst.fst.length≤m
theorem UE (full:List Ab) (hl:full.length≤1000):∀ (n i:Nat)(y1:List CS)(y2:Int)(y3:List CS)(s1 s2 s3:Int)(s4:IK .u8)(s5 s6 s7 s8 s9:Int)(s10:IK .u8)(s11 s12:Int)(s13:List Ab),1100+(full.length-i)<n→i≤full.length→y3.length≤i→s13.length≤i→∃ x,Aw n y1 y2 y3 full s1 s2 s3 s4 s5 s6 s7 s8 s9 s10 s11 s12 s13 full (full.length:Int) (i:Int)=some x∧AaH full.length x
 | 0,_,_,_,_,_,_,_,_,_,_,_,_,_,_,_,_,_,h,_,_,_=>absurd h (Zav _)
 | n+1,i,y1,y2,y3,s1,s2,s3,s4,s5,s6,s7,s8,s9,s10,s11,s12,s13,h,hi,hy,hs=>by
  rw [Aw]
  by_cases hx:i<full.length
  · have ih:=fun y1 y2 y3 s1 s2 s3 s4 s5 s6 s7 s8 s9 s10 s11 s12 s13 hy hs=>UE full hl n (i+1) y1 y2 y3 s1 s2 s3 s4 s5 s6 s7 s8 s9 s10 s11 s12 s13 (by omega) (by omega) hy hs
    have happ:∀ x,app y3 [x]=some (y3++[x]):=fun x=>B6 (by simp; omega)
    have happ2:∀ x,app s13 [x]=some (s13++[x]):=fun x=>B6 (by simp; omega)
    have hap:∀ x:CS,(y3++[x]).length≤i+1:=fun x=>by simp; omega
    have hap2:∀ x:Ab,(s13++[x]).length≤i+1:=fun x=>by simp; omega
    have one:∀ x:Ab,(([]:List Ab).append [x]).length≤i+1:=fun x=>by simp
    have nil:([]:List Ab).length≤i+1:=by simp
    rw [show decide ((i:Int)<(full.length:Int))=true by simp; omega,Zac,Cb hx,Zaa,wN i (by omega)]
    generalize hv:full[i]=v
    obtain⟨xa,ba,ha⟩:=Pt (n:=n) (Du.mk (Ab.mk v.machine 0 0 (IK.mk 0) 0 0) v []) (by simp) (by simp; omega)
    obtain⟨xb,bb,hb⟩:=Pt (n:=n) (Du.mk (Ab.mk s1 s2 s3 s4 s5 s6) v s13) (by show s13.length≤_; omega) (by show s13.length<_; omega)
    rw [ha,hb]
    simp only [Zaa,happ,happ2]
    have fresh:∃ x,(bif v.kind.n != 2 then Aw n y1 y2 y3 full v.machine 0 0 (IK.mk 0) 0 0 0 0 0 (IK.mk 0) 0 0 ([].append [v]) full (full.length:Int) ((i+1:Nat):Int) else bif !ba then(some (.inr ((([],()),((9,()),((y3,()),()))),((),((),((),((full,()),((v.machine,(0,(0,(IK.mk 0,(0,(0,(v.machine,(v.seq,(v.minute,(v.kind,(v.a,(v.b,([],()))))))))))))),())))))))) else bif decide (xa.sales>0) then Aw n y1 y2 (y3++[xa]) full v.machine v.seq v.minute v.kind v.a v.b 0 0 0 (IK.mk 0) 0 0 [] full (full.length:Int) ((i+1:Nat):Int) else Aw n y1 y2 y3 full v.machine v.seq v.minute v.kind v.a v.b 0 0 0 (IK.mk 0) 0 0 [] full (full.length:Int) ((i+1:Nat):Int))=some x∧AaH full.length x:=by
     cases v.kind.n != 2 with
     | true=>exact ih _ _ _ _ _ _ _ _ _ _ _ _ _ _ _ _ (by omega) (one v)
     | false =>
      cases ba with
      | false=>exact⟨_,rfl,Nat.zero_le _⟩
      | true =>
       cases decide (xa.sales>0) with
       | true=>exact ih _ _ _ _ _ _ _ _ _ _ _ _ _ _ _ _ (hap _) nil
       | false=>exact ih _ _ _ _ _ _ _ _ _ _ _ _ _ _ _ _ (by omega) nil
    by_cases h0:i=0
    · subst h0
      rw [show decide (((0:Nat):Int)=0)=true from rfl]
      exact fresh
    · rw [Zah (show ¬ ((i:Int)=0) by omega)]
      obtain⟨j,rfl⟩:∃ j,i=j+1:=⟨i-1,by omega⟩
      have hj:IntKind.i64.wrap (((j+1:Nat):Int)-1)=(j:Int):=by rw [LP (by omega) (by omega)]; omega
      rw [hj,Cb (show j<full.length by omega)]
      simp only [ZaI,Zac,Zaa]
      cases full[j].machine != v.machine with
      | true=>exact fresh
      | false =>
       simp only [Zad]
       cases v.kind.n != 2 with
       | true=>exact ih _ _ _ _ _ _ _ _ _ _ _ _ _ _ _ _ (by omega) (hap2 v)
       | false =>
        cases bb with
        | false=>exact⟨_,rfl,Nat.zero_le _⟩
        | true =>
         cases decide (xb.sales>0) with
         | true=>exact ih _ _ _ _ _ _ _ _ _ _ _ _ _ _ _ _ (hap _) nil
         | false=>exact ih _ _ _ _ _ _ _ _ _ _ _ _ _ _ _ _ (by omega) nil
  · rw [show decide ((i:Int)<(full.length:Int))=false by simp; omega]
    exact⟨_,rfl,show y3.length≤full.length by omega⟩
theorem WK {l:List Ab} (h:FU l):Gr [l]=.inr (Ev Jl l):=by
 have hc:Ky [l]=0:=by
  unfold Ky
  have e1:l.all Bo=true:=ZaE.2 h.right
  rw [if_neg (by simp)]
  simp only [ZaT,List.all_nil,Bool.and_true,e1]
  rw [Zak h.len]; rfl
 unfold Gr
 rw [hc,if_neg (by simp),show([l]:List (List Ab)).flatten=l by simp,WI l [] [] h.dist (fun a _=>rfl)]
 simp only [Za6]
 rw [(XS h.dist).2 h.cmp]; rfl
theorem WL {n:Nat} {l:List Ab} (h:FU l) (hk:∀ r∈l,Ro r) (hn:1300<n):∃ a e,Ch n l=some (a,(e,()))∧a.length≤1000∧∀ l',l'.Perm l→Ch n l' = some (a,(e,())):=by
 have hl:=h.len
 have key:∀ l',l'.Perm l→D7 n [l']=some (Ev Jl l,(0,())):=fun l' hp=>by
  have h':=h.perm hp
  have hl':=h'.len
  rw [RG (fun x hx r hr=>by rw [Za7.1 hx] at hr; exact hk r (hp.mem_iff.1 hr)) (by simp) (fun x hx=>by rw [Za7.1 hx]; omega) (by simp; omega),WK h']
  have:Ev Jl l' = Ev Jl l:=by
   refine Pr ((Ee l').trans (hp.trans (Ee l).symm)) ?_ (Ta l') (Ta l)
   exact(List.Perm.pairwise_iff (fun {a b} (h:BE a≠BE b)=>h.symm) (Ee l')).2 h'.dist
  rw [this]
 have hsl:(Ev Jl l).length≤60:=by rw [HI]; exact hl
 have hi:=UE (Ev Jl l) (by omega) n 0 [] 0 [] 0 0 0 (IK.mk 0) 0 0 0 0 0 (IK.mk 0) 0 0 [] (by omega) (by omega) (by simp) (by simp)
 rw [show((0:Nat):Int)=0 from rfl] at hi
 obtain⟨x,hx,hsx⟩:=hi
 have hrun:∀ l',l'.Perm l→Ch n l' = Sum.elim (fun v2=>some (v2.fst.snd.snd.fst.fst,(0,()))) (fun v2=>some (v2.fst.fst.fst,(v2.fst.snd.fst.fst,()))) x:=fun l' hp=>by
  unfold Ch
  rw [key l' hp,Zaa]
  simp only
  rw [show((0:Int) != 0)=false from rfl,Zad,hx,Zaa]
 rw [hrun l (List.Perm.refl l)]
 cases x with
 | inl v=>exact⟨_,_,rfl,ZaF hsx (by omega),fun l' hp=>hrun l' hp⟩
 | inr v=>exact⟨_,_,rfl,ZaF hsx (by omega),fun l' hp=>hrun l' hp⟩
def Afu:AH:=AH.mk 0 0 (Rg.mk 0 0) 0
abbrev Ze (w:Aq) (i:Nat):AH:=w.duties.getD i Afu
def Afk (w:Aq) (r:List Int) (k d:Int) (i:Nat):Bool:=decide (r.getD i (-1)=k) && decide ((Ze w i).day=d)
def AeC (P:Nat→Bool):Nat→Nat→Option Nat
 | 0,_=>none
 | m+1,s=>bif P s then some s else AeC P m (s+1)
def Afv (w:Aq) (s:Ai):Option Nat→Ai
 | none=>s
 | some i=>OX s (Ze w i) (Ze w i).off.hi
def Afl (w:Aq) (r:List Int) (k:Nat):Nat→Ai
 | 0=>(Bq w).getD k LW
 | d+1=>Afv w (Afl w r k d) (AeC (Afk w r (k:Int) (d:Int)) w.duties.length 0)
def AeD (w:Aq) (r:List Int) (d j k:Nat):Prop:=(∀ i,i<j→Afk w r (k:Int) (d:Int) i=false)∧LX w (k:Int) (j:Int) (Ze w j) (Afl w r k d)=[]
def WM (w:Aq) (r:List Int) (d:Nat):Prop:=∀ j,j<w.duties.length→(Ze w j).day<(d:Int)→∀ k:Nat,r.getD j (-1)=(k:Int)→AeD w r (Ze w j).day.toNat j k
theorem WM.less {w:Aq} {r:List Int} {d:Nat} (h:WM w r (d+1)):WM w r d:=fun j hj hd k hk=>h j hj (by omega) k hk
def RR (m:Nat) (s:Ah):Prop:=LY m s∧FU s.records∧Pp s
theorem RR.step {m:Nat} {s:Ah} (h:RR (m+1) s) (t:ByteArray):RR m (B9 s t).1:=⟨h.1.step t,Pq h.2.1 t,UA h.1.1 h.2.2 t⟩
theorem RR.less {m k:Nat} {s:Ah} (h:RR m s) (hk:k≤m):RR k s:=⟨h.1.less hk,h.2⟩
theorem KY {α A B:Type} {F:Nat→Int→Option (A ⊕ B)} (l:List α) (okv:A) (Bd:Nat→Int→α→Option (A ⊕ B)) (N:Nat) (hl:l.length≤1000000)
  (hF:∀ n i,F (n+1) i=bif decide (i<(l.length:Int)) then(A4 l i).bind (Bd n i) else some (.inl okv))
  (hB:∀ n (i:Nat) (hi:i<l.length),N≤n→Bd n (i:Int) l[i]=F n (IntKind.i64.wrap ((i:Int)+1))):∀ (n i:Nat),N+(l.length-i)<n→i≤l.length→F n (i:Int)=some (.inl okv)
 | 0,_,h,_=>absurd h (Zav _)
 | n+1,i,h,hi=>by
  rw [hF]
  by_cases hx:i<l.length
  · rw [show decide ((i:Int)<(l.length:Int))=true by simp; omega,Zac,Cb hx,Zaa,hB n i hx (by omega),wN i (by omega)]
    exact KY l okv Bd N hl hF hB n (i+1) (by omega) (by omega)
  · rw [show decide ((i:Int)<(l.length:Int))=false by simp; omega]; rfl
theorem HM (l:Nat):(((l:Nat):Int) != ((l:Nat):Int))=false:=by simp
structure AaI (s:Ah):Prop where
 cards:s.cards.length≤1000
 outs:s.outs.length≤1000
 runs:s.runs.length≤1000
 records:s.records.length≤1000
 duties:s.week.duties.length≤1000
 drivers:s.week.drivers.length≤1000
 drv:∀ d∈s.week.drivers,d.knows.length≤10∧d.leave.length≤10∧d.wish.length≤10
 roster:s.roster.length≤1000
theorem CP.small {s:Ah} (h:CP s):AaI s:=⟨by have:=h.cards; omega,by have:=h.outs; omega,by have:=h.runs; omega,by have:=h.recs; omega,by have:=h.duties; omega,by have:=h.drivers; omega,fun d hd=>by obtain⟨k,off,rfl⟩:=h.drv d hd; simp,by have:=h.ros; have:=h.duties; omega⟩
theorem WN {n:Nat} {w:Aq} (h1:w.duties.length≤1000) (h2:w.drivers.length≤1000) (h3:∀ d∈w.drivers,d.knows.length≤10∧d.leave.length≤10∧d.wish.length≤10) (hn:1100<n):IN n w w=some (true,()):=by
 unfold IN
 have d1:(w.days != w.days)=false:=by simp
 have d2:(w.rest != w.rest)=false:=by simp
 have d3:(w.run != w.run)=false:=by simp
 have d4:(w.hours != w.hours)=false:=by simp
 simp only [d1,d2,d3,d4,HM,ZaI,Zac,Zad]
 have l1:=KY (F:=fun n i=>CM n w w i) w.duties (w,(w,((),((),())))) (fun n i v0=>(A4 w.duties i).bind fun v1=>bif !(decide (v0.day=v1.day) && (decide (v0.on=v1.on) && (decide (v0.off.lo=v1.off.lo) && (decide (v0.off.hi=v1.off.hi) && true) && (decide (v0.route=v1.route) && true)))) then(some (.inr (w,(w,(false,()))))) else CM n w w (IntKind.i64.wrap (i+1))) 0 (by omega) (fun n i=>by
  show CM (n+1) w w i=_
  rw [CM]) (fun n i hi _=>by
  rw [Cb hi,Zaa]
  simp) n 0 (by omega) (by omega)
 have l2:=KY (F:=fun n i=>CN n w w i) w.drivers (w,(w,())) (fun n i v0=>(A4 w.drivers i).bind fun v1=>bif !v0.off != v1.off then(bif !v0.row != v1.row then(bif !v0.used != v1.used then((Cz n v0.knows v1.knows).bind fun v2=>bif !!v2.fst then((Cz n v0.leave v1.leave).bind fun v3=>bif !!v3.fst then((Cz n v0.wish v1.wish).bind fun v4=>bif !v4.fst then(some (.inr (w,(w,(false,()))))) else CN n w w (IntKind.i64.wrap (i+1))) else some (.inr (w,(w,(false,()))))) else some (.inr (w,(w,(false,()))))) else some (.inr (w,(w,(false,()))))) else some (.inr (w,(w,(false,()))))) else some (.inr (w,(w,(false,()))))) 20 (by omega) (fun n i=>by
  show CN (n+1) w w i=_
  rw [CN]) (fun n i hi hn2=>by
  obtain⟨k1,k2,k3⟩:=h3 _ (Za9 hi)
  rw [Cb hi,Zaa]
  simp only [bne_self_eq_false,ZaI,Zac,Kg (n:=n) (l:=w.drivers[i].knows) (by omega) (by omega),Kg (n:=n) (l:=w.drivers[i].leave) (by omega) (by omega),Kg (n:=n) (l:=w.drivers[i].wish) (by omega) (by omega),Zaa,ZaM,Zad]) n 0 (by omega) (by omega)
 rw [show((0:Nat):Int)=0 from rfl] at l1 l2
 try simp only at l1 l2
 rw [l1,Zaa]
 simp only [Za8]
 rw [l2]; rfl
theorem WO {n:Nat} {s:Ah} (h:AaI s) (hn:1100<n):IU n s s=some (true,()):=by
 have hc:IM n s.cards s.cards=some (true,()):=by
  unfold IM
  have l:=G3 (F:=fun n i=>D9 n s.cards s.cards i) s.cards (fun v0 v1=>decide (v0.bus=v1.bus) && (decide (v0.number=v1.number) && (decide (v0.minute=v1.minute) && (decide (v0.kind.n=v1.kind.n) && (decide (v0.part=v1.part) && (decide (v0.sg=v1.sg) && true)))))) (by simp) (by have:=h.cards; omega) (fun n i=>by
   show D9 (n+1) s.cards s.cards i=_
   rw [D9]) n 0 (by have:=h.cards; omega) (by omega)
  rw [show((0:Nat):Int)=0 from rfl] at l
  rw [HM,Zad,l]; rfl
 have ho:Kv n s.outs s.outs=some (true,()):=by
  unfold Kv
  have l:=G3 (F:=fun n i=>Ei n s.outs s.outs i) s.outs (fun v0 v1=>decide (v0.bus=v1.bus) && (decide (v0.fr=v1.fr) && true)) (by simp) (by have:=h.outs; omega) (fun n i=>by
   show Ei (n+1) s.outs s.outs i=_
   rw [Ei]) n 0 (by have:=h.outs; omega) (by omega)
  rw [show((0:Nat):Int)=0 from rfl] at l
  rw [HM,Zad,l]; rfl
 have hr:Kw n s.runs s.runs=some (true,()):=by
  unfold Kw
  have l:=G3 (F:=fun n i=>Ej n s.runs s.runs i) s.runs (fun v0 v1=>decide (v0.bus=v1.bus) && (decide (v0.fr=v1.fr) && (decide (v0.to_=v1.to_) && (decide (v0.miles=v1.miles) && true)))) (by simp) (by have:=h.runs; omega) (fun n i=>by
   show Ej (n+1) s.runs s.runs i=_
   rw [Ej]) n 0 (by have:=h.runs; omega) (by omega)
  rw [show((0:Nat):Int)=0 from rfl] at l
  rw [HM,Zad,l]; rfl
 have he:G0 n s.records s.records=some (true,()):=by
  unfold G0
  have l:=G3 (F:=fun n i=>Cy n s.records s.records i) s.records (fun v0 v1=>decide (v0.machine=v1.machine) && (decide (v0.seq=v1.seq) && (decide (v0.minute=v1.minute) && (decide (v0.kind.n=v1.kind.n) && (decide (v0.a=v1.a) && (decide (v0.b=v1.b) && true)))))) (by simp) (by have:=h.records; omega) (fun n i=>by
   show Cy (n+1) s.records s.records i=_
   rw [Cy]) n 0 (by have:=h.records; omega) (by omega)
  rw [show((0:Nat):Int)=0 from rfl] at l
  rw [HM,Zad,l]; rfl
 have hw:=WN (n:=n) (w:=s.week) h.duties h.drivers h.drv hn
 have hi:=Kg (n:=n) (l:=s.roster) (by have:=h.roster; omega) (by have:=h.roster; omega)
 unfold IU
 simp only [hc,ho,hr,he,hw,hi,Zaa,Zac]
theorem Pu:∀ k u,(TQ k u).length≤k
 | 0,_=>by simp [TQ]
 | k+1,u=>by
  unfold TQ
  cases Nat.blt u 10 with
  | true=>simp
  | false=>have:=Pu k (u / 10); simp; omega
theorem HN (x:Int):(BK x).data.toList.length≤30:=by
 unfold BK Ou
 cases x with
 | ofNat u=>have:=Pu 20 u; simp [Ku]; omega
 | negSucc u=>have:=Pu 20 (u+1); simp [Ku]; omega
theorem D4 {n:Nat} {x:Int} (h0 : -9223372036854775808≤x) (h1:x≤9223372036854775807):B3 n x=some (BK x,()):=by
 unfold B3
 rw [Zak h0,Zak h1]; rfl
theorem RT:∀ (l:List (List UInt8)),(∀ w∈l,w.length≤30)→(([32]:List UInt8).intercalate l).length≤31*l.length
 | [],_=>by simp [List.intercalate]
 | [x],h=>by have:=h x (by simp); simp [List.intercalate]; omega
 | x::y::r,h=>by
  have e:([32]:List UInt8).intercalate (x::y::r)=x++[32]++([32]:List UInt8).intercalate (y::r):=by simp [List.intercalate,List.intersperse]
  have h1:=h x (by simp)
  have h2:=RT (y::r) fun w hw=>h w (Zbe _ hw)
  rw [e]
  simp only [Zan,Zas,Zbh] at h2 ⊢
  omega
theorem UF (n:Nat) {ws:List ByteArray} (h1:ws.length≤10) (h2:∀ w∈ws,w.data.toList.length≤30):Ep n ws (B [32])=some (EP ws (B [32]),())∧(EP ws (B [32])).data.toList.length≤310:=by
 have h:=RT (ws.map (·.data.toList)) (by intro w hw; obtain⟨a,ha,rfl⟩:=ZaV.1 hw; exact h2 a ha)
 rw [ZaH] at h
 have e:(EP ws (B [32])).data.toList=([32]:List UInt8).intercalate (ws.map (·.data.toList)):=by unfold EP Ku; rfl
 have hle:(EP ws (B [32])).data.toList.length≤310:=by rw [e]; omega
 refine⟨?_,hle⟩
 unfold Ep
 rw [HJ,HJ,Za1 (show ws.length≤100000 by omega),Za1 (show(EP ws (B [32])).data.toList.length≤100000 by omega)]
 rfl
def Jv (ws:List ByteArray):List UInt8:=(EP ws (B [32])).data.toList++[10]
theorem G4 {ws:List ByteArray} (h1:ws.length≤10) (h2:∀ w∈ws,w.data.toList.length≤30):(Jv ws).length≤311:=by
 have:=(UF 0 h1 h2).2
 unfold Jv
 rw [Zan]
 simp only [Zas,Zbh]
 omega
theorem EM {n:Nat} {ws:List ByteArray} {out:List UInt8} {β:Type} {K:List (IK .u8)→Option β} (h1:ws.length≤10) (h2:∀ w∈ws,w.data.toList.length≤30) (ho:out.length≤1000000) :
  ((Ep n ws (B [32])).bind fun v7=>(Bf v7.fst (B [10])).bind fun v8=>(app (bL out) (FY v8)).bind K)=K (bL (out++Jv ws)):=by
 obtain⟨a,b⟩:=UF n h1 h2
 have e:Bf (EP ws (B [32])) (B [10])=some (Ku (Jv ws)):=by
  have:=Y6 (a:=(EP ws (B [32])).data.toList) (b:=[10]) (by simp only [Zas,Zbh]; omega)
  rw [E8] at this
  exact this
 have hl:=G4 h1 h2
 rw [a,Zaa]
 simp only
 rw [e,Zaa,Acr,B6 (by rw [MW,MW]; omega),Zaa,AdL]
theorem NM (b:Int) (full:List Ap) (hl:full.length≤1000):∀ (n i:Nat),full.length-i<n→i≤full.length→∃ k:Nat,Bl n full b (full.length:Int) (i:Int)=some (bif (full.drop i).any (fun c=>decide (c.bus=b)) then .inr ((b,()),((k:Int),())) else .inl ((b,()),()))
 | 0,_,h,_=>absurd h (Zav _)
 | n+1,i,h,hi=>by
  rw [Bl]
  by_cases hx:i<full.length
  · have hd:full.drop i=full[i]::full.drop (i+1):=Zaj hx
    rw [show decide ((i:Int)<(full.length:Int))=true by simp; omega,Zac,Cb hx,Zaa,wN i (by omega),hd,List.any_cons]
    by_cases hb:full[i].bus=b
    · rw [Zak hb,Zac,Bool.true_or]
      exact⟨i,rfl⟩
    · rw [Zah hb,Zad,Bool.false_or]
      exact NM b full hl n (i+1) (by omega) (by omega)
  · have hd:full.drop i=[]:=by simp; omega
    rw [show decide ((i:Int)<(full.length:Int))=false by simp; omega,hd]
    exact⟨0,rfl⟩
theorem RU {n:Nat} {s:Ah} (hg:CP s) (hm:HL s) (b:Int) (hn:300<n):AQ n (Aa.mk s) b=some (Aa.mk s,(Hf (GI b s.runs),(((GI b s.runs).length:Int),()))):=by
 have hl:=hg.runs
 unfold AQ
 have h:=Is b s.runs hm.runs (by omega) n 0 0 0 (by omega) (by omega) (by omega) (by omega)
 rw [show((0:Nat):Int)=0 from rfl,Zay] at h
 simp only
 rw [h,Zaa]
 simp
def KZ (s:Ah) (b:Int):Bool:=decide (0<(GI b s.runs).length) || (decide (IW s.outs b≥0) || s.cards.any fun c=>decide (c.bus=b))
theorem UG {n:Nat} {s:Ah} (hg:CP s) (hm:HL s) (b:Int) (hn:1100<n):B4 n (Aa.mk s) b=some (Aa.mk s,(KZ s b,())):=by
 unfold B4
 rw [RU hg hm b (by omega),Zaa]
 simp only
 by_cases h0:0<(GI b s.runs).length
 · rw [show decide ((((GI b s.runs).length:Nat):Int)>0)=true from Zak (by omega)]
   unfold KZ
   rw [Zak h0]; rfl
 · rw [show decide ((((GI b s.runs).length:Nat):Int)>0)=false from Zah (by omega)]
   simp only [ZaI,Zac]
   rw [OH hg b (by omega),Zaa]
   simp only
   unfold KZ
   rw [Zah h0,Bool.false_or]
   by_cases h1:IW s.outs b≥0
   · rw [Zak h1]; rfl
   · rw [Zah h1]
     simp only [ZaI,Zac,Bool.false_or]
     have hc:=hg.cards
     obtain⟨k,hk⟩:=NM b s.cards (by omega) n 0 (by omega) (by omega)
     rw [show((0:Nat):Int)=0 from rfl,Zay] at hk
     rw [hk,Zaa]
     cases s.cards.any fun c=>decide (c.bus=b) with
     | true =>
      simp only [Zac,Sum.elim_inr]
      rw [Zak (show((k:Nat):Int)≥0 by omega)]
     | false=>rfl
theorem Zf (l:List Ap) (b a:Int):(F8 l b a).1.length≤40:=by
 unfold F8
 split
 · simp
 · rename_i y hy
   split
   · have:=RE hy
     unfold Adu
     rw [ZaH]
     exact ZaF (Zbr _ _) this
   · simp
def RV (s:Ah) (b:Int):List ByteArray:=bif decide (IW s.outs b≥0) then [B [98,117,115],BK b,B [109,105,108,101,115],BK (Hf (GI b s.runs)),B [111,112,101,110],BK ((F8 s.cards b 1000000).1.length:Int),B [111,117,116]] else [B [98,117,115],BK b,B [109,105,108,101,115],BK (Hf (GI b s.runs)),B [111,112,101,110],BK ((F8 s.cards b 1000000).1.length:Int)]
theorem Pv (s:Ah) (b:Int):(RV s b).length≤10∧∀ w∈RV s b,w.data.toList.length≤30:=by
 unfold RV
 cases decide (IW s.outs b≥0) with
 | true =>
  refine⟨by simp,fun w hw=>?_⟩
  simp only [Zac,Zam,Zbj,or_false] at hw
  rcases hw with rfl | rfl | rfl | rfl | rfl | rfl | rfl
  all_goals first | exact HN _ | decide
 | false =>
  refine⟨by simp,fun w hw=>?_⟩
  simp only [Zad,Zam,Zbj,or_false] at hw
  rcases hw with rfl | rfl | rfl | rfl | rfl | rfl
  all_goals first | exact HN _ | decide
def AaJ (s:Ah) (b:Int):List UInt8:=bif KZ s b then Jv (RV s b) else []
def Oz (s:Ah):Nat→Nat→List UInt8
 | _,0=>[]
 | i,k+1=>AaJ s (i:Int)++Oz s (i+1) k
theorem Pw (s:Ah) (b:Int):(AaJ s b).length≤311:=by
 unfold AaJ
 cases KZ s b with
 | true=>exact G4 (Pv s b).1 (Pv s b).2
 | false=>simp
theorem UH (s:Ah):∀ (k i:Nat),(Oz s i k).length≤311*k
 | 0,_=>by simp [Oz]
 | k+1,i=>by
  have h1:=Pw s (i:Int)
  have h2:=UH s k (i+1)
  unfold Oz
  rw [Zan]
  omega
def Ac9 (s:Ah) (out:List UInt8) (lines:List ByteArray) (errs:List Int):Aa×(Unit×List (IK .u8)×Unit)×List ByteArray×Unit×List Int×Unit×(Unit×Unit)×(Unit×(Unit×Unit))×Unit:=(Aa.mk s,((),bL out,()),lines,(),errs,(),((),()),((),((),())),())
theorem UJ {n:Nat} {s:Ah} (hg:CP s) (hm:HL s) {b:Int} (hb:0≤b∧b≤1000) (hn:1100<n) {out:List UInt8} (ho:out.length≤1000000) {β:Type} {K:Aa→List (IK .u8)→Option β} :
  ((AQ n (Aa.mk s) b).bind fun v1 =>
    (Cx n v1.fst.state.cards b 1000000).bind fun v2 =>
    (B3 n b).bind fun v3 =>
    (B3 n v1.snd.fst).bind fun v4 =>
    (B3 n (v2.fst.length:Int)).bind fun v5 =>
    (R8 n v1.fst b).bind fun v6 =>
    bif decide (v6.snd.fst≥0) then((Ep n ([B [98,117,115],v3.fst,B [109,105,108,101,115],v4.fst,B [111,112,101,110],v5.fst].append [B [111,117,116]]) (B [32])).bind fun v7 =>
     (Bf v7.fst (B [10])).bind fun v8=>(app (bL out) (FY v8)).bind fun v9=>K v6.fst v9)
    else(Ep n [B [98,117,115],v3.fst,B [109,105,108,101,115],v4.fst,B [111,112,101,110],v5.fst] (B [32])).bind fun v7 =>
     (Bf v7.fst (B [10])).bind fun v8=>(app (bL out) (FY v8)).bind fun v9=>K v6.fst v9)=K (Aa.mk s) (bL (out++Jv (RV s b))):=by
 have hc:=hg.cards
 have hr:=hg.runs
 have hs:=Pi (GI b s.runs) fun r h=>hm.runs r (Zbw.1 h).1
 have hbl:=YW b s.runs
 have ho2:=Zf s.cards b 1000000
 obtain⟨w1,w2⟩:=Pv s b
 rw [RU hg hm b (by omega),Zaa]
 simp only
 rw [SN hg.kind (by omega) (by omega),Zaa,D4 (by omega) (by omega),Zaa,D4 (by omega) (by omega),Zaa]
 simp only
 rw [D4 (by omega) (by omega),Zaa,OH hg b (by omega),Zaa]
 simp only
 unfold RV at w1 w2 ⊢
 cases hgo:decide (IW s.outs b≥0) with
 | true =>
  rw [hgo] at w1 w2
  simp only [Zac]
  exact EM w1 w2 ho
 | false =>
  rw [hgo] at w1 w2
  simp only [Zad]
  exact EM w1 w2 ho
theorem AaK {s:Ah} (hg:CP s) (hm:HL s) (lines:List ByteArray) (errs:List Int):∀ (n i:Nat)(out:List UInt8),1200+(100-i)<n→i≤100→out.length≤311*i→AE n lines (Aa.mk s) errs (bL out) (i:Int)=some (.inr (Ac9 s (out++Oz s i (100-i)) lines errs))
 | 0,_,_,h,_,_=>absurd h (Zav _)
 | n+1,i,out,h,hi,ho=>by
  rw [AE]
  by_cases hx:i<100
  · obtain⟨k,hk⟩:∃ k,100-i=k+1:=⟨100-i-1,by omega⟩
    have hk2:100-(i+1)=k:=by omega
    have ih:=fun out ho=>AaK hg hm lines errs n (i+1) out (by omega) (by omega) ho
    rw [hk2] at ih
    have hbl:=Pw s (i:Int)
    rw [Zak (show(i:Int)<100 by omega),Zac,UG hg hm (i:Int) (by omega),Zaa,wN i (by omega),hk]
    simp only [Oz]
    unfold AaJ at hbl ⊢
    cases hb:KZ s (i:Int) with
    | false =>
     simp only [ZaI,Zac,Zad,Za6]
     exact ih out (by omega)
    | true =>
     rw [hb] at hbl
     simp only [ZaM,Zac,Zad] at hbl ⊢
     refine(UJ hg hm ⟨by omega,by omega⟩ (by omega) (by omega) (K:=fun g o=>AE n lines g errs o ((i+1:Nat):Int))).trans ?_
     rw [ih _ (by rw [Zan]; omega),ZaC]
  · have:i=100:=by omega
    subst this
    rw [show decide (((100:Nat):Int)<100)=false from rfl]
    simp only [Zad,Nat.sub_self,Oz,Zbd]
    rfl
theorem AaL {s:Ah} (hg:CP s) (hm:HL s) (lines:List ByteArray) (errs:List Int):∀ (n i:Nat),1200+(100-i)<n→i≤100→Bx n lines (Aa.mk s) errs (bL []) (i:Int)=some (.inl (Ac9 s (Oz s i (100-i)) lines errs))∨Bx n lines (Aa.mk s) errs (bL []) (i:Int)=some (.inr (Ac9 s (Oz s i (100-i)) lines errs))
 | 0,_,h,_=>absurd h (Zav _)
 | n+1,i,h,hi=>by
  rw [Bx]
  by_cases hx:i<100
  · obtain⟨k,hk⟩:∃ k,100-i=k+1:=⟨100-i-1,by omega⟩
    have hk2:100-(i+1)=k:=by omega
    have hbl:=Pw s (i:Int)
    rw [Zak (show(i:Int)<100 by omega),Zac,UG hg hm (i:Int) (by omega),Zaa,wN i (by omega),hk]
    simp only [Oz]
    unfold AaJ at hbl ⊢
    cases hb:KZ s (i:Int) with
    | false =>
     simp only [ZaI,Zac,Zad,Za6]
     have:=AaL hg hm lines errs n (i+1) (by omega) (by omega)
     rw [hk2] at this
     exact this
    | true =>
     rw [hb] at hbl
     simp only [ZaM,Zac,Zad] at hbl ⊢
     refine .inr ((UJ (out:=[]) hg hm ⟨by omega,by omega⟩ (by omega) (by simp) (K:=fun g o=>AE n lines g errs o ((i+1:Nat):Int))).trans ?_)
     rw [Za6,AaK hg hm lines errs n (i+1) _ (by omega) (by omega) (by omega),hk2]
  · have:i=100:=by omega
    subst this
    rw [show decide (((100:Nat):Int)<100)=false from rfl]
    simp only [Zad,Nat.sub_self,Oz]
    exact .inl rfl
theorem AcA {n:Nat} {lines:List ByteArray} (hr:Ge lines=true) (hn:1600≤n):Dz n lines (Aa.mk (A2 Al lines).1) (A2 Al lines).2=some (Aa.mk (A2 Al lines).1,(Ck (A2 Al lines).1.cards lines (A2 Al lines).2 0,())):=by
 obtain⟨h1,h2⟩:=FA.1 hr
 have hs:∀ t∈lines,t.size≤1000000:=fun t ht=>ZaF (h2 t ht) (by decide)
 have hL:=GG lines 0 Al (GF.less (by omega))
 unfold Dz
 have h:=GH lines (A2 Al lines).2 (Aa.mk (A2 Al lines).1) hL.1 hs (by omega) (HK _ _) (fun i hi h0=>Nc lines Al i hi h0) n 0 [] (by omega) (by omega) (by simp)
 rw [show((0:Nat):Int)=0 from rfl,Zay,Zay,Za6] at h
 rw [h]; rfl
def Jw (l:List Ab):Nat:=(l.filter fun r=>decide (r.kind.n=0)).length
def GJ:List Ab→Int
 | []=>0
 | r::l=>(bif decide (r.kind.n=0) then r.b else 0)+GJ l
theorem XT {r:Ab} (h:Bo r=true) (h0:r.kind.n=0):0≤r.b∧r.b≤10000:=by
 unfold Bo at h
 rw [Zak h0] at h
 simp [EJ] at h
 omega
theorem Ma:∀ l:List Ab,(∀ r∈l,Bo r=true)→0≤GJ l∧GJ l≤10000*(l.length:Int)
 | [],_=>by simp [GJ]
 | r::l,h=>by
  have h2:=Ma l fun x hx=>h x (by simp [hx])
  unfold GJ
  simp only [Zas]
  by_cases h0:r.kind.n=0
  · have:=XT (h r (by simp)) h0
    rw [Zak h0,Zac]; omega
  · rw [Zah h0,Zad]; omega
theorem WP (g:Aa) (o:List (IK .u8)) (full:List Ab) (hr:∀ r∈full,Bo r=true) (hl:full.length≤1000):∀ (n i a b:Nat),full.length-i<n→i≤full.length→a≤i→b≤10000*i→AS n g o (a:Int) (b:Int) full (full.length:Int) (i:Int)=some (g,((),o,()),(),(),((),()),((),((),())),(a:Int)+(Jw (full.drop i):Int),(b:Int)+GJ (full.drop i),())
 | 0,_,_,_,h,_,_,_=>absurd h (Zav _)
 | n+1,i,a,b,h,hi,ha,hb=>by
  rw [AS]
  by_cases hx:i<full.length
  · have hd:full.drop i=full[i]::full.drop (i+1):=Zaj hx
    rw [show decide ((i:Int)<(full.length:Int))=true by simp; omega,Zac,Cb hx,Zaa,wN i (by omega),hd]
    unfold Jw GJ
    by_cases h0:full[i].kind.n=0
    · obtain⟨b0,b1⟩:=XT (hr _ (Za9 hx)) h0
      obtain⟨m,hm⟩:∃ m:Nat,full[i].b=m:=⟨full[i].b.toNat,by omega⟩
      rw [Zak h0,Zac,wN a (by omega),hm,LP (x:=(b:Int)+(m:Int)) (by omega) (by omega),List.filter_cons_of_pos (by simpa using h0)]
      have:=WP g o full hr hl n (i+1) (a+1) (b+m) (by omega) (by omega) (by omega) (by omega)
      rw [show((b+m:Nat):Int)=(b:Int)+(m:Int) by omega] at this
      rw [this]
      unfold Jw
      simp only [Zac,Zas]
      rw [show((a+1:Nat):Int)+((((full.drop (i+1)).filter fun r=>decide (r.kind.n=0)).length:Nat):Int)=(a:Int)+(((((full.drop (i+1)).filter fun r=>decide (r.kind.n=0)).length+1:Nat)):Int) by omega,Int.add_assoc]
    · rw [Zah h0,Zad,List.filter_cons_of_neg (by simpa using h0),Zad,Int.zero_add]
      exact WP g o full hr hl n (i+1) a b (by omega) (by omega) (by omega) (by omega)
  · have hd:full.drop i=[]:=by simp; omega
    rw [show decide ((i:Int)<(full.length:Int))=false by simp; omega,hd]
    simp [Jw,GJ]
def Nd:List CS→Int→Int→Int×Int
 | [],a,b=>(a,b)
 | k::l,a,b=>Nd l (IntKind.i64.wrap (a+k.sales)) (IntKind.i64.wrap (b+k.coins))
def Ady (x:Int):Prop:=-9223372036854775808≤x∧x≤9223372036854775807
theorem UK (x:Int):Ady (IntKind.i64.wrap x):=by
 unfold Ady
 simp [IntKind.wrap,IntKind.bits,IntKind.signed]; omega
theorem UN:∀ (l:List CS)(a b:Int),Ady a→Ady b→Ady (Nd l a b).1∧Ady (Nd l a b).2
 | [],_,_,h1,h2=>⟨h1,h2⟩
 | k::l,a,b,_,_=>by unfold Nd; exact UN l _ _ (UK _) (UK _)
theorem AaM (g:Aa) (o:List (IK .u8)) (e:Int) (full:List CS) (hl:full.length≤1000):∀ (n i:Nat)(a b:Int),full.length-i<n→i≤full.length→By n g o a b e full (full.length:Int) (i:Int)=some (g,((),o,()),(),(),((),()),((),((),())),(Nd (full.drop i) a b).1,(Nd (full.drop i) a b).2,e,())
 | 0,_,_,_,h,_=>absurd h (Zav _)
 | n+1,i,a,b,h,hi=>by
  rw [By]
  by_cases hx:i<full.length
  · have hd:full.drop i=full[i]::full.drop (i+1):=Zaj hx
    rw [show decide ((i:Int)<(full.length:Int))=true by simp; omega,Zac,Cb hx,Zaa,wN i (by omega),hd]
    unfold Nd
    exact AaM g o e full hl n (i+1) _ _ (by omega) (by omega)
  · have hd:full.drop i=[]:=by simp; omega
    rw [show decide ((i:Int)<(full.length:Int))=false by simp; omega,hd]
    rfl
def La (l:List Int):Nat:=(l.filter fun x=>x != -1).length
theorem WQ (g:Aa) (o:List (IK .u8)) (full:List Int) (hl:full.length≤1000):∀ (n i a:Nat),full.length-i<n→i≤full.length→a≤i→A6 n g o (a:Int) full (full.length:Int) (i:Int)=some (g,((),o,()),(),(),((),()),((),((),())),(a:Int)+(La (full.drop i):Int),())
 | 0,_,_,h,_,_=>absurd h (Zav _)
 | n+1,i,a,h,hi,ha=>by
  rw [A6]
  by_cases hx:i<full.length
  · have hd:full.drop i=full[i]::full.drop (i+1):=Zaj hx
    rw [show decide ((i:Int)<(full.length:Int))=true by simp; omega,Zac,Cb hx,Zaa,wN i (by omega),hd]
    unfold La
    cases hb:(full[i] != -1) with
    | true =>
     rw [Zac,wN a (by omega),List.filter_cons_of_pos (p:=fun x=>x != -1) hb,WQ g o full hl n (i+1) (a+1) (by omega) (by omega) (by omega)]
     unfold La
     rw [Zas,show((a+1:Nat):Int)+((((full.drop (i+1)).filter fun x=>x != -1).length:Nat):Int)=(a:Int)+(((((full.drop (i+1)).filter fun x=>x != -1).length+1:Nat)):Int) by omega]
    | false =>
     rw [Zad,List.filter_cons_of_neg (p:=fun x=>x != -1) (by rw [hb]; exact Bool.false_ne_true)]
     exact WQ g o full hl n (i+1) a (by omega) (by omega) (by omega)
  · have hd:full.drop i=[]:=by simp; omega
    rw [show decide ((i:Int)<(full.length:Int))=false by simp; omega,hd]
    simp [La]
theorem UO (l:List UInt8):KM (bL l)=some (Ku l):=by
 unfold KM
 rw [show(bL l).all (fun x=>decide (0≤x.n) && decide (x.n<256))=true from ZaE.2 fun x hx=>by
  unfold bL at hx
  obtain⟨b,_,rfl⟩:=ZaV.1 hx
  have:=b.toNat_lt
  simp; omega,Zac,Acs]
theorem Afm {a:ByteArray} (ha:a.data.toList.length≤30) (x:Int):∀ w∈[a,BK x],w.data.toList.length≤30:=by
 intro w hw
 simp only [Zam,Zbj,or_false] at hw
 rcases hw with rfl | rfl
 · exact ha
 · exact HN _
theorem Aes {a c:ByteArray} (ha:a.data.toList.length≤30) (hc:c.data.toList.length≤30) (x y:Int):∀ w∈[a,BK x,c,BK y],w.data.toList.length≤30:=by
 intro w hw
 simp only [Zam,Zbj,or_false] at hw
 rcases hw with rfl | rfl | rfl | rfl
 · exact ha
 · exact HN _
 · exact hc
 · exact HN _
theorem AeE {a c:ByteArray} (ha:a.data.toList.length≤30) (hc:c.data.toList.length≤30):∀ w∈[a,c],w.data.toList.length≤30:=by
 intro w hw
 simp only [Zam,Zbj,or_false] at hw
 rcases hw with rfl | rfl
 · exact ha
 · exact hc
def Adz (a:List CS) (e:Int):List UInt8:=bif decide (e=0) then Jv [B [108,97,99,107],BK (Nd a 0 0).1,B [99,111,105,110,115],BK (Nd a 0 0).2] else Jv [B [108,97,99,107],B [117,110,107,110,111,119,110]]
def AeF (s:Ah) (late:Nat) (a:List CS) (e:Int):List UInt8 :=
 Oz s 0 100++Jv [B [108,97,116,101],BK (late:Int)]++Jv [B [115,97,108,101,115],BK (Jw s.records:Int),B [99,111,105,110,115],BK (GJ s.records)]++Adz a e++Jv [B [100,117,116,105,101,115],BK (La s.roster:Int),B [111,102],BK (s.roster.length:Int)]
set_option maxHeartbeats 1000000 in
theorem RW {n:Nat} {lines:List ByteArray} (hr:Ge lines=true) (hn:2000≤n) {a:List CS} {e:Int} (hlk:Ch n (A2 Al lines).1.records=some (a,(e,()))) (ha:a.length≤1000) :
  DZ n lines=some (Ku (AeF (A2 Al lines).1 (Ck (A2 Al lines).1.cards lines (A2 Al lines).2 0).length a e),(0,())):=by
 obtain⟨h1,h2⟩:=FA.1 hr
 have hs:∀ t∈lines,t.size≤1000000:=fun t ht=>ZaF (h2 t ht) (by decide)
 have hg:=(GG lines 0 Al (GF.less (by omega))).1
 have hm:=Pj lines Al U7
 have hrec:=KX lines Al NL
 have hlate:=AcA (n:=n) hr (by omega)
 have hll:=Kh (A2 Al lines).1.cards lines (A2 Al lines).2 0
 unfold DZ
 rw [OS (by omega) (by omega),hr,Zaa]
 simp only [Zac]
 rw [show((0:Int) != 0)=false from rfl,Zad,SX hs (by omega) (by omega),Zaa]
 simp only
 generalize Ck (A2 Al lines).1.cards lines (A2 Al lines).2 0=L at *
 generalize (A2 Al lines).2=errs at *
 generalize (A2 Al lines).1=S at *
 have hlen:=hrec.len
 have hcb:=Ma S.records hrec.right
 have hro:S.roster.length≤12:=by have:=hg.ros; have:=hg.duties; omega
 have h3:∀ o,AS n (Aa.mk S) o 0 0 S.records (S.records.length:Int) 0=some (Aa.mk S,((),o,()),(),(),((),()),((),((),())),(Jw S.records:Int),GJ S.records,()):=fun o=>by
  have h:=WP (Aa.mk S) o S.records hrec.right (by omega) n 0 0 0 (by omega) (by omega) (by omega) (by omega)
  rw [show((0:Nat):Int)=0 from rfl,Zay,Int.zero_add,Int.zero_add] at h
  exact h
 have h4:∀ o,By n (Aa.mk S) o 0 0 e a (a.length:Int) 0=some (Aa.mk S,((),o,()),(),(),((),()),((),((),())),(Nd a 0 0).1,(Nd a 0 0).2,e,()):=fun o=>AaM (Aa.mk S) o e a ha n 0 0 0 (by omega) (by omega)
 have h5:∀ o,A6 n (Aa.mk S) o 0 S.roster (S.roster.length:Int) 0=some (Aa.mk S,((),o,()),(),(),((),()),((),((),())),(La S.roster:Int),()):=fun o=>by
  have h:=WQ (Aa.mk S) o S.roster (by omega) n 0 0 (by omega) (by omega) (by omega)
  rw [show((0:Nat):Int)=0 from rfl,Zay,Int.zero_add] at h
  exact h
 have hsw:=UN a 0 0 (by unfold Ady; omega) (by unfold Ady; omega)
 have hsn:Jw S.records≤S.records.length:=Zbr _ _
 have hgn:La S.roster≤S.roster.length:=Zbr _ _
 have hbl:=UH S 100 0
 rcases AaL hg hm lines errs n 0 (by omega) (by omega) with h | h
 all_goals
  simp only [Nat.sub_zero] at h
  have h:Bx n lines (Aa.mk S) errs [] 0=_:=h
  rw [h,Zaa]
  simp only [Za8,Sum.elim_inr,Ac9]
  rw [hlate,Zaa,D4 (by simp only; omega) (by simp only; omega),Zaa]
  refine(EM (by simp) (Afm (by decide) _) (by omega)).trans ?_
  have l1:=G4 (ws:=[B [108,97,116,101],BK (L.length:Int)]) (by simp) (Afm (by decide) _)
  have l2:=G4 (ws:=[B [115,97,108,101,115],BK (Jw S.records:Int),B [99,111,105,110,115],BK (GJ S.records)]) (by simp) (Aes (by decide) (by decide) _ _)
  show Option.bind (AS n (Aa.mk S) _ 0 0 S.records (S.records.length:Int) 0) _=_
  rw [h3,Zaa]
  simp only
  rw [D4 (by omega) (by omega),Zaa,D4 (by omega) (by omega),Zaa]
  refine(EM (by simp) (Aes (by decide) (by decide) _ _) (by rw [Zan]; omega)).trans ?_
  show Option.bind (Ch n S.records) _=_
  rw [hlk,Zaa]
  simp only
  rw [h4,Zaa]
  simp only
  unfold AeF Adz
  cases he:decide (e=0) with
  | true =>
   simp only [Zac]
   rw [D4 hsw.1.1 hsw.1.2,Zaa,D4 hsw.2.1 hsw.2.2,Zaa]
   have l3:=G4 (ws:=[B [108,97,99,107],BK (Nd a 0 0).1,B [99,111,105,110,115],BK (Nd a 0 0).2]) (by simp) (Aes (by decide) (by decide) _ _)
   refine(EM (by simp) (Aes (by decide) (by decide) _ _) (by simp only [Zan]; omega)).trans ?_
   show Option.bind (A6 n (Aa.mk S) _ 0 S.roster (S.roster.length:Int) 0) _=_
   rw [h5,Zaa]
   simp only
   rw [D4 (by omega) (by omega),Zaa,D4 (by omega) (by omega),Zaa]
   refine(EM (by simp) (Aes (by decide) (by decide) _ _) (by simp only [Zan]; omega)).trans ?_
   show Option.bind (KM _) _=_
   rw [UO,Zaa]
  | false =>
   simp only [Zad]
   have l3:=G4 (ws:=[B [108,97,99,107],B [117,110,107,110,111,119,110]]) (by simp) (AeE (by decide) (by decide))
   refine(EM (by simp) (AeE (by decide) (by decide)) (by simp only [Zan]; omega)).trans ?_
   show Option.bind (A6 n (Aa.mk S) _ 0 S.roster (S.roster.length:Int) 0) _=_
   rw [h5,Zaa]
   simp only
   rw [D4 (by omega) (by omega),Zaa,D4 (by omega) (by omega),Zaa]
   refine(EM (by simp) (Aes (by decide) (by decide) _ _) (by simp only [Zan]; omega)).trans ?_
   show Option.bind (KM _) _=_
   rw [UO,Zaa]
theorem Nf:∀ (l:List ByteArray)(s:Ah),A2 s (Gs s l)=((A2 s l).1,List.replicate (Gs s l).length 0)
 | [],_=>rfl
 | t::l,s=>by
  by_cases h:(B9 s t).2=0
  · have e:Gs s (t::l)=t::Gs (B9 s t).1 l:=by simp only [Gs,if_pos h]
    rw [e]
    simp only [A2,Nf l,h,Zas,Zbx]
  · simp only [Gs,if_neg h,A2,Ju h,Nf l]
def CF (cards:List Ap):List ByteArray→List Int→List ByteArray
 | t::l,e::es=>bif decide (e=0) && LZ cards t then t::CF cards l es else CF cards l es
 | _,_=>[]
theorem Iv (cards:List Ap):∀ (l:List ByteArray)(es:List Int)(i:Nat),(Ck cards l es i).length=(CF cards l es).length
 | [],_,_=>by simp [Ck,CF]
 | t::l,[],_=>by simp [Ck,CF]
 | t::l,e::es,i=>by
  have:=Iv cards l es (i+1)
  unfold Ck CF
  cases decide (e=0) && LZ cards t with
  | true=>simp [this]
  | false=>simpa using this
theorem Px (cards:List Ap):∀ (l:List ByteArray)(es:List Int),CF cards (Kz l es) (List.replicate (Kz l es).length 0)=CF cards l es
 | [],_=>by simp [Kz,CF]
 | t::l,[]=>by simp [Kz,CF]
 | t::l,e::es=>by
  have:=Px cards l es
  by_cases h:e=0
  · have e2:Kz (t::l) (e::es)=t::Kz l es:=by simp only [Kz,if_pos h]
    rw [e2,Zas,Zbx]
    simp only [CF,this]
    rw [Zak h]; rfl
  · simp only [Kz,if_neg h,CF,this,Zah h,Bool.false_and,Zad]
theorem RX (lines:List ByteArray) (full:List Int) (hf:∀ x∈full,0≤x∧x<(lines.length:Int)) (hl:full.length≤1000):∀ (n i:Nat)(out:List ByteArray),full.length-i<n→i≤full.length→out.length≤i→Dy n lines full out (i:Int)=some (out++(full.drop i).map (fun x=>lines.getD x.toNat (B [])),())
 | 0,_,_,h,_,_=>absurd h (Zav _)
 | n+1,i,out,h,hi,ho=>by
  rw [Dy]
  by_cases hx:i<full.length
  · have hd:full.drop i=full[i]::full.drop (i+1):=Zaj hx
    obtain⟨f0,f1⟩:=hf _ (Za9 hx)
    obtain⟨m,hm⟩:∃ m:Nat,full[i]=m:=⟨full[i].toNat,by omega⟩
    have hml:m<lines.length:=by omega
    rw [show decide ((i:Int)<(full.length:Int))=true by simp; omega,Zac,Cb hx]
    simp only [Zaa]
    rw [Zak (show full[i]≥0 by omega),Zak f1,hm,Cb hml,hd,Zbm,hm]
    simp only [Zac,Zaa]
    rw [B6 (by simp; omega),Zaa,wN i (by omega),RX lines full hf hl n (i+1) _ (by omega) (by omega) (by simp; omega)]
    simp [hml]
  · have hd:full.drop i=[]:=by simp; omega
    rw [show decide ((i:Int)<(full.length:Int))=false by simp; omega,hd]
    simp
theorem Py (m:Nat) (hm:m≤1000000):∀ (n i:Nat),m-i<n→i≤m→B5 n (List.replicate m 0) (i:Int)=some (.inl ())
 | 0,_,h,_=>absurd h (Zav _)
 | n+1,i,h,hi=>by
  rw [B5]
  by_cases hx:i<m
  · have hx':i<(List.replicate m (0:Int)).length:=by simpa using hx
    rw [show decide ((i:Int)<((List.replicate m (0:Int)).length:Int))=true by simp; omega,Zac,Cb hx',Zaa,wN i (by omega),List.getElem_replicate]
    exact Py m hm n (i+1) (by omega) (by omega)
  · rw [show decide ((i:Int)<((List.replicate m (0:Int)).length:Int))=false by simp; omega]; rfl
theorem RY (cards:List Ap):∀ (l:List ByteArray)(es:List Int)(i:Nat),∀ x∈Ck cards l es i,(i:Int)≤x∧x<(i:Int)+(l.length:Int)
 | [],_,_,x,h=>by simp [Ck] at h
 | t::l,[],_,x,h=>by simp [Ck] at h
 | t::l,e::es,i,x,h=>by
  unfold Ck at h
  have ih:=RY cards l es (i+1) x
  rw [Zas]
  cases hb:decide (e=0) && LZ cards t with
  | true =>
   rw [hb,Zac] at h
   rcases Zam.1 h with rfl | h
   · omega
   · have:=ih h; omega
  | false =>
   rw [hb,Zad] at h
   have:=ih h; omega
theorem RZ (cards:List Ap):∀ (l pre:List ByteArray)(es:List Int),(Ck cards l es pre.length).map (fun x=>(pre++l).getD x.toNat (B []))=CF cards l es
 | [],_,_=>by simp [Ck,CF]
 | t::l,_,[]=>by simp [Ck,CF]
 | t::l,pre,e::es=>by
  have ih:=RZ cards l (pre++[t]) es
  rw [show pre++[t]++l=pre++t::l by simp,show(pre++[t]).length=pre.length+1 by simp] at ih
  unfold Ck CF
  cases decide (e=0) && LZ cards t with
  | true =>
   simp only [Zac,Zbm,ih]
   congr 1
   rw [Int.toNat_natCast,ZaJ,ZaO (Zal _)]
   simp
  | false=>simpa using ih
theorem XU {n:Nat} {lines:List ByteArray} (cards:List Ap) (es:List Int) (hl:lines.length≤1000) (hn:1000<n):Ik n lines (Ck cards lines es 0)=some (CF cards lines es,()):=by
 have hlen:=Kh cards lines es 0
 have h:=RX lines (Ck cards lines es 0) (fun x hx=>by
  have:=RY cards lines es 0 x hx
  omega) (by omega) n 0 [] (by omega) (by omega) (by simp)
 have g:=RZ cards lines [] es
 rw [Za6,Zbh] at g
 rw [show((0:Nat):Int)=0 from rfl,Zay,Za6,g] at h
 unfold Ik
 rw [h]; rfl
theorem AaN (s:ByteArray):s.beq s=true:=by
 rw [← E8 s,Aaf]; simp
theorem UP {n:Nat} {lines:List ByteArray} (hn:lines.length+3000≤n) (hbig:lines.length≤4000000000000000000):D0 n lines=some (true,()):=by
 unfold D0
 obtain⟨b,hb,hr⟩:=WB (n:=n) hbig (by omega)
 have hw:=Acv (show 60≤n by omega)
 rw [hb,Zaa]
 cases b with
 | false=>simp only [ZaI,Zac]; rw [hw]; rfl
 | true =>
  have hR:=hr rfl
  obtain⟨h1,h2⟩:=FA.1 hR
  have hlen:=HK lines Al
  have hal:=U5 lines Al
  have hR':Ge (Gs Al lines)=true:=FA.2 ⟨by omega,fun t ht=>h2 t (Ph lines Al t ht)⟩
  have hP:=Nf lines Al
  have hrec:=KX lines Al NL
  have hgood:=(GG lines 0 Al (GF.less (by omega))).1
  obtain⟨a,e,hlk,ha,_⟩:=WL (n:=n) hrec hgood.rk (by omega)
  have hRep:=RW hR (by omega) hlk ha
  have hRep':=RW (lines:=Gs Al lines) (n:=n) (a:=a) (e:=e) hR' (by omega) (by rw [hP]; exact hlk) ha
  have hLa:=XQ (n:=n) hR (by omega)
  have hLa':=XQ (n:=n) hR' (by omega)
  have hPl:=XP (n:=n) hR (by omega)
  have hPl':=XP (n:=n) hR' (by omega)
  rw [hP] at hRep' hLa' hPl'
  have htak:=U4 lines Al
  have htx:=Px (A2 Al lines).1.cards lines (A2 Al lines).2
  rw [htak] at htx
  have hle:(Ck (A2 Al lines).1.cards (Gs Al lines) (List.replicate (Gs Al lines).length 0) 0).length=(Ck (A2 Al lines).1.cards lines (A2 Al lines).2 0).length:=by
   rw [Iv,Iv,htx]
  simp only at hRep' hLa' hPl'
  rw [hle] at hRep'
  have hpk:=XU (n:=n) (lines:=lines) (A2 Al lines).1.cards (A2 Al lines).2 (by omega) (by omega)
  have hpk':=XU (n:=n) (lines:=Gs Al lines) (A2 Al lines).1.cards (List.replicate (Gs Al lines).length 0) (by omega) (by omega)
  rw [htx] at hpk'
  have htl:(CF (A2 Al lines).1.cards lines (A2 Al lines).2).length≤1000:=by
   have:=Kh (A2 Al lines).1.cards lines (A2 Al lines).2 0
   rw [Iv] at this
   omega
  have hcl:=Py (Gs Al lines).length (by omega) n 0 (by omega) (by omega)
  have hta:=Aa8 (n:=n) hlen (by omega) (by omega)
  rw [htak] at hta
  have hal2:=WO (n:=n) hgood.small (by omega)
  have hll:=XG (n:=n) (l:=lines) (by omega)
  have hll':=XG (n:=n) (l:=Gs Al lines) (by omega)
  have hte:=Aah (n:=n) (a:=CF (A2 Al lines).1.cards lines (A2 Al lines).2) (b:=CF (A2 Al lines).1.cards lines (A2 Al lines).2) (by omega) (by omega)
  generalize A2 Al lines=S at *
  generalize Gs Al lines=L at *
  generalize Ck S.1.cards lines S.2 0=X at *
  generalize Ck S.1.cards L (List.replicate L.length 0) 0=Y at *
  generalize CF S.1.cards lines S.2=T at *
  simp only [ZaM,Zad,hll,hll',Zaa,hPl,hPl',hta,hRep,hRep',hLa,hLa',show((0:Int) != 0)=false from rfl,ZaI,Zac,hlen,hle,Zbq,HM,hal2,AaN,hpk,hpk',hte,decide_true]
  rw [show((0:Nat):Int)=0 from rfl] at hcl
  rw [hcl]
  simp only [Zaa,Za8,hw]
end Go.Proofs.YtkpgggfibljflaaGreatDoor
