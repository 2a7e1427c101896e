/- The plain law. -/
import Derived.Test.YtkpgggfibljflaaGreatDoorgEL03
set_option linter.all false
set_option maxRecDepth 100000
namespace Go.Proofs.YtkpgggfibljflaaGreatDoor
open Go Go.RowKit Go.Proofs
def G6 (b:Bool) (e:Int):Unit ⊕ (A8×Unit):=bif b then .inl () else .inr (A8.mk e,())
theorem Gk (n:Nat) (b:Bool) (e:Int):A5 n b e=some (G6 b e):=by cases b <;> rfl
theorem T0 (n:Nat) (e:Int):CL n e=some (G6 (decide (e=0)) e):=by
  unfold CL
  rw [Gk]
  cases decide (e=0) <;> rfl
theorem KC (n:Nat) (x lo hi:Int):Bw n x lo hi=some (Ib x lo hi,()):=by
  unfold Bw Ib
  cases decide (lo≤x) <;> rfl
theorem Ii {α:Type} {l:List α} (h:l.length≤1000000000):app [] l=some l:=B8 (a:=[]) (by simpa using h)
theorem AcO {n:Nat} {l:List A6} {x:A6} (h:l.length<1000000000):FW n l x=some (l++[x],()):=by
  unfold FW Z4
  rw [Ii (by omega)]
  simp only [Option.bind_some]
  rw [B8 (by simp; omega)]; rfl
theorem Ae7 {n:Nat} {l:List Sf} {x:Sf} (h:l.length<1000000000):EB n l x=some (l++[x],()):=by
  unfold EB OA
  rw [Ii (by omega)]
  simp only [Option.bind_some]
  rw [B8 (by simp; omega)]; rfl
theorem Ae8 {n:Nat} {l:List W9} {x:W9} (h:l.length<1000000000):EC n l x=some (l++[x],()):=by
  unfold EC Ac4
  rw [Ii (by omega)]
  simp only [Option.bind_some]
  rw [B8 (by simp; omega)]; rfl
theorem ZS {n:Nat} {l:List Ac} {x:Ac} (h:l.length<1000000000):Et n l x=some (l++[x],()):=by
  unfold Et Ac5
  rw [Ii (by omega)]
  simp only [Option.bind_some]
  rw [B8 (by simp; omega)]; rfl
theorem ZT {n:Nat} {l:List AR} {x:AR} (h:l.length<1000000000):Eu n l x=some (l++[x],()):=by
  unfold Eu Z0
  rw [Ii (by omega)]
  simp only [Option.bind_some]
  rw [B8 (by simp; omega)]; rfl
theorem AcP {n:Nat} {l:List Bu} {x:Bu} (h:l.length<1000000000):Gc n l x=some (l++[x],()):=by
  unfold Gc Z2
  rw [Ii (by omega)]
  simp only [Option.bind_some]
  rw [B8 (by simp; omega)]; rfl
theorem Ae9 {n:Nat} {l:List Int} {x:Int} (h:l.length<1000000000):GH n l x=some (l++[x],()):=by
  unfold GH SH
  rw [Ii (by omega)]
  simp only [Option.bind_some]
  rw [B8 (by simp; omega)]; rfl
def Aio (c:A6):Bool:=bif decide (c.kind.n<2) then Ib c.part 0 15 && decide (c.sg=0) else decide (c.part=0) && (decide (c.kind.n=2) && Ib c.sg 1 999 || decide (c.kind.n=3) && decide (c.sg=0))
def MF (c:A6):Bool:=Ib c.bus 0 99 && (Ib c.number 1 999 && (Ib c.minute 0 1000000 && Aio c))
theorem Aip (n:Nat) (c:A6) (hk:0≤c.kind.n∧c.kind.n≤3):Fv n c=some (MF c,()):=by
  have h4:c.kind.n=0∨c.kind.n=1∨c.kind.n=2∨c.kind.n=3:=by omega
  unfold Fv MF Aio Ib
  obtain⟨bus,number,minute,⟨k⟩,part,sg⟩:=c
  simp only at h4 ⊢
  cases decide (0≤bus) with
  | false=>rfl
  | true =>
  cases decide (bus≤99) with
  | false=>rfl
  | true =>
  cases decide (1≤number) with
  | false=>rfl
  | true =>
  cases decide (number≤999) with
  | false=>rfl
  | true =>
  cases decide (0≤minute) with
  | false=>rfl
  | true =>
  cases decide (minute≤1000000) with
  | false=>rfl
  | true =>
  rcases h4 with rfl | rfl | rfl | rfl
  · show(bif decide (0≤part) then(bif decide (part≤15) then(some (decide (sg=0),())) else some (false,())) else some (false,()))=_
    cases decide (0≤part) <;> cases decide (part≤15) <;> simp
  · show(bif decide (0≤part) then(bif decide (part≤15) then(some (decide (sg=0),())) else some (false,())) else some (false,()))=_
    cases decide (0≤part) <;> cases decide (part≤15) <;> simp
  · show(bif decide (part=0) then(bif decide (1≤sg) then(some (decide (sg≤999),())) else some (false,())) else some (false,()))=_
    cases decide (part=0) <;> cases decide (1≤sg) <;> simp
  · show(bif decide (part=0) then(some (decide (sg=0),())) else some (false,()))=_
    cases decide (part=0) <;> simp
def KM (a c:A6):Bool:=decide (a.bus=c.bus) && (decide (a.number=c.number) && (decide (a.minute=c.minute) && (decide (a.kind.n=c.kind.n) && (decide (a.part=c.part) && (decide (a.sg=c.sg) && true)))))
theorem AeA {n:Nat} (g:Ah) (c:A6) (l:List A6) (hl:l.length≤4000000000000000000) (h:l.length+1≤n):Bg n g c l (l.length:Int) 0=some (bif l.any (fun a=>KM a c) then .inr (g,(c,(A8.mk 6,()))) else .inl (g,(c,((),((),()))))):=by
  have key:=Aa6 (F:=fun n (_:Unit) i=>Bg n g c l (l.length:Int) i) (l:=l) (N:=0) (T:=fun s i a=>bif KM a c then .inr (.inr (g,(c,(A8.mk 6,())))) else .inl s) (E:=fun _=>.inl (g,(c,((),((),())))))
    (B:=fun n _ i v0=>(A5 n (!KM v0 c) 6).bind fun v1=>Sum.elim (fun v2=>Bg n g c l (l.length:Int) (IntKind.i64.wrap (i+1))) (fun v2=>some (.inr (g,(c,(v2.fst,()))))) (v1)) (fun _ _=>True)
    (fun _ _ _=>rfl) (fun n s i hi _ _=>by
      rw [Gk]
      cases KM l[i] c
      · exact⟨rfl,trivial⟩
      · rfl) hl l.length () 0 n (by simp) (by omega) trivial
  rw [show((0:Nat):Int)=0 from rfl,List.drop_zero] at key
  rw [key]
  congr 1
  suffices H:∀ (l:List A6)(i:Nat),AhR (fun(s:Unit)(i:Nat) a=>bif KM a c then .inr (.inr (g,(c,(A8.mk 6,())))) else .inl s) (fun _=>(.inl (g,(c,((),((),())))):(Ah×A6×Unit×Unit×Unit) ⊕ ((Ah×A6×A8×Unit)))) i () l=(bif l.any (fun a=>KM a c) then .inr (g,(c,(A8.mk 6,()))) else .inl (g,(c,((),((),()))))) from H l 0
  intro l
  induction l with
  | nil=>intro i; rfl
  | cons a l ih =>
    intro i
    unfold AhR
    rw [List.any_cons]
    cases KM a c
    · exact ih (i+1)
    · rfl
end Go.Proofs.YtkpgggfibljflaaGreatDoor
namespace Go.Proofs.YtkpgggfibljflaaGreatDoor
open Go Go.RowKit Go.Proofs
def Ss (c:A6):Prop:=0≤c.kind.n∧c.kind.n≤3
theorem Ab8 {α R:Type} (p:α→Bool) (r:Nat→R) (E:R):∀ (l:List α)(i:Nat),(l.all p=true→AhR (fun(s:Unit) i a=>bif p a then .inl s else .inr (r i)) (fun _=>E) i () l=E)∧(l.all p=false→∃ k,AhR (fun(s:Unit) i a=>bif p a then .inl s else .inr (r i)) (fun _=>E) i () l=r k)
  | [],i=>⟨fun _=>rfl,fun h=>by cases h⟩
  | a::l,i=>by
    obtain⟨h1,h2⟩:=Ab8 p r E l (i+1)
    unfold AhR
    rw [List.all_cons]
    cases hp:p a with
    | false=>exact⟨(fun h=>by cases h),fun _=>⟨i,rfl⟩⟩
    | true =>
      simp only [Bool.true_and,cond_true]
      exact⟨h1,h2⟩
theorem AeB {n:Nat} {l:List A6} (hk:∀ c∈l,Ss c) (hl:l.length≤1000) (h:l.length<n):(l.all MF=true→ET n l (l.length:Int) 0=some (.inl ((((),()),()),())))∧(l.all MF=false→∃ k:Nat,ET n l (l.length:Int) 0=some (.inr ((((),()),()),((k:Int),())))):=by
  have key:=Aa6 (F:=fun n (_:Unit) i=>ET n l (l.length:Int) i) (l:=l) (N:=0) (T:=fun s i a=>bif MF a then .inl s else .inr (.inr ((((),()),()),((i:Int),())))) (E:=fun _=>.inl ((((),()),()),()))
    (B:=fun n _ i v0=>(Fv n v0).bind fun v1=>bif !v1.fst then(some (.inr ((((),()),()),(i,())))) else ET n l (l.length:Int) (IntKind.i64.wrap (i+1))) (fun _ _=>True)
    (fun _ _ _=>rfl) (fun n s i hi _ _=>by
      rw [Aip n _ (hk _ (List.getElem_mem hi))]
      cases MF l[i]
      · rfl
      · exact⟨rfl,trivial⟩) (by omega) l.length () 0 n (by simp) (by omega) trivial
  rw [show((0:Nat):Int)=0 from rfl,List.drop_zero] at key
  obtain⟨h1,h2⟩:=Ab8 (R:=((((Unit×Unit)×Unit)×Unit) ⊕ ((((Unit×Unit)×Unit)×Int×Unit)))) MF (fun i=>.inr ((((),()),()),((i:Int),()))) (.inl ((((),()),()),())) l 0
  exact⟨fun h=>by rw [key,h1 h],fun h=>by obtain⟨k,hk⟩:=h2 h; exact⟨k,by rw [key,hk]⟩⟩
def zC:A6:=A6.mk 0 0 0 (IK.mk 0) 0 0
def Akk:List (Int×A6)→List Int→List A6→Option (List (Int×A6)×List Int)
  | m,o,[]=>some (m,o)
  | m,o,c::l=>bif EM Gj m c.number then(bif KM (Ba Gj m c.number zC) c then Akk m o l else none) else Akk (Ip Gj m c.number c) (o++[c.number]) l
theorem X8 (full:List A6) (hl:full.length≤1000):∀ (n i:Nat)(m:List (Int×A6))(o:List Int),full.length-i<n→i≤full.length→o.length≤i→match Akk m o (full.drop i) with
    | some (m',o')=>Ca n m o full (full.length:Int) (i:Int)=some (.inl ((m',(o',())),((),((),()))))
    | none=>∃ m' o',Ca n m o full (full.length:Int) (i:Int)=some (.inr ((m',(o',())),((),((),(6,())))))
  | 0,_,_,_,h,_,_=>absurd h (Nat.not_lt_zero _)
  | n+1,i,m,o,h,hi,ho=>by
    rw [Ca]
    by_cases hx:i<full.length
    · have hd:full.drop i=full[i]::full.drop (i+1):=List.drop_eq_getElem_cons hx
      rw [show decide ((i:Int)<(full.length:Int))=true by simp; omega,cond_true,Ft hx,Option.bind_some,hd,wN i (by omega)]
      have ih:=fun m o=>X8 full hl n (i+1) m o (by omega) (by omega)
      have happ:app o [full[i].number]=some (o++[full[i].number]):=B8 (by simp; omega)
      unfold Akk
      cases hm:EM Gj m full[i].number with
      | true =>
        simp only [cond_true,Bool.not_true,cond_false]
        show(match (bif KM (Ba Gj m full[i].number zC) full[i] then Akk m o (full.drop (i+1)) else none) with | some (m',o')=>(bif !KM (Ba Gj m full[i].number zC) full[i] then _ else _)=_ | none=>∃ m' o',(bif !KM (Ba Gj m full[i].number zC) full[i] then _ else _)=_)
        cases KM (Ba Gj m full[i].number zC) full[i] with
        | true =>
          simp only [cond_true,Bool.not_true,cond_false]
          exact ih m o (by omega)
        | false=>exact⟨m,o,rfl⟩
      | false =>
        simp only [cond_true,Bool.not_false,cond_false]
        rw [happ,Option.bind_some]
        exact ih _ _ (by simp; omega)
    · have hd:full.drop i=[]:=by simp; omega
      rw [show decide ((i:Int)<(full.length:Int))=false by simp; omega,hd]
      rfl
theorem Xu:∀ (l:List A6)(m:List (Int×A6))(o:List Int)(m':List (Int×A6))(o':List Int),Akk m o l=some (m',o')→o'.length≤o.length+l.length
  | [],m,o,m',o',h=>by cases h; simp
  | c::l,m,o,m',o',h=>by
    unfold Akk at h
    cases hm:EM Gj m c.number with
    | true =>
      rw [hm,cond_true] at h
      cases hs:KM (Ba Gj m c.number zC) c with
      | true =>
        rw [hs,cond_true] at h
        have:=Xu l m o m' o' h
        simp; omega
      | false=>rw [hs] at h; cases h
    | false =>
      rw [hm,cond_false] at h
      have:=Xu l _ _ m' o' h
      simp at this ⊢; omega
theorem Aku {o:List Int} (h:o.length≤1000000):Af0 o=some (GV (fun a b=>decide (a≤b)) o):=by
  unfold Af0
  have hl:∀ (l:List Int),B6 l=l.length:=fun l=>by induction l with
    | nil=>rfl
    | cons a l ih=>simp [B6,ih]
  rw [show Nat.blt (B6 o) 4611686018427387904=true by rw [hl]; exact Nat.ble_eq_true_of_le (by omega)]
  rfl
def Ps (l:List A6):Int ⊕ (List (Int×A6)×List Int) :=
  if 40<l.length then .inl 3 else if l.all MF=false then .inl 1 else match Akk [] [] l with
    | none=>.inl 6
    | some (m,o)=>.inr (m,GV (fun a b=>decide (a≤b)) o)
theorem AfP {n:Nat} {l:List A6} (hk:∀ c∈l,Ss c) (hl:l.length≤1000) (h:l.length<n):N0 n l=some (match Ps l with | .inl e=>.inl ((),(e,())) | .inr y=>.inr ((y.1,(y.2,())),(0,()))):=by
  unfold N0 Ps
  by_cases h40:40<l.length
  · rw [show decide ((l.length:Int)>40)=true by simp; omega,cond_true,if_pos h40]
  · rw [show decide ((l.length:Int)>40)=false by simp; omega,cond_false,if_neg h40]
    obtain⟨r1,r2⟩:=AeB hk hl h
    have r3:=X8 l hl n 0 [] [] (by omega) (by omega) (by simp)
    rw [show((0:Nat):Int)=0 from rfl,List.drop_zero] at r3
    cases ha:l.all MF with
    | false =>
      obtain⟨k,hk⟩:=r2 ha
      rw [hk,if_pos rfl]
      simp only [Option.bind_some,Sum.elim_inr]
      rw [show decide ((k:Int)≥0)=true by simp]
      rfl
    | true =>
      rw [r1 ha,if_neg (by simp)]
      simp only [Option.bind_some,Sum.elim_inl]
      cases hr:Akk [] [] l with
      | none =>
        rw [hr] at r3
        obtain⟨m',o',e⟩:=r3
        rw [e]; rfl
      | some y =>
        rw [hr] at r3
        have hlen:=Xu l [] [] y.1 y.2 hr
        rw [r3]
        simp only [Option.bind_some,Sum.elim_inl]
        rw [Aku (by simp at hlen; omega)]; rfl
def Alv (l:List A6):Int:=match Ps l with
  | .inl e=>e
  | .inr _=>0
theorem ZU {n:Nat} {l:List A6} (hk:∀ c∈l,Ss c) (hl:l.length≤1000) (h:l.length<n):Hw n l=some (Alv l,()):=by
  unfold Hw Alv
  rw [AfP hk hl h]
  cases Ps l <;> rfl
def AmM (m:List (Int×A6)) (bus at_:Int) (v:Int):Bool:=decide ((Ba Gj m v zC).bus=bus) && ((decide ((Ba Gj m v zC).kind.n=0) || decide ((Ba Gj m v zC).kind.n=1)) && ZD m (Ba Gj m v zC) at_)
def AlJ (m:List (Int×A6)) (o:List Int) (bus at_:Int):List Int:=(o.filter (AmM m bus at_)).map fun v=>(Ba Gj m v zC).number
theorem VZ (m:List (Int×A6)) (cl full:List Int) (bus at_:Int) (hl:full.length≤1000):∀ (n i:Nat)(acc:List Int),full.length-i<n→i≤full.length→acc.length≤i→AP n at_ acc m cl bus full (full.length:Int) (i:Int)=some (.inl (((at_,()),((acc++AlJ m (full.drop i) bus at_,()),(((((m,(cl,())),()),()),()),()))),((),((),((),((),((),(((),()),((bus,()),())))))))))
  | 0,_,_,h,_,_=>absurd h (Nat.not_lt_zero _)
  | n+1,i,acc,h,hi,ha=>by
    rw [AP]
    by_cases hx:i<full.length
    · have hd:full.drop i=full[i]::full.drop (i+1):=List.drop_eq_getElem_cons hx
      have ih:=fun acc=>VZ m cl full bus at_ hl n (i+1) acc (by omega) (by omega)
      have happ:∀ x,app acc [x]=some (acc++[x]):=fun x=>B8 (by simp; omega)
      rw [show decide ((i:Int)<(full.length:Int))=true by simp; omega,cond_true,Ft hx,Option.bind_some,hd,wN i (by omega)]
      have e1:AlJ m (full[i]::full.drop (i+1)) bus at_=(bif AmM m bus at_ full[i] then [(Ba Gj m full[i] zC).number] else [])++AlJ m (full.drop (i+1)) bus at_:=by
        unfold AlJ
        rw [List.filter_cons]
        cases AmM m bus at_ full[i] <;> simp
      rw [e1]
      unfold Ag3 AmM
      simp only [Option.bind_some,happ]
      generalize hz:Ba Gj m full[i] zC=z
      unfold zC at hz
      rw [hz]
      cases decide (z.bus=bus) with
      | false=>simpa using ih acc (by omega)
      | true =>
        cases decide (z.kind.n=0) with
        | true =>
          cases ZD m z at_ with
          | true=>simpa using ih (acc++[z.number]) (by simp; omega)
          | false=>simpa using ih acc (by omega)
        | false =>
          cases decide (z.kind.n=1) with
          | true =>
            cases ZD m z at_ with
            | true=>simpa using ih (acc++[z.number]) (by simp; omega)
            | false=>simpa using ih acc (by omega)
          | false=>simpa using ih acc (by omega)
    · have hd:full.drop i=[]:=by simp; omega
      rw [show decide ((i:Int)<(full.length:Int))=false by simp; omega,hd]
      simp [AlJ]
def Pt (l:List A6) (bus at_:Int):List Int×Int:=match Ps l with
  | .inl e=>([],e)
  | .inr y=>if Ib bus 0 99 && Ib at_ 0 1000000 then(AlJ y.1 y.2 bus at_,0) else([],2)
theorem AcQ {α:Type} (le:α→α→Bool) (x:α):∀ l,(Aen le x l).length=l.length+1
  | []=>rfl
  | y::r=>by
    unfold Aen
    cases le x y
    · simp [AcQ le x r]
    · simp
theorem Nn {α:Type} (le:α→α→Bool):∀ l,(GV le l).length=l.length
  | []=>rfl
  | x::r=>by
    unfold GV
    rw [AcQ,Nn le r]; rfl
theorem Aa9 {l:List A6} {y:List (Int×A6)×List Int} (h:Ps l=.inr y):l.length≤40∧l.all MF=true∧∃ o,Akk [] [] l=some (y.1,o)∧y.2=GV (fun a b=>decide (a≤b)) o:=by
  unfold Ps at h
  split at h
  · cases h
  · rename_i h40
    split at h
    · cases h
    · rename_i ha
      split at h
      · cases h
      · rename_i m o hr
        cases h
        exact⟨by omega,by simpa using ha,o,hr,rfl⟩
theorem AaA {l:List A6} {e:Int} (h:Ps l=.inl e):e=1∨e=3∨e=6:=by
  unfold Ps at h
  split at h
  · cases h; simp
  · split at h
    · cases h; simp
    · split at h
      · cases h; simp
      · cases h
theorem AgF {l:List A6} {y:List (Int×A6)×List Int} (h:Ps l=.inr y):y.2.length≤40:=by
  obtain⟨h1,_,o,h2,h3⟩:=Aa9 h
  have:=Xu l _ _ _ _ h2
  rw [h3,Nn]
  simp at this; omega
theorem Akv {n:Nat} {l:List A6} {bus at_:Int} (hk:∀ c∈l,Ss c) (hl:l.length≤1000) (h:l.length+50<n):GD n l bus at_=some ((Pt l bus at_).1,((Pt l bus at_).2,())):=by
  unfold GD Pt
  rw [AfP hk hl (by omega)]
  cases hr:Ps l with
  | inl e =>
    have he:e≠0:=by have:=AaA hr; omega
    simp only [Option.bind_some,Sum.elim_inl]
    rw [show(e != 0)=true by simpa using he]
    rfl
  | inr y =>
    simp only [Option.bind_some,Sum.elim_inr]
    rw [show((0:Int) != 0)=false from rfl,cond_false]
    unfold Ib
    have hy:=AgF hr
    have ho:=VZ y.1 y.2 y.2 bus at_ (by omega) n 0 [] (by omega) (by omega) (by simp)
    rw [show((0:Nat):Int)=0 from rfl,List.drop_zero,List.nil_append] at ho
    have hb:Hx n y.1 y.2 bus at_=some (((y.1,(y.2,())),((),(AlJ y.1 y.2 bus at_,())))):=by
      unfold Hx
      rw [ho]; rfl
    cases decide (0≤bus) <;> cases decide (bus≤99) <;> cases decide (0≤at_) <;> cases decide (at_≤1000000) <;> simp [hb]
end Go.Proofs.YtkpgggfibljflaaGreatDoor
namespace Go.Proofs.YtkpgggfibljflaaGreatDoor
open Go Go.RowKit Go.Proofs
section
variable {α β:Type} [DecidableEq α] {q:α→α→Bool} (hq:∀ a b,q a b=true↔a=b)
include hq
theorem AeC (a:α):q a a=true:=(hq a a).2 rfl
theorem Ro (k k':α) (v:β):∀ m:List (α×β),HA q (Ip q m k v) k' = if k=k' then some v else HA q m k'
  | []=>by
    unfold Ip HA HA
    by_cases h:k=k'
    · subst h; simp [AeC hq]
    · have:q k k' = false:=by
        cases hh:q k k' with
        | false=>rfl
        | true=>exact absurd ((hq _ _).1 hh) h
      rw [this,if_neg h]; rfl
  | p::r=>by
    have ih:=Ro k k' v r
    unfold Ip
    cases hp:q p.1 k with
    | true =>
      have hpk:=(hq _ _).1 hp
      simp only [cond_true]
      unfold HA
      by_cases h:k=k'
      · subst h; simp [AeC hq]
      · have h1:q k k' = false:=by
          cases hh:q k k' with
          | false=>rfl
          | true=>exact absurd ((hq _ _).1 hh) h
        have h2:q p.1 k' = false:=by rw [hpk]; exact h1
        simp only [h1,h2,cond_false,if_neg h]
    | false =>
      simp only [cond_false]
      unfold HA
      cases hp2:q p.1 k' with
      | true =>
        have hpk:=(hq _ _).1 hp2
        have:k≠k':=fun h=>by
          rw [h,← hpk] at hp
          rw [AeC hq] at hp; cases hp
        rw [if_neg this]; rfl
      | false=>simpa using ih
theorem US (m:List (α×β)) (k k':α) (v:β):EM q (Ip q m k v) k' = true↔k=k'∨EM q m k' = true:=by
  unfold EM
  rw [Ro hq]
  by_cases h:k=k' <;> simp [h]
end
theorem KN (a b:JE):AB a b=true↔a=b:=by
  obtain⟨a1,a2⟩:=a
  obtain⟨b1,b2⟩:=b
  simp [AB]
theorem X9 (a b:ByteArray):FC a b=true↔a=b:=by simp [FC]
def ZV (r:Ac):Prop:=0≤r.kind.n∧r.kind.n≤2
def D3 (v a:Ac):Bool:=decide (v.machine=a.machine) && (decide (v.seq=a.seq) && (decide (v.minute=a.minute) && (decide (v.kind.n=a.kind.n) && (decide (v.a=a.a) && (decide (v.b=a.b) && true)))))
theorem UT {a c:Ac}:D3 a c=true↔a=c:=by
  obtain⟨a1,a2,a3,⟨a4⟩,a5,a6⟩:=a
  obtain⟨c1,c2,c3,⟨c4⟩,c5,c6⟩:=c
  simp [D3]
theorem AcR {n:Nat} {l:List Ac} {v:Ac} (hl:l.length≤1000) (h:l.length<n):Cu n l v=some (l.any (D3 v),()):=by
  have H:∀ (n i:Nat),l.length-i<n→i≤l.length→((l.drop i).any (D3 v)=false→Bh n l v (l.length:Int) (i:Int)=some (.inl (v,())))∧((l.drop i).any (D3 v)=true→∃ k:Nat,Bh n l v (l.length:Int) (i:Int)=some (.inr (v,((k:Int),())))):=by
    intro n
    induction n with
    | zero=>intro i h; exact absurd h (Nat.not_lt_zero _)
    | succ n ih =>
      intro i h hi
      rw [Bh]
      by_cases hx:i<l.length
      · have hd:l.drop i=l[i]::l.drop (i+1):=List.drop_eq_getElem_cons hx
        rw [show decide ((i:Int)<(l.length:Int))=true by simp; omega,cond_true,Ft hx,Option.bind_some,hd,wN i (by omega),List.any_cons]
        change ((D3 v l[i] || (l.drop (i+1)).any (D3 v))=false→(bif D3 v l[i] then _ else _)=_)∧((D3 v l[i] || (l.drop (i+1)).any (D3 v))=true→∃ k:Nat,(bif D3 v l[i] then _ else _)=_)
        cases D3 v l[i] with
        | true=>exact⟨(fun h=>by cases h),fun _=>⟨i,rfl⟩⟩
        | false=>simpa using ih (i+1) (by omega) (by omega)
      · have hd:l.drop i=[]:=by simp; omega
        rw [show decide ((i:Int)<(l.length:Int))=false by simp; omega,hd]
        exact⟨fun _=>rfl,fun h=>by cases h⟩
  obtain⟨h1,h2⟩:=H n 0 (by omega) (by omega)
  rw [show((0:Nat):Int)=0 from rfl,List.drop_zero] at h1 h2
  unfold Cu Gt
  cases hc:l.any (D3 v) with
  | false=>rw [h1 hc]; rfl
  | true =>
    obtain⟨k,hk⟩:=h2 hc
    rw [hk]
    simp
def BV (r:Ac):Bool:=Ib r.machine 0 999 && (Ib r.seq 1 9999 && (Ib r.minute 0 1000000 && (bif decide (r.kind.n=0) then Ib r.a 0 99 && Ib r.b 0 10000 else bif decide (r.kind.n=1) then Ib r.a 0 1000000 && decide (r.b=0) else Ib r.a 0 9999 && Ib r.b 0 10000000)))
theorem AgG (n:Nat) (r:Ac) (hk:ZV r):C8 n r=some (BV r,()):=by
  obtain⟨hk0,hk1⟩:=hk
  have h4:r.kind.n=0∨r.kind.n=1∨r.kind.n=2:=by omega
  unfold C8 BV Ib
  obtain⟨machine,seq,minute,⟨k⟩,a,b⟩:=r
  simp only at h4 ⊢
  cases decide (0≤machine) with
  | false=>rfl
  | true =>
  cases decide (machine≤999) with
  | false=>rfl
  | true =>
  cases decide (1≤seq) with
  | false=>rfl
  | true =>
  cases decide (seq≤9999) with
  | false=>rfl
  | true =>
  cases decide (0≤minute) with
  | false=>rfl
  | true =>
  cases decide (minute≤1000000) with
  | false=>rfl
  | true =>
  rcases h4 with rfl | rfl | rfl
  · show(bif decide (0≤a) then(bif decide (a≤99) then(bif decide (0≤b) then(some (decide (b≤10000),())) else some (false,())) else some (false,())) else some (false,()))=_
    cases decide (0≤a) <;> cases decide (a≤99) <;> cases decide (0≤b) <;> simp
  · show(bif decide (0≤a) then(bif decide (a≤1000000) then(some (decide (b=0),())) else some (false,())) else some (false,()))=_
    cases decide (0≤a) <;> cases decide (a≤1000000) <;> simp
  · show(bif decide (0≤a) then(bif decide (a≤9999) then(bif decide (0≤b) then(some (decide (b≤10000000),())) else some (false,())) else some (false,())) else some (false,()))=_
    cases decide (0≤a) <;> cases decide (a≤9999) <;> cases decide (0≤b) <;> simp
theorem Ol {α A B:Type} {F:Nat→Int→Option (A ⊕ B)} {G:Nat→Int→α→Option (A ⊕ B)} (l:List α) (p:α→Bool) (okv:A) (bad:Int→B) (N:Nat) (hl:l.length≤4000000000000000000)
    (hF:∀ n i,F (n+1) i=bif decide (i<(l.length:Int)) then(AO l i).bind (G n i) else some (.inl okv))
    (hG:∀ n (i:Nat) (hi:i<l.length),N≤n→G n (i:Int) l[i]=bif p l[i] then F n (IntKind.i64.wrap ((i:Int)+1)) else some (.inr (bad (i:Int)))) {n:Nat} (hn:N+l.length<n) :
    (l.all p=true→F n 0=some (.inl okv))∧(l.all p=false→∃ k:Nat,F n 0=some (.inr (bad (k:Int)))):=by
  have key:=Aa6 (F:=fun n (_:Unit) i=>F n i) (l:=l) (N:=N) (T:=fun s i a=>bif p a then .inl s else .inr (.inr (bad (i:Int)))) (E:=fun _=>.inl okv)
    (B:=fun n _ i v0=>G n i v0) (fun _ _=>True) (fun n _ i=>hF n i) (fun n s i hi hN _=>by
      rw [hG n i hi hN]
      cases p l[i]
      · rfl
      · exact⟨rfl,trivial⟩) hl l.length () 0 n (by simp) (by omega) trivial
  rw [show((0:Nat):Int)=0 from rfl,List.drop_zero] at key
  obtain⟨h1,h2⟩:=Ab8 (R:=A ⊕ B) p (fun i=>.inr (bad (i:Int))) (.inl okv) l 0
  exact⟨fun h=>by rw [key,h1 h],fun h=>by obtain⟨k,hk⟩:=h2 h; exact⟨k,by rw [key,hk]⟩⟩
def R6 (lists:List (List Ac)):Int:=if 6<lists.length then 3 else bif lists.all (fun l=>decide (l.length≤60)) then(bif lists.all (fun l=>l.all BV) then 0 else 1) else 3
theorem AeD (lists:List (List Ac)):R6 lists=0∨R6 lists=1∨R6 lists=3:=by
  unfold R6
  split
  · simp
  · cases lists.all (fun l=>decide (l.length≤60)) <;> cases lists.all (fun l=>l.all BV) <;> simp
theorem ZW {n:Nat} {l:List Ac} (hk:∀ r∈l,ZV r) (hl:l.length≤1000) (h:l.length<n) :
    (l.all BV=true→Bt n l (l.length:Int) 0=some (.inl ((((),()),()),())))∧(l.all BV=false→∃ k:Nat,Bt n l (l.length:Int) 0=some (.inr ((((),()),()),((k:Int),())))):=Ol (F:=fun n i=>Bt n l (l.length:Int) i) (G:=fun n i v0=>(C8 n v0).bind fun v1=>bif !v1.fst then(some (.inr ((((),()),()),(i,())))) else Bt n l (l.length:Int) (IntKind.i64.wrap (i+1))) l BV ((((),()),()),()) (fun i=>((((),()),()),(i,()))) 0 (by omega) (fun _ _=>rfl) (fun n i hi _=>by
    rw [AgG n _ (hk _ (List.getElem_mem hi))]
    cases BV l[i] <;> rfl) (n:=n) (by omega)
theorem ZX {n:Nat} {lists:List (List Ac)} (hl:lists.length≤1000) (h:lists.length<n) :
    (lists.all (fun l=>decide (l.length≤60))=true→BG n lists (lists.length:Int) 0=some (.inl ((((),()),()),())))∧(lists.all (fun l=>decide (l.length≤60))=false→∃ k:Nat,BG n lists (lists.length:Int) 0=some (.inr ((((),()),()),((k:Int),())))):=Ol (F:=fun n i=>BG n lists (lists.length:Int) i) (G:=fun n i v0=>bif !decide ((v0.length:Int)≤60) then(some (.inr ((((),()),()),(i,())))) else BG n lists (lists.length:Int) (IntKind.i64.wrap (i+1))) lists (fun l=>decide (l.length≤60)) ((((),()),()),()) (fun i=>((((),()),()),(i,()))) 0 (by omega) (fun _ _=>rfl) (fun n i hi _=>by
    have:decide ((lists[i].length:Int)≤60)=decide (lists[i].length≤60):=by
      by_cases h:lists[i].length≤60
      · rw [decide_eq_true h]; exact decide_eq_true (by omega)
      · rw [decide_eq_false h]; exact decide_eq_false (by omega)
    rw [this]
    cases decide (lists[i].length≤60) <;> rfl) (n:=n) (by omega)
theorem ZY {n:Nat} {lists:List (List Ac)} (hk:∀ l∈lists,∀ r∈l,ZV r) (hl:lists.length≤1000) (hl2:∀ l∈lists,l.length≤1000) (h:1001+lists.length<n) :
    (lists.all (fun l=>l.all BV)=true→AS n lists (lists.length:Int) 0=some (.inl ((((),()),()),())))∧(lists.all (fun l=>l.all BV)=false→∃ k:Nat,AS n lists (lists.length:Int) 0=some (.inr ((((),()),()),((k:Int),())))):=Ol (F:=fun n i=>AS n lists (lists.length:Int) i) (G:=fun n i v0=>(Bt n v0 (v0.length:Int) 0).bind fun v1=>Sum.elim (fun v2=>AS n lists (lists.length:Int) (IntKind.i64.wrap (i+1))) (fun v2=>bif !!decide (v2.snd.fst≥0) then(some (.inr ((((),()),()),(i,())))) else AS n lists (lists.length:Int) (IntKind.i64.wrap (i+1))) (v1)) lists (fun l=>l.all BV) ((((),()),()),()) (fun i=>((((),()),()),(i,()))) 1001 (by omega) (fun _ _=>rfl) (fun n i hi hn=>by
    obtain⟨h1,h2⟩:=ZW (n:=n) (l:=lists[i]) (hk _ (List.getElem_mem hi)) (hl2 _ (List.getElem_mem hi)) (by have:=hl2 _ (List.getElem_mem hi); omega)
    cases ha:lists[i].all BV with
    | true=>rw [h1 ha]; rfl
    | false =>
      obtain⟨k,hk⟩:=h2 ha
      rw [hk]
      simp only [Option.bind_some,Sum.elim_inr]
      rw [show decide ((k:Int)≥0)=true by simp]
      rfl) (n:=n) (by omega)
theorem AeE {n:Nat} {lists:List (List Ac)} (hk:∀ l∈lists,∀ r∈l,ZV r) (hl:lists.length≤1000) (hl2:∀ l∈lists,l.length≤1000) (h:1001+lists.length<n):I6 n lists=some (R6 lists,()):=by
  unfold I6 R6
  by_cases h6:6<lists.length
  · rw [show decide ((lists.length:Int)>6)=true by simp; omega,if_pos h6]; rfl
  · rw [show decide ((lists.length:Int)>6)=false by simp; omega,if_neg h6,Bool.not_false,cond_true]
    obtain⟨a1,a2⟩:=ZX (n:=n) (lists:=lists) hl (by omega)
    obtain⟨b1,b2⟩:=ZY (n:=n) hk hl hl2 h
    cases ha:lists.all (fun l=>decide (l.length≤60)) with
    | false =>
      obtain⟨k,hk⟩:=a2 ha
      rw [hk]
      simp only [Option.bind_some,Sum.elim_inr]
      rw [show decide ((k:Int)≥0)=true by simp]
      rfl
    | true =>
      rw [a1 ha]
      simp only [Option.bind_some,Sum.elim_inl]
      cases hb:lists.all (fun l=>l.all BV) with
      | false =>
        obtain⟨k,hk⟩:=b2 hb
        rw [hk]
        simp only [Option.bind_some,Sum.elim_inr]
        rw [show decide ((k:Int)≥0)=true by simp]
        rfl
      | true=>rw [b1 hb]; rfl
end Go.Proofs.YtkpgggfibljflaaGreatDoor
namespace Go.Proofs.YtkpgggfibljflaaGreatDoor
open Go Go.RowKit Go.Proofs
def Su:List (List Ac)→Nat
  | []=>0
  | l::r=>l.length+Su r
theorem AfQ:∀ (r:List (List Ac)),(∀ l∈r,l.length≤1000)→Su r≤r.length*1000
  | [],_=>by simp [Su]
  | l::r,h=>by
    have h1:=AfQ r fun x hx=>h x (by simp [hx])
    have h2:=h l (by simp)
    simp only [Su,List.length_cons]
    omega
theorem AcS:∀ (r:List (List Ac)),r.flatten.length=Su r
  | []=>rfl
  | l::r=>by simp [Su,AcS r]
theorem T3 (full:List (List Ac)) (hl:full.length≤1000) (hl2:∀ l∈full,l.length≤1000):∀ (n i s:Nat),full.length-i<n→i≤full.length→s≤i*1000→Ld n full (s:Int) full (full.length:Int) (i:Int)=some (full,(((s+Su (full.drop i):Nat):Int),()))
  | 0,_,_,h,_,_=>absurd h (Nat.not_lt_zero _)
  | n+1,i,s,h,hi,hs=>by
    rw [Ld]
    by_cases hx:i<full.length
    · have hd:full.drop i=full[i]::full.drop (i+1):=List.drop_eq_getElem_cons hx
      have h2:=hl2 _ (List.getElem_mem hx)
      have e:IntKind.i64.wrap ((s:Int)+(full[i].length:Int))=((s+full[i].length:Nat):Int):=by rw [P7 (by omega) (by omega)]; omega
      rw [show decide ((i:Int)<(full.length:Int))=true by simp; omega,cond_true,Ft hx,Option.bind_some,e,show decide (((s+full[i].length:Nat):Int)<0)=false from decide_eq_false (by omega),cond_false,wN i (by omega),T3 full hl hl2 n (i+1) _ (by omega) (by omega) (by omega),hd]
      simp only [Su]
      rw [Nat.add_assoc]
    · have hd:full.drop i=[]:=by simp; omega
      rw [show decide ((i:Int)<(full.length:Int))=false by simp; omega,hd]
      simp [Su]
theorem T4 (full:List (List Ac)) (hl:full.length≤1000) (hl2:∀ l∈full,l.length≤1000):∀ (n i:Nat)(acc:List Ac),full.length-i<n→i≤full.length→acc.length≤i*1000→Le n acc full (full.length:Int) (i:Int)=some (acc++(full.drop i).flatten,())
  | 0,_,_,h,_,_=>absurd h (Nat.not_lt_zero _)
  | n+1,i,acc,h,hi,hs=>by
    rw [Le]
    by_cases hx:i<full.length
    · have hd:full.drop i=full[i]::full.drop (i+1):=List.drop_eq_getElem_cons hx
      have h2:=hl2 _ (List.getElem_mem hx)
      rw [show decide ((i:Int)<(full.length:Int))=true by simp; omega,cond_true,Ft hx,Option.bind_some,B8 (by omega),Option.bind_some,wN i (by omega),T4 full hl hl2 n (i+1) _ (by omega) (by omega) (by simp; omega),hd,List.flatten_cons,List.append_assoc]
    · have hd:full.drop i=[]:=by simp; omega
      rw [show decide ((i:Int)<(full.length:Int))=false by simp; omega,hd]
      simp
theorem AgH {n:Nat} {lists:List (List Ac)} (hl:lists.length≤1000) (hl2:∀ l∈lists,l.length≤1000) (h:lists.length<n):X2 n lists=some (lists.flatten,()):=by
  unfold X2
  have h1:=T3 lists hl hl2 n 0 0 (by omega) (by omega) (by omega)
  have h2:=T4 lists hl hl2 n 0 [] (by omega) (by omega) (by simp)
  have h3:=AfQ lists hl2
  rw [show((0:Nat):Int)=0 from rfl] at h1 h2
  rw [List.drop_zero,Nat.zero_add] at h1
  rw [List.drop_zero,List.nil_append] at h2
  rw [h1]
  simp only [Option.bind_some]
  rw [show(decide ((0:Int)≤((Su lists:Nat):Int)) && decide (((Su lists:Nat):Int)≤1000000000))=true by simp; omega,cond_true,Option.bind_some,h2]
  rfl
def zR:Ac:=Ac.mk 0 0 0 (IK.mk 0) 0 0
def BW (r:Ac):JE:=JE.mk r.machine r.seq
def ZO:List (JE×Ac)→List Ac→List Ac→Option (List Ac)
  | _,o,[]=>some o
  | m,o,r::l=>bif EM AB m (BW r) then(bif D3 (Ba AB m (BW r) zR) r then ZO m o l else none) else ZO (Ip AB m (BW r) r) (o++[r]) l
theorem T5 (full:List Ac) (hl:full.length≤1000000):∀ (n i:Nat)(m:List (JE×Ac))(o:List Ac),full.length-i<n→i≤full.length→o.length≤i→match ZO m o (full.drop i) with
    | some o'=>∃ m',Bm n m o full (full.length:Int) (i:Int)=some (.inl (m',(o',())))
    | none=>∃ m',Bm n m o full (full.length:Int) (i:Int)=some (.inr (m',([],(6,()))))
  | 0,_,_,_,h,_,_=>absurd h (Nat.not_lt_zero _)
  | n+1,i,m,o,h,hi,ho=>by
    rw [Bm]
    by_cases hx:i<full.length
    · have hd:full.drop i=full[i]::full.drop (i+1):=List.drop_eq_getElem_cons hx
      rw [show decide ((i:Int)<(full.length:Int))=true by simp; omega,cond_true,Ft hx,Option.bind_some,hd,wN i (by omega)]
      have ih:=fun m o=>T5 full hl n (i+1) m o (by omega) (by omega)
      have happ:app o [full[i]]=some (o++[full[i]]):=B8 (by simp; omega)
      unfold ZO
      change match (bif EM AB m (BW full[i]) then(bif D3 (Ba AB m (BW full[i]) zR) full[i] then ZO m o (full.drop (i+1)) else none) else ZO (Ip AB m (BW full[i]) full[i]) (o++[full[i]]) (full.drop (i+1))) with
        | some o'=>∃ m',(bif EM AB m (BW full[i]) then(bif !D3 (Ba AB m (BW full[i]) zR) full[i] then _ else(bif !EM AB m (BW full[i]) then _ else _)) else(bif !EM AB m (BW full[i]) then _ else _))=_
        | none=>∃ m',(bif EM AB m (BW full[i]) then(bif !D3 (Ba AB m (BW full[i]) zR) full[i] then _ else(bif !EM AB m (BW full[i]) then _ else _)) else(bif !EM AB m (BW full[i]) then _ else _))=_
      cases hm:EM AB m (BW full[i]) with
      | true =>
        cases D3 (Ba AB m (BW full[i]) zR) full[i] with
        | true =>
          simp only [cond_true,Bool.not_true,cond_false]
          exact ih m o (by omega)
        | false=>exact⟨m,rfl⟩
      | false =>
        simp only [cond_true,Bool.not_false,cond_false]
        rw [happ]
        simp only [Option.bind_some]
        exact ih _ _ (by simp; omega)
    · have hd:full.drop i=[]:=by simp; omega
      rw [show decide ((i:Int)<(full.length:Int))=false by simp; omega,hd]
      exact⟨m,rfl⟩
def Aiq (a b:Ac):Bool:=decide (a.machine=b.machine) && decide (a.minute>b.minute)
def Sv:List Ac→Bool
  | a::b::r=>!Aiq a b && Sv (b::r)
  | _=>true
theorem T6 (full:List Ac) (hl:full.length≤1000000):∀ (n i:Nat),full.length-i<n→i≤full.length→BY n full (full.length:Int) (i:Int)=some (bif Sv (full.drop (i-1)) then .inl (full,()) else .inr ([],(6,())))
  | 0,_,h,_=>absurd h (Nat.not_lt_zero _)
  | n+1,i,h,hi=>by
    rw [BY]
    by_cases hx:i<full.length
    · rw [show decide ((i:Int)<(full.length:Int))=true by simp; omega,cond_true,Ft hx,Option.bind_some,show((i:Nat):Int).toNat=i from rfl,AcH hx,Option.bind_some,wN i (by omega)]
      have ih:=T6 full hl n (i+1) (by omega) (by omega)
      rw [show i+1-1=i by omega] at ih
      by_cases h0:i=0
      · subst h0
        rw [show decide (((0:Nat):Int)>0)=false from rfl,cond_false,ih]
      · have hx1:i-1<full.length:=by omega
        have e:IntKind.i64.wrap ((i:Int)-1)=((i-1:Nat):Int):=by rw [P7 (by omega) (by omega)]; omega
        rw [show decide ((i:Int)>0)=true from decide_eq_true (by omega),cond_true,e,Ft hx1,Option.bind_some,show((i-1:Nat):Int).toNat=i-1 from rfl,AcH hx1,Option.bind_some]
        simp only [Option.bind_some]
        have hd:full.drop (i-1)=full[i-1]::full[i]::full.drop (i+1):=by
          rw [List.drop_eq_getElem_cons hx1,show i-1+1=i by omega,List.drop_eq_getElem_cons hx]
        have hd2:full.drop i=full[i]::full.drop (i+1):=List.drop_eq_getElem_cons hx
        rw [hd2] at ih
        rw [hd,ih]
        simp only [Sv,Aiq]
        cases decide (full[i-1].machine=full[i].machine) <;> cases decide (full[i-1].minute>full[i].minute) <;> simp
    · have hi':i=full.length:=by omega
      rw [show decide ((i:Int)<(full.length:Int))=false by simp; omega,cond_false]
      have:Sv (full.drop (i-1))=true:=by
        rcases Nat.eq_zero_or_pos full.length with h0 | h0
        · have:full=[]:=List.length_eq_zero_iff.1 h0
          subst this
          simp [Sv]
        · have hx1:i-1<full.length:=by omega
          rw [List.drop_eq_getElem_cons hx1,show i-1+1=full.length by omega,List.drop_length]
          rfl
      rw [this]; rfl
theorem AaB {α:Type} (eq:α→α→Bool) (x:α):∀ l,Ek eq (l++[x])=(Ek eq l && !l.any (fun a=>eq a x))
  | []=>by simp [Ek]
  | y::r=>by
    rw [List.cons_append,Ek,Ek,AaB eq x r,List.any_append,List.any_cons]
    simp only [List.any_cons,List.any_nil,Bool.or_false]
    cases r.any (eq y) <;> cases eq y x <;> cases Ek eq r <;> cases r.any (fun a=>eq a x) <;> rfl
def Amn (a b:Ac):Bool:=a.machine == b.machine && a.seq == b.seq
theorem Akw {a b:Ac}:Amn a b=true↔BW a=BW b:=by simp [Amn,BW]
theorem XA:∀ (l:List Ac)(m:List (JE×Ac))(o o':List Ac),ZO m o l=some o'→(∀ a∈o,EM AB m (BW a)=true)→Ek Amn o=true→Ek Amn o' = true
  | [],m,o,o',h,_,hd=>by cases h; exact hd
  | r::l,m,o,o',h,hm,hd=>by
    unfold ZO at h
    cases hr:EM AB m (BW r) with
    | true =>
      rw [hr,cond_true] at h
      cases hs:D3 (Ba AB m (BW r) zR) r with
      | true=>rw [hs,cond_true] at h; exact XA l m o o' h hm hd
      | false=>rw [hs] at h; cases h
    | false =>
      rw [hr,cond_false] at h
      refine XA l _ _ o' h (fun a ha=>?_) ?_
      · rw [US KN]
        rcases List.mem_append.1 ha with ha | ha
        · exact .inr (hm a ha)
        · rw [List.mem_singleton.1 ha]; exact .inl rfl
      · rw [AaB,hd,Bool.true_and]
        have:o.any (fun a=>Amn a r)=false:=by
          rw [List.any_eq_false]
          intro a ha he
          have:=hm a ha
          rw [Akw.1 he,hr] at this; cases this
        rw [this]; rfl
theorem Ab9:∀ (l:List Ac)(m:List (JE×Ac))(o o':List Ac),ZO m o l=some o'→∀ a∈o',a∈o∨a∈l
  | [],m,o,o',h=>by cases h; exact fun a ha=>.inl ha
  | r::l,m,o,o',h=>by
    unfold ZO at h
    cases hr:EM AB m (BW r) with
    | true =>
      rw [hr,cond_true] at h
      cases hs:D3 (Ba AB m (BW r) zR) r with
      | true =>
        rw [hs,cond_true] at h
        intro a ha
        rcases Ab9 l m o o' h a ha with h' | h'
        · exact .inl h'
        · exact .inr (by simp [h'])
      | false=>rw [hs] at h; cases h
    | false =>
      rw [hr,cond_false] at h
      intro a ha
      rcases Ab9 l _ _ o' h a ha with h' | h'
      · rcases List.mem_append.1 h' with h' | h'
        · exact .inl h'
        · exact .inr (by rw [List.mem_singleton.1 h']; simp)
      · exact .inr (by simp [h'])
theorem AbA:∀ (l:List Ac)(m:List (JE×Ac))(o o':List Ac),ZO m o l=some o'→o'.length≤o.length+l.length
  | [],m,o,o',h=>by cases h; simp
  | r::l,m,o,o',h=>by
    unfold ZO at h
    cases hr:EM AB m (BW r) with
    | true =>
      rw [hr,cond_true] at h
      cases hs:D3 (Ba AB m (BW r) zR) r with
      | true =>
        rw [hs,cond_true] at h
        have:=AbA l m o o' h
        simp; omega
      | false=>rw [hs] at h; cases h
    | false =>
      rw [hr,cond_false] at h
      have:=AbA l _ _ o' h
      simp at this ⊢; omega
theorem T7 {α:Type}:∀ (l:List α),B6 l=l.length
  | []=>rfl
  | a::l=>by simp [B6,T7 l]
theorem Akx {o:List Ac} (hl:o.length≤1000000) (hr:∀ a∈o,BV a=true) (hd:Ek Amn o=true):Ah5 o=some (GV PS o):=by
  unfold Ah5
  have h1:Nat.blt (B6 o) 4611686018427387904=true:=by rw [T7]; exact Nat.ble_eq_true_of_le (by omega)
  have h2:o.all (fun a=>Acx a.machine && Acx a.seq)=true:=by
    rw [List.all_eq_true]
    intro a ha
    have:=hr a ha
    unfold BV at this
    simp only [Bool.and_eq_true,Nm] at this
    simp [Acx]; omega
  have h3:Ek (fun a b:Ac=>a.machine == b.machine && a.seq == b.seq) o=true:=hd
  rw [h1,h2,h3]; rfl
def Kt (lists:List (List Ac)):Int ⊕ List Ac :=
  if R6 lists≠0 then .inl (R6 lists) else match ZO [] [] lists.flatten with
    | none=>.inl 6
    | some o=>bif Sv (GV PS o) then .inr (GV PS o) else .inl 6
theorem AcT {lists:List (List Ac)} {e:Int} (h:Kt lists=.inl e):e=1∨e=3∨e=6:=by
  unfold Kt at h
  have:=AeD lists
  split at h
  · cases h; omega
  · split at h
    · cases h; simp
    · rename_i o _
      cases ho:Sv (GV PS o) with
      | true=>rw [ho] at h; cases h
      | false=>rw [ho] at h; cases h; simp
theorem AgI {lists:List (List Ac)} (h:R6 lists=0):lists.length≤6∧(∀ l∈lists,l.length≤60)∧∀ l∈lists,∀ r∈l,BV r=true:=by
  unfold R6 at h
  split at h
  · omega
  · rename_i h6
    cases ha:lists.all (fun l=>decide (l.length≤60)) with
    | false=>rw [ha] at h; simp at h
    | true =>
      rw [ha,cond_true] at h
      cases hb:lists.all (fun l=>l.all BV) with
      | false=>rw [hb] at h; simp at h
      | true=>exact⟨by omega,fun l hl=>by simpa using List.all_eq_true.1 ha l hl,fun l hl=>List.all_eq_true.1 (List.all_eq_true.1 hb l hl)⟩
theorem AaC {n:Nat} {lists:List (List Ac)} (hk:∀ l∈lists,∀ r∈l,ZV r) (hl:lists.length≤1000) (hl2:∀ l∈lists,l.length≤1000) (h:1001+lists.length<n):F8 n lists=some (match Kt lists with | .inl e=>([],(e,())) | .inr s=>(s,(0,()))):=by
  unfold F8 Kt
  rw [AeE hk hl hl2 h,Option.bind_some]
  simp only
  by_cases hc:R6 lists=0
  · rw [hc,show((0:Int) != 0)=false from rfl,cond_false,if_neg (by simp)]
    obtain⟨h6,h60,hR⟩:=AgI hc
    have hs:Su lists≤360:=by
      have H:∀ (r:List (List Ac)),(∀ l∈r,l.length≤60)→Su r≤r.length*60:=by
        intro r
        induction r with
        | nil=>intro _; simp [Su]
        | cons l r ih =>
          intro h
          have h1:=ih fun x hx=>h x (by simp [hx])
          have h2:=h l (by simp)
          simp only [Su,List.length_cons]
          omega
      have:=H lists h60
      omega
    have hfl:=AcS lists
    rw [AgH hl hl2 (by omega),Option.bind_some]
    simp only
    have h1:=T5 lists.flatten (by omega) n 0 [] [] (by omega) (by omega) (by simp)
    rw [show((0:Nat):Int)=0 from rfl,List.drop_zero] at h1
    cases hm:ZO [] [] lists.flatten with
    | none =>
      rw [hm] at h1
      obtain⟨m',e⟩:=h1
      rw [e]; rfl
    | some o =>
      rw [hm] at h1
      obtain⟨m',e⟩:=h1
      have hol:o.length≤360:=by
        have:=AbA _ _ _ _ hm
        rw [List.length_nil,Nat.zero_add] at this
        omega
      have hod:=XA _ _ _ _ hm (by simp) rfl
      have hos:=Ab9 _ _ _ _ hm
      have hor:∀ a∈o,BV a=true:=fun a ha=>by
        rcases hos a ha with h' | h'
        · simp at h'
        · obtain⟨l,hl1,hl2⟩:=List.mem_flatten.1 h'
          exact hR l hl1 a hl2
      have hsl:(GV PS o).length=o.length:=Nn _ _
      have h2:=T6 (GV PS o) (by omega) n 0 (by omega) (by omega)
      rw [show((0:Nat):Int)=0 from rfl,List.drop_zero] at h2
      rw [e]
      simp only [Option.bind_some,Sum.elim_inl]
      rw [Akx (by omega) hor hod]
      simp only [Option.bind_some]
      rw [h2]
      cases Sv (GV PS o) <;> rfl
  · rw [show(R6 lists != 0)=true by simpa using hc,cond_true,if_pos hc]
def JQ (lists:List (List Ac)):Int:=match Kt lists with
  | .inl e=>e
  | .inr s=>if 60<s.length then 3 else 0
theorem Air {n:Nat} {lists:List (List Ac)} (hk:∀ l∈lists,∀ r∈l,ZV r) (hl:lists.length≤1000) (hl2:∀ l∈lists,l.length≤1000) (h:1001+lists.length<n):∃ x,K4 n lists=some (x,(JQ lists,())):=by
  unfold K4 JQ
  rw [AaC hk hl hl2 h,Option.bind_some]
  cases hm:Kt lists with
  | inl e =>
    have:=AcT hm
    simp only
    rw [show(e != 0)=true by simp; omega]
    exact⟨_,rfl⟩
  | inr s =>
    simp only
    rw [show((0:Int) != 0)=false from rfl,cond_false]
    by_cases h60:60<s.length
    · rw [show decide ((s.length:Int)>60)=true from decide_eq_true (by omega),if_pos h60]; exact⟨_,rfl⟩
    · rw [show decide ((s.length:Int)>60)=false from decide_eq_false (by omega),if_neg h60]; exact⟨_,rfl⟩
end Go.Proofs.YtkpgggfibljflaaGreatDoor
namespace Go.Proofs.YtkpgggfibljflaaGreatDoor
open Go Go.RowKit Go.Proofs
def wkOk (w:AD):Prop:=w.days=7∧w.rest=600∧w.run=5∧w.hours=3000∧w.duties.length≤13∧w.drivers.length≤7∧∀ d∈w.drivers,∃ k off,d=AR.mk [k] [] [] off 0 0
def Wa (d:Bu):Bool:=Ib d.day 0 6 && (Ib d.on 0 1439 && (decide (d.on≤d.off.lo) && (decide (d.off.lo≤d.off.hi) && (decide (d.off.hi≤d.on+1440) && Ib d.route 0 15))))
def AcU (d:AR):Bool:=(d.knows.all fun k=>Ib k 0 15) && Ib d.off (-10080) 1440
theorem Aky (n:Nat) (w:AD) (d:Bu) (hw:w.days=7):DK n w d=some (Wa d,()):=by
  unfold DK Wa Ib
  rw [hw,show IntKind.i64.wrap (7-1)=6 from rfl]
  cases decide (0≤d.day) with
  | false=>rfl
  | true =>
  cases decide (d.day≤6) with
  | false=>rfl
  | true =>
  by_cases h0:0≤d.on
  · by_cases h1:d.on≤1439
    · rw [decide_eq_true h0,decide_eq_true h1,P7 (x:=d.on+1440) (by omega) (by omega)]
      cases decide (d.on≤d.off.lo) <;> cases decide (d.off.lo≤d.off.hi) <;> cases decide (d.off.hi≤d.on+1440) <;> cases decide (0≤d.route) <;> simp
    · rw [decide_eq_true h0,decide_eq_false h1]; rfl
  · rw [decide_eq_false h0]; rfl
theorem AgJ (n:Nat) (k lo hi:Int):F9 (n+2) [k] lo hi=some (Ib k lo hi,()):=by
  show((bif decide (lo≤k) then(bif !!decide (k≤hi) then _ else some (.inr (false,()))) else some (.inr (false,()))):Option (Unit ⊕ ((Bool×Unit)))).bind _=_
  unfold Ib
  cases decide (lo≤k) <;> cases decide (k≤hi) <;> rfl
theorem AgK (n:Nat) (lo hi:Int):F9 (n+1) [] lo hi=some (true,()):=rfl
theorem AgL (n:Nat) (w:AD) (d:AR) (hw:w.days=7) (hh:w.hours=3000) (hd:∃ k off,d=AR.mk [k] [] [] off 0 0):CC (n+2) w d=some (AcU d,()):=by
  obtain⟨k,off,rfl⟩:=hd
  unfold CC AcU
  rw [hw,hh,AgJ]
  simp only [Option.bind_some,AgK]
  simp only [List.all_cons,List.all_nil,Bool.and_true]
  unfold Ib
  cases (decide (0≤k) && decide (k≤15)) <;> cases decide (-10080≤off) <;> cases decide (off≤1440) <;> rfl
def GO (w:AD):Int:=if 12<w.duties.length then 3 else if 6<w.drivers.length then 3 else bif w.duties.all Wa then(bif w.drivers.all AcU then 0 else 1) else 1
theorem AeF {n:Nat} {w:AD} (hw:wkOk w) (h:20<n) :
    (w.duties.all Wa=true→AU n w.duties w (w.duties.length:Int) 0=some (.inl ((((w,()),()),()),())))∧(w.duties.all Wa=false→∃ k:Nat,AU n w.duties w (w.duties.length:Int) 0=some (.inr ((((w,()),()),()),((k:Int),())))) :=
  Ol (F:=fun n i=>AU n w.duties w (w.duties.length:Int) i) (G:=fun n i v0=>(DK n w v0).bind fun v1=>bif !v1.fst then(some (.inr ((((w,()),()),()),(i,())))) else AU n w.duties w (w.duties.length:Int) (IntKind.i64.wrap (i+1))) w.duties Wa ((((w,()),()),()),()) (fun i=>((((w,()),()),()),(i,()))) 0 (by have:=hw.2.2.2.2.1; omega) (fun _ _=>rfl) (fun n i hi _=>by
    rw [Aky n w _ hw.1]
    cases Wa w.duties[i] <;> rfl) (n:=n) (by have:=hw.2.2.2.2.1; omega)
theorem AeG {n:Nat} {w:AD} (hw:wkOk w) (h:20<n) :
    (w.drivers.all AcU=true→AV n w.drivers w (w.drivers.length:Int) 0=some (.inl ((((w,()),()),()),())))∧(w.drivers.all AcU=false→∃ k:Nat,AV n w.drivers w (w.drivers.length:Int) 0=some (.inr ((((w,()),()),()),((k:Int),())))) :=
  Ol (F:=fun n i=>AV n w.drivers w (w.drivers.length:Int) i) (G:=fun n i v0=>(CC n w v0).bind fun v1=>bif !v1.fst then(some (.inr ((((w,()),()),()),(i,())))) else AV n w.drivers w (w.drivers.length:Int) (IntKind.i64.wrap (i+1))) w.drivers AcU ((((w,()),()),()),()) (fun i=>((((w,()),()),()),(i,()))) 2 (by have:=hw.2.2.2.2.2.1; omega) (fun _ _=>rfl) (fun n i hi hn=>by
    obtain⟨m,rfl⟩:∃ m,n=m+2:=⟨n-2,by omega⟩
    rw [AgL m w _ hw.1 hw.2.2.2.1 (hw.2.2.2.2.2.2 _ (List.getElem_mem hi))]
    cases AcU w.drivers[i] <;> rfl) (n:=n) (by have:=hw.2.2.2.2.2.1; omega)
theorem Om {n:Nat} {w:AD} (hw:wkOk w) (h:20<n):Cw n w=some (GO w,()):=by
  unfold Cw GO
  have hw':=hw
  obtain⟨h1,h2,h3,h4,_⟩:=hw'
  rw [h1,h2,h3,h4]
  by_cases h12:12<w.duties.length
  · rw [show decide ((w.duties.length:Int)>12)=true from decide_eq_true (by omega),if_pos h12]; rfl
  · rw [show decide ((w.duties.length:Int)>12)=false from decide_eq_false (by omega),if_neg h12]
    by_cases h6:6<w.drivers.length
    · rw [show decide ((w.drivers.length:Int)>6)=true from decide_eq_true (by omega),if_pos h6]; rfl
    · rw [show decide ((w.drivers.length:Int)>6)=false from decide_eq_false (by omega),if_neg h6]
      obtain⟨a1,a2⟩:=AeF hw h
      obtain⟨b1,b2⟩:=AeG hw h
      show(AU n w.duties w (w.duties.length:Int) 0).bind _=_
      cases ha:w.duties.all Wa with
      | false =>
        obtain⟨k,hk⟩:=a2 ha
        rw [hk]
        simp only [Option.bind_some,Sum.elim_inr]
        rw [show decide ((k:Int)≥0)=true by simp]
        rfl
      | true =>
        rw [a1 ha]
        simp only [Option.bind_some,Sum.elim_inl]
        cases hb:w.drivers.all AcU with
        | false =>
          obtain⟨k,hk⟩:=b2 hb
          rw [hk]
          simp only [Option.bind_some,Sum.elim_inr]
          rw [show decide ((k:Int)≥0)=true by simp]
          rfl
        | true=>rw [b1 hb]; rfl
end Go.Proofs.YtkpgggfibljflaaGreatDoor
namespace Go.Proofs.YtkpgggfibljflaaGreatDoor
open Go Go.RowKit Go.Proofs
abbrev AbB (x:Int):Int:=IntKind.i64.wrap x
def ZP:At:=At.mk 0 0 0 0
def AaD (s:At) (d:Bu) (e:Int):At :=
  bif decide (s.day=d.day) then At.mk s.free s.row (AbB (s.used+AbB (e-d.on))) s.day else
  bif s.day != AbB (d.day-1) then At.mk (AbB (AbB (d.day*1440)+e)) (AbB (0+1)) (AbB (s.used+AbB (e-d.on))) d.day else
  At.mk (AbB (AbB (d.day*1440)+e)) (AbB (s.row+1)) (AbB (s.used+AbB (e-d.on))) d.day
theorem AfR (n:Nat) (s:At) (d:Bu) (e:Int):Dj n s d e=some (AaD s d e,()):=by
  unfold Dj AaD
  cases decide (s.day=d.day)
  · cases s.day != IntKind.i64.wrap (d.day-1) <;> rfl
  · rfl
def R7 (w:AD) (k:Int) (d:Bu) (s:At):Nat→Bool
  | 0=>match AO w.drivers k with
    | some v=>v.knows.any fun x=>decide (d.route=x)
    | none=>true
  | 1=>true
  | 2=>s.day != d.day
  | 3=>bif !decide (s.day=d.day) then decide (AbB (AbB (AbB (d.day*1440)+d.on)-s.free)≥w.rest) else true
  | _=>bif !decide (s.day=d.day) then decide ((AaD s d d.on).row≤w.run) else true
theorem Ais {n:Nat} {w:AD} {k:Int} {d:Bu} {s:At} {v:AR} (hv:AO w.drivers k=some v) (hk:∃ x off,v=AR.mk [x] [] [] off 0 0):Di (n+2) w k d s=some (R7 w k d s 0,()):=by
  obtain⟨x,off,rfl⟩:=hk
  unfold Di R7
  rw [hv]
  show((bif decide (d.route=x) then some (.inr (0,())) else some (.inl ()):Option (Unit ⊕ (Int×Unit))).bind _)=_
  simp only [List.any_cons,List.any_nil,Bool.or_false]
  cases decide (d.route=x) <;> rfl
theorem Akz {n:Nat} {w:AD} {k:Int} {d:Bu} {s:At} {v:AR} (hv:AO w.drivers k=some v) (hk:∃ x off,v=AR.mk [x] [] [] off 0 0):DM (n+1) w k d s=some (R7 w k d s 1,()):=by
  obtain⟨x,off,rfl⟩:=hk
  unfold DM R7
  rw [hv]; rfl
theorem AgM {n:Nat} {w:AD} {k:Int} {d:Bu} {s:At}:E3 n w k d s=some (R7 w k d s 2,()):=rfl
theorem AgN {n:Nat} {w:AD} {k:Int} {d:Bu} {s:At}:CD n w k d s=some (R7 w k d s 3,()):=by
  unfold CD
  show _=some ((bif !decide (s.day=d.day) then decide (AbB (AbB (AbB (d.day*1440)+d.on)-s.free)≥w.rest) else true),())
  cases decide (s.day=d.day) <;> rfl
theorem Ait {n:Nat} {w:AD} {k:Int} {d:Bu} {s:At}:Dk n w k d s=some (R7 w k d s 4,()):=by
  unfold Dk
  show _=some ((bif !decide (s.day=d.day) then decide ((AaD s d d.on).row≤w.run) else true),())
  rw [AfR]
  cases decide (s.day=d.day) <;> rfl
def ZZ (w:AD) (k i:Int) (d:Bu) (s:At) (j:Nat):List Av:=bif R7 w k d s j then [] else [Av.mk (IK.mk (j:Int)) k i]
def Aaa (w:AD) (k i:Int) (d:Bu) (s:At):List Av:=ZZ w k i d s 0++(ZZ w k i d s 1++(ZZ w k i d s 2++(ZZ w k i d s 3++ZZ w k i d s 4)))
abbrev Aab:List AQ:=[AQ.mk (IK.mk 0) (Fp.mk (↑238:Int)),AQ.mk (IK.mk 1) (Fp.mk (↑239:Int)),AQ.mk (IK.mk 2) (Fp.mk (↑240:Int)),AQ.mk (IK.mk 3) (Fp.mk (↑241:Int)),AQ.mk (IK.mk 4) (Fp.mk (↑242:Int))]
section
variable {w:AD} {truth:List Int} {now:List At} {i k:Int} {d:Bu} {s:At} {v:AR}
theorem Amw {n:Nat} {out:List Av} (h6:now.length.beq 6=true) (hn:AO now k=some s) (hg:now.get?Internal k.toNat=some s) (hv:AO w.drivers k=some v) (hk:∃ x off,v=AR.mk [x] [] [] off 0 0) (ho:out.length≤1000) :
    Ae (n+3) w truth out now i d k Aab 5 0=Ae (n+2) w truth (out++ZZ w k i d s 0) now i d k Aab 5 1:=by
  rw [Ae]
  show(bif now.length.beq 6 then((AO now k).bind fun v2=>(now.get?Internal k.toNat).bind fun v3=>((Di (n+2) w k d v3).bind fun v4=>bif !v4.fst then((app out [Av.mk (IK.mk 0) k i]).bind fun v5=>Ae (n+2) w truth v5 now i d k Aab 5 1) else Ae (n+2) w truth out now i d k Aab 5 1)) else none)=_
  rw [h6,cond_true,hn,Option.bind_some,hg,Option.bind_some,Ais hv hk,Option.bind_some,B8 (by simp; omega)]
  unfold ZZ
  cases R7 w k d s 0 <;> simp
theorem Amx {n:Nat} {out:List Av} (h6:now.length.beq 6=true) (hn:AO now k=some s) (hg:now.get?Internal k.toNat=some s) (hv:AO w.drivers k=some v) (hk:∃ x off,v=AR.mk [x] [] [] off 0 0) (ho:out.length≤1000) :
    Ae (n+3) w truth out now i d k Aab 5 1=Ae (n+2) w truth (out++ZZ w k i d s 1) now i d k Aab 5 2:=by
  rw [Ae]
  show(bif now.length.beq 6 then((AO now k).bind fun v2=>(now.get?Internal k.toNat).bind fun v3=>((DM (n+2) w k d v3).bind fun v4=>bif !v4.fst then((app out [Av.mk (IK.mk 1) k i]).bind fun v5=>Ae (n+2) w truth v5 now i d k Aab 5 2) else Ae (n+2) w truth out now i d k Aab 5 2)) else none)=_
  rw [h6,cond_true,hn,Option.bind_some,hg,Option.bind_some,Akz hv hk,Option.bind_some,B8 (by simp; omega)]
  unfold ZZ
  cases R7 w k d s 1 <;> simp
theorem Amy {n:Nat} {out:List Av} (h6:now.length.beq 6=true) (hn:AO now k=some s) (hg:now.get?Internal k.toNat=some s) (hv:AO w.drivers k=some v) (hk:∃ x off,v=AR.mk [x] [] [] off 0 0) (ho:out.length≤1000) :
    Ae (n+3) w truth out now i d k Aab 5 2=Ae (n+2) w truth (out++ZZ w k i d s 2) now i d k Aab 5 3:=by
  rw [Ae]
  show(bif now.length.beq 6 then((AO now k).bind fun v2=>(now.get?Internal k.toNat).bind fun v3=>((E3 (n+2) w k d v3).bind fun v4=>bif !v4.fst then((app out [Av.mk (IK.mk 2) k i]).bind fun v5=>Ae (n+2) w truth v5 now i d k Aab 5 3) else Ae (n+2) w truth out now i d k Aab 5 3)) else none)=_
  rw [h6,cond_true,hn,Option.bind_some,hg,Option.bind_some,AgM,Option.bind_some,B8 (by simp; omega)]
  unfold ZZ
  cases R7 w k d s 2 <;> simp
theorem Amz {n:Nat} {out:List Av} (h6:now.length.beq 6=true) (hn:AO now k=some s) (hg:now.get?Internal k.toNat=some s) (hv:AO w.drivers k=some v) (hk:∃ x off,v=AR.mk [x] [] [] off 0 0) (ho:out.length≤1000) :
    Ae (n+3) w truth out now i d k Aab 5 3=Ae (n+2) w truth (out++ZZ w k i d s 3) now i d k Aab 5 4:=by
  rw [Ae]
  show(bif now.length.beq 6 then((AO now k).bind fun v2=>(now.get?Internal k.toNat).bind fun v3=>((CD (n+2) w k d v3).bind fun v4=>bif !v4.fst then((app out [Av.mk (IK.mk 3) k i]).bind fun v5=>Ae (n+2) w truth v5 now i d k Aab 5 4) else Ae (n+2) w truth out now i d k Aab 5 4)) else none)=_
  rw [h6,cond_true,hn,Option.bind_some,hg,Option.bind_some,AgN,Option.bind_some,B8 (by simp; omega)]
  unfold ZZ
  cases R7 w k d s 3 <;> simp
theorem Am0 {n:Nat} {out:List Av} (h6:now.length.beq 6=true) (hn:AO now k=some s) (hg:now.get?Internal k.toNat=some s) (hv:AO w.drivers k=some v) (hk:∃ x off,v=AR.mk [x] [] [] off 0 0) (ho:out.length≤1000) :
    Ae (n+3) w truth out now i d k Aab 5 4=Ae (n+2) w truth (out++ZZ w k i d s 4) now i d k Aab 5 5:=by
  rw [Ae]
  show(bif now.length.beq 6 then((AO now k).bind fun v2=>(now.get?Internal k.toNat).bind fun v3=>((Dk (n+2) w k d v3).bind fun v4=>bif !v4.fst then((app out [Av.mk (IK.mk 4) k i]).bind fun v5=>Ae (n+2) w truth v5 now i d k Aab 5 5) else Ae (n+2) w truth out now i d k Aab 5 5)) else none)=_
  rw [h6,cond_true,hn,Option.bind_some,hg,Option.bind_some,Ait,Option.bind_some,B8 (by simp; omega)]
  unfold ZZ
  cases R7 w k d s 4 <;> simp
theorem AfS (j:Nat):(ZZ w k i d s j).length≤1:=by
  unfold ZZ
  cases R7 w k d s j <;> simp
theorem Am1 {n:Nat} {out:List Av} (h6:now.length.beq 6=true) (hn:AO now k=some s) (hg:now.get?Internal k.toNat=some s) (hv:AO w.drivers k=some v) (hk:∃ x off,v=AR.mk [x] [] [] off 0 0) (ho:out.length≤900) :
    Ae (n+10) w truth out now i d k Aab 5 0=some (w,((truth,()),((out++Aaa w k i d s,()),(now,(d,((),((),(i,((),(k,())))))))))):=by
  have b:=fun j=>AfS (w:=w) (i:=i) (k:=k) (d:=d) (s:=s) j
  have b0:=b 0; have b1:=b 1; have b2:=b 2; have b3:=b 3
  rw [show n+10=(n+7)+3 by omega,Amw h6 hn hg hv hk (by omega),show n+7+2=(n+6)+3 by omega,Amx h6 hn hg hv hk (by simp; omega),show n+6+2=(n+5)+3 by omega,Amy h6 hn hg hv hk (by simp; omega),show n+5+2=(n+4)+3 by omega,Amz h6 hn hg hv hk (by simp; omega),show n+4+2=(n+3)+3 by omega,Am0 h6 hn hg hv hk (by simp; omega)]
  rw [Ae]
  simp only [Aaa,List.append_assoc]
  rfl
end
def Wb (w:AD) (roster:List Int) (day:Int) (st:List Av×List At) (i:Nat) (d:Bu):List Av×List At :=
  bif decide (d.day=day) then(bif decide (roster.getD i (-1)=-1) then st else
    (st.1++Aaa w (roster.getD i (-1)) (i:Int) d (st.2.getD (roster.getD i (-1)).toNat ZP),st.2.set (roster.getD i (-1)).toNat (AaD (st.2.getD (roster.getD i (-1)).toNat ZP) d d.off.hi))) else st
def T8 (w:AD) (roster:List Int) (day:Int):Nat→List Av×List At→List Bu→List Av×List At
  | _,st,[]=>st
  | i,st,d::r=>T8 w roster day (i+1) (Wb w roster day st i d) r
def Wc (w:AD) (roster:List Int):Prop:=roster.length=w.duties.length∧∀ x∈roster,-1≤x∧x<(w.drivers.length:Int)
theorem AcV (w:AD) (k i:Int) (d:Bu) (s:At):(Aaa w k i d s).length≤5:=by
  have b:=fun j=>AfS (w:=w) (i:=i) (k:=k) (d:=d) (s:=s) j
  have b0:=b 0; have b1:=b 1; have b2:=b 2; have b3:=b 3; have b4:=b 4
  simp only [Aaa,List.length_append]
  omega
theorem Alw {w:AD} {roster truth:List Int} (hw:wkOk w) (h6d:w.drivers.length≤6) (hro:Wc w roster) (htr:truth=w.duties.map fun d=>d.off.hi) (day:Int):∀ (n i:Nat)(st:List Av×List At),100+(w.duties.length-i)<n→i≤w.duties.length→st.1.length≤500+i*5→st.2.length=6 →
    AX n w roster truth st.1 st.2 day w.duties (w.duties.length:Int) (i:Int)=some (.inl ((w,((roster,()),((truth,()),(((T8 w roster day i st (w.duties.drop i)).1,()),((T8 w roster day i st (w.duties.drop i)).2,()))))),((),((),((),((),((),((day,()),()))))))))
  | 0,_,_,h,_,_,_=>absurd h (Nat.not_lt_zero _)
  | n+1,i,st,h,hi,ho,hs=>by
    have hwl:=hw.2.2.2.2.1
    rw [AX]
    by_cases hx:i<w.duties.length
    · have hd:w.duties.drop i=w.duties[i]::w.duties.drop (i+1):=List.drop_eq_getElem_cons hx
      have ih:=Alw hw h6d hro htr day n (i+1)
      rw [show decide ((i:Int)<(w.duties.length:Int))=true by simp; omega,cond_true,Ft hx,Option.bind_some,hd,wN i (by omega)]
      simp only [T8]
      generalize hst:Wb w roster day st i w.duties[i]=st'
      unfold Wb at hst
      cases hday:decide (w.duties[i].day=day) with
      | false =>
        rw [hday,cond_false] at hst
        subst hst
        exact ih st (by omega) (by omega) (by omega) hs
      | true =>
        rw [hday,cond_true] at hst
        have hxr:i<roster.length:=by rw [hro.1]; exact hx
        have hrg:roster.getD i (-1)=roster[i]:=by simp [List.getD,List.getElem?_eq_getElem hxr]
        rw [cond_true,Ft hxr,Option.bind_some]
        rw [hrg] at hst
        have hb:=hro.2 _ (List.getElem_mem hxr)
        generalize hk:roster[i]=k at *
        by_cases h1:k=-1
        · rw [decide_eq_true h1] at hst ⊢
          simp only [cond_true] at hst ⊢
          subst hst
          exact ih st (by omega) (by omega) (by omega) hs
        · rw [decide_eq_false h1] at hst ⊢
          simp only [cond_false] at hst ⊢
          obtain⟨j,rfl⟩:∃ j:Nat,k=j:=⟨k.toNat,by omega⟩
          have hj:j<w.drivers.length:=by omega
          have hj6:j<st.2.length:=by omega
          have hg:st.2.getD ((j:Int)).toNat ZP=st.2[j]:=by simp [List.getD,List.getElem?_eq_getElem hj6]
          rw [hg] at hst
          have h6:st.2.length.beq 6=true:=by rw [hs]; rfl
          obtain⟨m,rfl⟩:∃ m,n=m+10:=⟨n-10,by omega⟩
          have hl2:=Am1 (n:=m) (w:=w) (truth:=truth) (now:=st.2) (i:=(i:Int)) (k:=(j:Int)) (d:=w.duties[i]) (s:=st.2[j]) (v:=w.drivers[j]) (out:=st.1) h6 (Ft hj6) (AcH hj6) (Ft hj) (hw.2.2.2.2.2.2 _ (List.getElem_mem hj)) (by omega)
          have hl5:(([AQ.mk (IK.mk 0) (Fp.mk (↑238:Int)),AQ.mk (IK.mk 1) (Fp.mk (↑239:Int)),AQ.mk (IK.mk 2) (Fp.mk (↑240:Int)),AQ.mk (IK.mk 3) (Fp.mk (↑241:Int)),AQ.mk (IK.mk 4) (Fp.mk (↑242:Int))]:List AQ).length:Int)=5:=rfl
          rw [hl5,hl2]
          simp only [Option.bind_some]
          have htl:i<truth.length:=by rw [htr,List.length_map]; exact hx
          have hti:truth[i]=w.duties[i].off.hi:=by subst htr; simp
          rw [h6,cond_true,Ft hj6,Option.bind_some,show((j:Nat):Int).toNat=j from rfl,AcH hj6,Option.bind_some,Ft htl,Option.bind_some,AfR,Option.bind_some,cond_true,Option.bind_some,Option.bind_some,hti]
          rw [show((j:Nat):Int).toNat=j from rfl] at hst
          have hbl:=AcV w (j:Int) (i:Int) w.duties[i] st.2[j]
          rw [← hst]
          have:=ih (st.1++Aaa w (j:Int) (i:Int) w.duties[i] st.2[j],st.2.set j (AaD st.2[j] w.duties[i] w.duties[i].off.hi)) (by omega) (by omega) (by simp; omega) (by simp [hs])
          exact this
    · have hd:w.duties.drop i=[]:=by simp; omega
      rw [show decide ((i:Int)<(w.duties.length:Int))=false by simp; omega,hd]
      rfl
end Go.Proofs.YtkpgggfibljflaaGreatDoor
namespace Go.Proofs.YtkpgggfibljflaaGreatDoor
open Go Go.RowKit Go.Proofs
theorem AgO (w:AD) (roster:List Int) (day:Int) (st:List Av×List At) (i:Nat) (d:Bu):(Wb w roster day st i d).1.length≤st.1.length+5∧(Wb w roster day st i d).2.length=st.2.length:=by
  unfold Wb
  have:=AcV w (roster.getD i (-1)) (i:Int) d (st.2.getD (roster.getD i (-1)).toNat ZP)
  cases decide (d.day=day)
  · exact⟨by simp,rfl⟩
  · cases decide (roster.getD i (-1)=-1)
    · exact⟨by simp only [cond_true,cond_false,List.length_append]; omega,by simp⟩
    · exact⟨by simp,rfl⟩
theorem XB (w:AD) (roster:List Int) (day:Int):∀ (l:List Bu)(i:Nat)(st:List Av×List At),(T8 w roster day i st l).1.length≤st.1.length+5*l.length∧(T8 w roster day i st l).2.length=st.2.length
  | [],_,st=>⟨by simp [T8],rfl⟩
  | d::l,i,st=>by
    obtain⟨h1,h2⟩:=XB w roster day l (i+1) (Wb w roster day st i d)
    obtain⟨h3,h4⟩:=AgO w roster day st i d
    simp only [T8,List.length_cons]
    exact⟨by omega,by rw [h2,h4]⟩
def Mj (w:AD) (roster:List Int):Nat→Nat→List Av×List At→List Av×List At
  | 0,_,st=>st
  | k+1,day,st=>Mj w roster k (day+1) (T8 w roster (day:Int) 0 st w.duties)
theorem Alx {w:AD} {roster truth:List Int} (hw:wkOk w) (h6d:w.drivers.length≤6) (hro:Wc w roster) (htr:truth=w.duties.map fun d=>d.off.hi):∀ (k day n:Nat)(st:List Av×List At),day+k=7→200+k<n→st.1.length≤day*65→st.2.length=6 →
    AY n w roster truth st.1 st.2 7 (day:Int)=some (w,((roster,()),((truth,()),(((Mj w roster k day st).1,()),((Mj w roster k day st).2,((),((),((),()))))))))
  | _,_,0,_,_,h,_,_=>absurd h (Nat.not_lt_zero _)
  | 0,day,n+1,st,hd,h,ho,hs=>by
    rw [AY,show decide ((day:Int)<7)=false from decide_eq_false (by omega)]
    rfl
  | k+1,day,n+1,st,hd,h,ho,hs=>by
    have hwl:=hw.2.2.2.2.1
    have h4:=Alw hw h6d hro htr (day:Int) n 0 st (by omega) (by omega) (by omega) hs
    rw [show((0:Nat):Int)=0 from rfl,List.drop_zero] at h4
    obtain⟨a1,a2⟩:=XB w roster (day:Int) w.duties 0 st
    rw [AY,show decide ((day:Int)<7)=true from decide_eq_true (by omega),cond_true,h4,wN day (by omega)]
    simp only [Option.bind_some,Sum.elim_inl]
    have:=Alx hw h6d hro htr k (day+1) n (T8 w roster (day:Int) 0 st w.duties) (by omega) (by omega) (by omega) (by omega)
    exact this
def JR (w:AD) (now:List At):Nat→Nat→List Av
  | 0,_=>[]
  | k+1,i=>(bif decide ((now.getD i ZP).used>w.hours) then [Av.mk (IK.mk 5) (i:Int) 0] else [])++JR w now k (i+1)
theorem Aiu {w:AD} {now:List At} (h6d:w.drivers.length≤6) (hs:now.length=6):∀ (k i n:Nat)(out:List Av),i+k=w.drivers.length→k<n→out.length≤900+i→AZ n w out now (w.drivers.length:Int) (i:Int)=some (w,((out++JR w now k i,()),(now,((),()))))
  | _,_,0,_,_,h,_=>absurd h (Nat.not_lt_zero _)
  | 0,i,n+1,out,hk,h,ho=>by
    rw [AZ,show decide ((i:Int)<(w.drivers.length:Int))=false from decide_eq_false (by omega)]
    simp [JR]
  | k+1,i,n+1,out,hk,h,ho=>by
    have hi:i<now.length:=by omega
    have h6:now.length.beq 6=true:=by rw [hs]; rfl
    have hg:now.getD i ZP=now[i]:=by simp [List.getD,List.getElem?_eq_getElem hi]
    rw [AZ,show decide ((i:Int)<(w.drivers.length:Int))=true from decide_eq_true (by omega),cond_true,h6,cond_true,Ft hi,Option.bind_some,show((i:Nat):Int).toNat=i from rfl,AcH hi,Option.bind_some,wN i (by omega),B8 (by simp; omega)]
    simp only [JR,hg,Option.bind_some]
    cases decide (now[i].used>w.hours) with
    | true =>
      have:=Aiu h6d hs k (i+1) n (out++[Av.mk (IK.mk 5) (i:Int) 0]) (by omega) (by omega) (by simp; omega)
      simpa using this
    | false =>
      have:=Aiu h6d hs k (i+1) n out (by omega) (by omega) (by omega)
      simpa using this
def Ij (w:AD):List At:=(w.drivers.map fun d=>At.mk d.off d.row d.used (-1))++List.replicate (6-w.drivers.length) ZP
theorem Wd (full:List AR) (h6:full.length≤6):∀ (n i:Nat),full.length-i<n→i≤full.length→BL n ((full.take i).map (fun d=>At.mk d.off d.row d.used (-1))++List.replicate (6-i) ZP) full (full.length:Int) (i:Int)=some ((full.map fun d=>At.mk d.off d.row d.used (-1))++List.replicate (6-full.length) ZP,((),()))
  | 0,_,h,_=>absurd h (Nat.not_lt_zero _)
  | n+1,i,h,hi=>by
    have hlen:((full.take i).map (fun d=>At.mk d.off d.row d.used (-1))++List.replicate (6-i) ZP).length=6:=by
      rw [List.length_append,List.length_map,List.length_take,List.length_replicate]; omega
    rw [BL]
    by_cases hx:i<full.length
    · rw [show decide ((i:Int)<(full.length:Int))=true by simp; omega,cond_true,Ft hx,Option.bind_some,hlen,show Nat.beq 6 6=true from rfl,cond_true,Ft (by omega),Option.bind_some,show((i:Nat):Int).toNat=i from rfl,AcH (by omega),Option.bind_some,wN i (by omega)]
      have:((full.take i).map (fun d=>At.mk d.off d.row d.used (-1))++List.replicate (6-i) ZP).set i (At.mk full[i].off full[i].row full[i].used (-1))=(full.take (i+1)).map (fun d=>At.mk d.off d.row d.used (-1))++List.replicate (6-(i+1)) ZP:=by
        rw [List.take_succ_eq_append_getElem hx,List.map_append,List.append_assoc,List.set_append_right _ _ (by rw [List.length_map,List.length_take]; omega)]
        congr 1
        rw [List.length_map,List.length_take,Nat.min_eq_left hi,Nat.sub_self,show 6-i=(6-(i+1))+1 by omega,List.replicate_succ]
        rfl
      rw [this]
      exact Wd full h6 n (i+1) (by omega) (by omega)
    · have:i=full.length:=by omega
      subst this
      rw [show decide ((full.length:Int)<(full.length:Int))=false by simp,cond_false,List.take_of_length_le (Nat.le_refl _)]
theorem AgP {n:Nat} {w:AD} (h6:w.drivers.length≤6) (hn:10<n):E1 n w=some (Ij w,()):=by
  unfold E1
  have h:=Wd w.drivers h6 n 0 (by omega) (by omega)
  rw [show((0:Nat):Int)=0 from rfl] at h
  have e:([At.mk 0 0 0 0,At.mk 0 0 0 0,At.mk 0 0 0 0,At.mk 0 0 0 0,At.mk 0 0 0 0,At.mk 0 0 0 0]:List At)=(w.drivers.take 0).map (fun d=>At.mk d.off d.row d.used (-1))++List.replicate (6-0) ZP:=rfl
  rw [e,h]
  have hl:((w.drivers.map fun d=>At.mk d.off d.row d.used (-1))++List.replicate (6-w.drivers.length) ZP).length=6:=by
    rw [List.length_append,List.length_map,List.length_replicate]; omega
  simp only [Option.bind_some,hl]
  rfl
theorem AcW {w:AD} (h6:w.drivers.length≤6):(Ij w).length=6:=by
  unfold Ij
  rw [List.length_append,List.length_map,List.length_replicate]; omega
theorem AaE (full:List Bu) (hl:full.length≤1000):∀ (n i:Nat),full.length-i<n→i≤full.length→Cp n ((full.take i).map fun d=>d.off.hi) full (full.length:Int) (i:Int)=some (full.map fun d=>d.off.hi,())
  | 0,_,h,_=>absurd h (Nat.not_lt_zero _)
  | n+1,i,h,hi=>by
    rw [Cp]
    by_cases hx:i<full.length
    · rw [show decide ((i:Int)<(full.length:Int))=true by simp; omega,cond_true,Ft hx,Option.bind_some,B8 (by rw [List.length_map,List.length_take]; simp; omega),Option.bind_some,wN i (by omega)]
      have:(full.take i).map (fun d=>d.off.hi)++[full[i].off.hi]=(full.take (i+1)).map fun d=>d.off.hi:=by
        rw [List.take_succ_eq_append_getElem hx,List.map_append]; rfl
      rw [this]
      exact AaE full hl n (i+1) (by omega) (by omega)
    · have:i=full.length:=by omega
      subst this
      rw [show decide ((full.length:Int)<(full.length:Int))=false by simp,cond_false,List.take_of_length_le (Nat.le_refl _)]
theorem Ak0 {n:Nat} {w:AD} (h:w.duties.length≤1000) (hn:w.duties.length<n):Gd n w=some (w.duties.map fun d=>d.off.hi,()):=by
  unfold Gd
  have h:=AaE w.duties h n 0 (by omega) (by omega)
  rw [show((0:Nat):Int)=0 from rfl,List.take_zero,List.map_nil] at h
  rw [h]; rfl
def Aac (a b:Av):Bool:=a.driver == b.driver && a.kind.n == b.kind.n && a.duty == b.duty
theorem DA {α:Type} (eq:α→α→Bool):∀ (a b:List α),Ek eq a=true→Ek eq b=true→(∀ x∈a,∀ y∈b,eq x y=false)→Ek eq (a++b)=true
  | [],b,_,hb,_=>hb
  | x::a,b,ha,hb,h=>by
    unfold Ek at ha
    obtain⟨h1,h2⟩:=A1 ha
    rw [List.cons_append]
    unfold Ek
    rw [List.any_append,DA eq a b h2 hb fun x' hx'=>h x' (by simp [hx'])]
    have:b.any (eq x)=false:=by
      rw [List.any_eq_false]
      intro y hy he
      rw [h x (by simp) y hy] at he; cases he
    rw [this,Bool.or_false,h1]; rfl
theorem CH {w:AD} {k i:Int} {d:Bu} {s:At} {j:Nat} {b:Av} (h:b∈ZZ w k i d s j):b=Av.mk (IK.mk (j:Int)) k i:=by
  unfold ZZ at h
  cases hr:R7 w k d s j with
  | true=>rw [hr] at h; cases h
  | false=>rw [hr] at h; simpa using h
theorem AcX {w:AD} {k i:Int} {d:Bu} {s:At} {b:Av} (h:b∈Aaa w k i d s):∃ j:Nat,j≤4∧b=Av.mk (IK.mk (j:Int)) k i:=by
  unfold Aaa at h
  rcases List.mem_append.1 h with h | h
  · exact⟨0,by omega,CH h⟩
  rcases List.mem_append.1 h with h | h
  · exact⟨1,by omega,CH h⟩
  rcases List.mem_append.1 h with h | h
  · exact⟨2,by omega,CH h⟩
  rcases List.mem_append.1 h with h | h
  · exact⟨3,by omega,CH h⟩
  · exact⟨4,by omega,CH h⟩
theorem PZ (w:AD) (k i:Int) (d:Bu) (s:At) (j:Nat):Ek Aac (ZZ w k i d s j)=true:=by
  unfold ZZ
  cases R7 w k d s j <;> rfl
theorem AgQ (w:AD) (k i:Int) (d:Bu) (s:At):Ek Aac (Aaa w k i d s)=true:=by
  have hne:∀ (a b:Nat),a≠b→Aac (Av.mk (IK.mk (a:Int)) k i) (Av.mk (IK.mk (b:Int)) k i)=false:=fun a b h=>by
    simp only [Aac,beq_self_eq_true,Bool.true_and,Bool.and_true,beq_eq_false_iff_ne,ne_eq]; omega
  unfold Aaa
  refine DA _ _ _ (PZ ..) (DA _ _ _ (PZ ..) (DA _ _ _ (PZ ..) (DA _ _ _ (PZ ..) (PZ ..) ?_) ?_) ?_) ?_
  · intro x hx y hy
    rw [CH hx,CH hy]; exact hne 3 4 (by omega)
  · intro x hx y hy
    rw [CH hx]
    rcases List.mem_append.1 hy with hy | hy
    · rw [CH hy]; exact hne 2 3 (by omega)
    · rw [CH hy]; exact hne 2 4 (by omega)
  · intro x hx y hy
    rw [CH hx]
    rcases List.mem_append.1 hy with hy | hy
    · rw [CH hy]; exact hne 1 2 (by omega)
    rcases List.mem_append.1 hy with hy | hy
    · rw [CH hy]; exact hne 1 3 (by omega)
    · rw [CH hy]; exact hne 1 4 (by omega)
  · intro x hx y hy
    rw [CH hx]
    rcases List.mem_append.1 hy with hy | hy
    · rw [CH hy]; exact hne 0 1 (by omega)
    rcases List.mem_append.1 hy with hy | hy
    · rw [CH hy]; exact hne 0 2 (by omega)
    rcases List.mem_append.1 hy with hy | hy
    · rw [CH hy]; exact hne 0 3 (by omega)
    · rw [CH hy]; exact hne 0 4 (by omega)
def AeH (w:AD) (day:Int) (i:Nat) (out:List Av):Prop:=Ek Aac out=true∧∀ b∈out,∃ (j:Nat)(hj:j<w.duties.length),b.duty=(j:Int)∧(w.duties[j].day<day∨(w.duties[j].day=day∧j<i))∧0≤b.kind.n∧b.kind.n≤4∧0≤b.driver∧b.driver≤10
theorem AfT {w:AD} {roster:List Int} (h6d:w.drivers.length≤6) (hro:Wc w roster) (day:Int):∀ (l:List Bu)(i:Nat)(st:List Av×List At),w.duties.drop i=l→AeH w day i st.1→AeH w day w.duties.length (T8 w roster day i st l).1
  | [],i,st,hd,h=>by
    refine⟨h.1,fun b hb=>?_⟩
    obtain⟨j,hj,e1,e2,e3⟩:=h.2 b hb
    exact⟨j,hj,e1,e2.imp id (fun h=>⟨h.1,hj⟩),e3⟩
  | d::l,i,st,hd,h=>by
    have hx:i<w.duties.length:=by
      rcases Nat.lt_or_ge i w.duties.length with h' | h'
      · exact h'
      · rw [List.drop_eq_nil_of_le h'] at hd; cases hd
    have hd2:=List.drop_eq_getElem_cons hx
    rw [hd] at hd2
    obtain⟨e1,e2⟩:=List.cons.inj hd2
    simp only [T8]
    refine AfT h6d hro day l (i+1) _ e2.symm ?_
    have mono:∀ out,AeH w day i out→AeH w day (i+1) out:=fun out h=>⟨h.1,fun b hb=>by
      obtain⟨j,hj,e1,e2,e3⟩:=h.2 b hb
      exact⟨j,hj,e1,e2.imp id (fun h=>⟨h.1,by omega⟩),e3⟩⟩
    unfold Wb
    by_cases hday:d.day=day
    · rw [decide_eq_true hday,cond_true]
      have hxr:i<roster.length:=by rw [hro.1]; exact hx
      have hrg:roster.getD i (-1)=roster[i]:=by simp [List.getD,List.getElem?_eq_getElem hxr]
      rw [hrg]
      have hb:=hro.2 _ (List.getElem_mem hxr)
      generalize roster[i]=k at *
      by_cases h1:k=-1
      · rw [decide_eq_true h1,cond_true]; exact mono _ h
      · rw [decide_eq_false h1,cond_false]
        have m:=mono _ h
        refine⟨DA _ _ _ h.1 (AgQ ..) fun x hx' y hy=>?_,fun b hb'=>?_⟩
        · obtain⟨j,hj,q1,q2,_⟩:=h.2 x hx'
          obtain⟨j',_,q4⟩:=AcX hy
          have hne:x.duty≠y.duty:=by
            rw [q1,q4]
            intro hc
            have hc:(j:Int)=(i:Int):=hc
            have:j=i:=by omega
            subst this
            rcases q2 with q2 | q2
            · rw [← e1,hday] at q2; omega
            · omega
          simp [Aac,hne]
        · rcases List.mem_append.1 hb' with hb' | hb'
          · exact m.2 b hb'
          · obtain⟨j',q3,q4⟩:=AcX hb'
            subst q4
            exact⟨i,hx,rfl,.inr ⟨by rw [← e1]; exact hday,by omega⟩,by simp,by show(j':Int)≤4; omega,by show 0≤k; omega,by show k≤10; omega⟩
    · rw [decide_eq_false hday,cond_false]; exact mono _ h
theorem AcY {w:AD} {roster:List Int} (h6d:w.drivers.length≤6) (hro:Wc w roster):∀ (k day:Nat)(st:List Av×List At),AeH w (day:Int) 0 st.1→AeH w ((day+k:Nat):Int) 0 (Mj w roster k day st).1
  | 0,day,st,h=>h
  | k+1,day,st,h=>by
    simp only [Mj]
    have h1:=AfT h6d hro (day:Int) w.duties 0 st rfl h
    have h2:AeH w ((day+1:Nat):Int) 0 (T8 w roster (day:Int) 0 st w.duties).1:=⟨h1.1,fun b hb=>by
      obtain⟨j,hj,e1,e2,e3⟩:=h1.2 b hb
      exact⟨j,hj,e1,.inl (by rcases e2 with e2 | e2 <;> omega),e3⟩⟩
    have:=AcY h6d hro k (day+1) _ h2
    rw [show day+1+k=day+(k+1) by omega] at this
    exact this
theorem On {w:AD} {now:List At}:∀ (k i:Nat)(b:Av),b∈JR w now k i→∃ j:Nat,i≤j∧j<i+k∧b=Av.mk (IK.mk 5) (j:Int) 0
  | 0,_,b,h=>by cases h
  | k+1,i,b,h=>by
    simp only [JR] at h
    rcases List.mem_append.1 h with h | h
    · cases hd:decide ((now.getD i ZP).used>w.hours) with
      | false=>rw [hd] at h; cases h
      | true =>
        rw [hd] at h
        exact⟨i,by omega,by omega,by simpa using h⟩
    · obtain⟨j,h1,h2,h3⟩:=On k (i+1) b h
      exact⟨j,by omega,by omega,h3⟩
theorem We (w:AD) (now:List At):∀ (k i:Nat),Ek Aac (JR w now k i)=true
  | 0,_=>rfl
  | k+1,i=>by
    simp only [JR]
    refine DA _ _ _ ?_ (We w now k (i+1)) fun x hx y hy=>?_
    · cases decide ((now.getD i ZP).used>w.hours) <;> rfl
    · obtain⟨j,h1,h2,h3⟩:=On _ _ _ hy
      have hx':x=Av.mk (IK.mk 5) (i:Int) 0:=by
        cases hd:decide ((now.getD i ZP).used>w.hours) with
        | false=>rw [hd] at hx; cases hx
        | true=>rw [hd] at hx; simpa using hx
      rw [hx',h3]
      have:(i:Int)≠(j:Int):=by omega
      simp [Aac,this]
def MG (w:AD) (roster:List Int):List Av:=(Mj w roster 7 0 ([],Ij w)).1++JR w (Mj w roster 7 0 ([],Ij w)).2 w.drivers.length 0
theorem AaF {w:AD} {roster:List Int}:∀ (k day:Nat)(st:List Av×List At),(Mj w roster k day st).1.length≤st.1.length+k*(5*w.duties.length)∧(Mj w roster k day st).2.length=st.2.length
  | 0,_,st=>⟨by simp [Mj],rfl⟩
  | k+1,day,st=>by
    obtain⟨h1,h2⟩:=XB w roster (day:Int) w.duties 0 st
    obtain⟨h3,h4⟩:=AaF (w:=w) (roster:=roster) k (day+1) (T8 w roster (day:Int) 0 st w.duties)
    simp only [Mj]
    rw [Nat.succ_mul]
    exact⟨by omega,by rw [h4,h2]⟩
theorem XC (w:AD) (now:List At):∀ (k i:Nat),(JR w now k i).length≤k
  | 0,_=>by simp [JR]
  | k+1,i=>by
    have:=XC w now k (i+1)
    simp only [JR,List.length_append]
    cases decide ((now.getD i ZP).used>w.hours)
    · simp; omega
    · simp; omega
theorem Aiv {out:List Av} (hl:out.length≤1000000) (hs:∀ b∈out,0≤b.driver∧b.driver≤10∧0≤b.duty∧b.duty≤100∧0≤b.kind.n∧b.kind.n≤5) (hd:Ek Aac out=true):Abx out=some (GV Aml out):=by
  unfold Abx
  have h1:Nat.blt (B6 out) 4611686018427387904=true:=by rw [T7]; exact Nat.ble_eq_true_of_le (by omega)
  have h2:out.all (fun a=>Acx a.driver && Acx a.duty && (decide (0≤a.kind.n) && decide (a.kind.n≤255)))=true:=by
    rw [List.all_eq_true]
    intro a ha
    have:=hs a ha
    simp [Acx]; omega
  have h3:Ek (fun a b:Av=>a.driver == b.driver && a.kind.n == b.kind.n && a.duty == b.duty) out=true:=hd
  rw [h1,h2,h3]; rfl
theorem AgR {n:Nat} {w:AD} {roster:List Int} (hw:wkOk w) (h6d:w.drivers.length≤6) (hro:Wc w roster) (hn:300<n):E4 n w roster (w.duties.map fun d=>d.off.hi)=some (GV Aml (MG w roster),()):=by
  unfold E4
  have hsl:=AcW h6d
  have hwl:=hw.2.2.2.2.1
  rw [AgP h6d (by omega)]
  simp only [Option.bind_some,hsl,hw.1]
  rw [show(([At.mk 0 0 0 0,At.mk 0 0 0 0,At.mk 0 0 0 0,At.mk 0 0 0 0,At.mk 0 0 0 0,At.mk 0 0 0 0]:List At).length.beq 6 && Nat.beq 6 6)=true from rfl,cond_true]
  have h1:=Alx hw h6d hro rfl 7 0 n ([],Ij w) (by omega) (by omega) (by simp) hsl
  rw [show((0:Nat):Int)=0 from rfl] at h1
  rw [h1]
  simp only [Option.bind_some]
  obtain⟨d1,d2⟩:=AaF (w:=w) (roster:=roster) 7 0 ([],Ij w)
  simp only [List.length_nil,Nat.zero_add] at d1
  have h3:=Aiu (w:=w) (now:=(Mj w roster 7 0 ([],Ij w)).2) h6d (by rw [d2]; exact hsl) w.drivers.length 0 n (Mj w roster 7 0 ([],Ij w)).1 (by omega) (by omega) (by omega)
  rw [show((0:Nat):Int)=0 from rfl] at h3
  rw [h3]
  simp only [Option.bind_some]
  have ok:=AcY h6d hro 7 0 ([],Ij w) ⟨rfl,fun b hb=>by cases hb⟩
  have hh:=XC w (Mj w roster 7 0 ([],Ij w)).2 w.drivers.length 0
  have:=Aiv (out:=MG w roster) (by unfold MG; rw [List.length_append]; omega) (fun b hb=>by
    unfold MG at hb
    rcases List.mem_append.1 hb with hb | hb
    · obtain⟨j,hj,e1,_,e3,e4,e5,e6⟩:=ok.2 b hb
      omega
    · obtain⟨j,e1,e2,e3⟩:=On _ _ _ hb
      subst e3
      simp only
      omega) (by
    unfold MG
    refine DA _ _ _ ok.1 (We ..) fun x hx y hy=>?_
    obtain⟨j,hj,e1,_,e3,e4,_⟩:=ok.2 x hx
    obtain⟨j',f1,f2,f3⟩:=On _ _ _ hy
    subst f3
    have:x.kind.n≠5:=by omega
    simp [Aac,this])
  unfold MG at this ⊢
  rw [this]; rfl
theorem Aiw {n:Nat} {w:AD} {roster:List Int} (hw:wkOk w) (h6d:w.drivers.length≤6) (hro:Wc w roster) (hn:300<n):Fl n w roster=some (decide (MG w roster=[]),()):=by
  unfold Fl
  have hwl:=hw.2.2.2.2.1
  rw [Ak0 (by omega) (by omega),Option.bind_some]
  simp only
  rw [AgR hw h6d hro hn,Option.bind_some]
  simp only [Nn]
  congr 2
  cases h:MG w roster with
  | nil=>rfl
  | cons a l=>simp; omega
def AgS (w:AD) (roster:List Int):Bool:=decide (roster.length=w.duties.length) && roster.all fun x=>Ib x (-1) ((w.drivers.length:Int)-1)
theorem Aix {w:AD} {roster:List Int}:AgS w roster=true↔Wc w roster:=by
  unfold AgS Wc
  rw [Bool.and_eq_true,decide_eq_true_eq,List.all_eq_true]
  constructor
  · rintro⟨h1,h2⟩
    exact⟨h1,fun x hx=>by have:=Nm.1 (h2 x hx); omega⟩
  · rintro⟨h1,h2⟩
    exact⟨h1,fun x hx=>Nm.2 (by have:=h2 x hx; omega)⟩
end Go.Proofs.YtkpgggfibljflaaGreatDoor
namespace Go.Proofs.YtkpgggfibljflaaGreatDoor
open Go Go.RowKit Go.Proofs
theorem AbC {n:Nat} {w:AD} {l:List Int} (hl:l.length≤1000) (hd:w.drivers.length≤7) (h:l.length<n) :
    (l.all (fun x=>Ib x (-1) ((w.drivers.length:Int)-1))=true→AW n l w (l.length:Int) 0=some (.inl ((((),(w,())),()),((),()))))∧(l.all (fun x=>Ib x (-1) ((w.drivers.length:Int)-1))=false→∃ k:Nat,AW n l w (l.length:Int) 0=some (.inr ((((),(w,())),()),((),((k:Int),()))))) :=
  Ol (F:=fun n i=>AW n l w (l.length:Int) i) (G:=fun n i v0=>bif decide (-1≤v0) then(bif !decide (v0≤IntKind.i64.wrap ((↑w.drivers.length:Int)-1)) then(some (.inr ((((),(w,())),()),((),(i,()))))) else AW n l w (l.length:Int) (IntKind.i64.wrap (i+1))) else some (.inr ((((),(w,())),()),((),(i,()))))) l (fun x=>Ib x (-1) ((w.drivers.length:Int)-1)) ((((),(w,())),()),((),())) (fun i=>((((),(w,())),()),((),(i,())))) 0 (by omega) (fun _ _=>rfl) (fun n i hi _=>by
    rw [P7 (x:=(w.drivers.length:Int)-1) (by omega) (by omega)]
    unfold Ib
    cases decide (-1≤l[i]) <;> cases decide (l[i]≤(w.drivers.length:Int)-1) <;> rfl) (n:=n) (by omega)
theorem XD {n:Nat} {w:AD} {l:List Int} (hl:l.length≤1000) (hd:w.drivers.length≤7) (h:l.length<n):Ez n w l=some (AgS w l,()):=by
  unfold Ez AgS
  obtain⟨a1,a2⟩:=AbC (n:=n) (w:=w) (l:=l) hl hd h
  by_cases he:l.length=w.duties.length
  · rw [show decide ((l.length:Int)=(w.duties.length:Int))=true from decide_eq_true (by omega),decide_eq_true he,cond_true,Bool.true_and]
    cases ha:l.all fun x=>Ib x (-1) ((w.drivers.length:Int)-1) with
    | true=>rw [a1 ha]; rfl
    | false =>
      obtain⟨k,hk⟩:=a2 ha
      rw [hk]
      simp only [Option.bind_some,Sum.elim_inr]
      rw [show decide ((k:Int)≥0)=true by simp]; rfl
  · rw [show decide ((l.length:Int)=(w.duties.length:Int))=false from decide_eq_false (by omega),decide_eq_false he]; rfl
theorem AgT {n:Nat} {l:List Int} (hl:l.length≤1000) (h:l.length<n):∃ k:Nat,ID n l=some ((k:Int),()):=by
  have H:∀ (n i k:Nat),l.length-i<n→i≤l.length→k≤i→∃ k':Nat,Cy n (k:Int) l (l.length:Int) (i:Int)=some ((k':Int),()):=by
    intro n
    induction n with
    | zero=>intro i k h; exact absurd h (Nat.not_lt_zero _)
    | succ n ih =>
      intro i k h hi hk
      rw [Cy]
      by_cases hx:i<l.length
      · rw [show decide ((i:Int)<(l.length:Int))=true by simp; omega,cond_true,Ft hx,Option.bind_some,wN i (by omega),wN k (by omega)]
        cases l[i] != -1
        · exact ih (i+1) k (by omega) (by omega) (by omega)
        · exact ih (i+1) (k+1) (by omega) (by omega) (by omega)
      · rw [show decide ((i:Int)<(l.length:Int))=false by simp; omega]
        exact⟨k,rfl⟩
  obtain⟨k,hk⟩:=H n 0 0 (by omega) (by omega) (by omega)
  rw [show((0:Nat):Int)=0 from rfl] at hk
  unfold ID
  exact⟨k,by rw [hk]; rfl⟩
def XE (w:AD) (roster:List Int):Bool:=decide (GO w=0) && (AgS w roster && decide (MG w roster=[]))
theorem Aiy {n:Nat} {w:AD} {roster:List Int} (hw:wkOk w) (hl:roster.length≤1000) (hn:1100<n):CF n w roster 0=some (XE w roster,()):=by
  unfold CF XE
  rw [Om hw (by omega),Option.bind_some]
  simp only
  by_cases h0:GO w=0
  · rw [decide_eq_true h0,cond_true,XD hl hw.2.2.2.2.2.1 (by omega),Option.bind_some]
    simp only [Bool.true_and]
    cases hr:AgS w roster with
    | false=>rfl
    | true =>
      have h6:w.drivers.length≤6:=by
        unfold GO at h0
        split at h0
        · cases h0
        · split at h0
          · cases h0
          · omega
      rw [cond_true,Aiw hw h6 (Aix.1 hr) (by omega),Option.bind_some]
      simp only [Bool.true_and]
      cases decide (MG w roster=[]) with
      | false=>rfl
      | true =>
        obtain⟨k,hk⟩:=AgT (n:=n) hl (by omega)
        rw [cond_true,hk,Option.bind_some]
        simp
  · rw [decide_eq_false h0]; rfl
structure H9 (s:A0):Prop where
  kind:∀ c∈s.cards,Ss c
  cards:s.cards.length≤40
  outs:s.outs.length≤200
  runs:s.runs.length≤200
  rk:∀ r∈s.records,ZV r
  recs:s.records.length≤200
  days:s.week.days=7
  rest:s.week.rest=600
  run:s.week.run=5
  hours:s.week.hours=3000
  duties:s.week.duties.length≤12
  drivers:s.week.drivers.length≤6
  drv:∀ d∈s.week.drivers,∃ k off,d=AR.mk [k] [] [] off 0 0
  ros:s.roster.length=s.week.duties.length
  wk:GO s.week=0
  chk:Alv s.cards=0
theorem H9.wkOk {s:A0} (h:H9 s):wkOk s.week:=⟨h.days,h.rest,h.run,h.hours,by have:=h.duties; omega,by have:=h.drivers; omega,h.drv⟩
def Kh (s:A0) (c:A6):A0×Int:=if s.cards.any (fun a=>KM a c) then(s,6) else if Alv (s.cards++[c])=0 then({ s with cards:=s.cards++[c] },0) else(s,Alv (s.cards++[c]))
def Db (s:A0) (y:A0×Int):(Ah×Unit) ⊕ (Ah×A8×Unit):=if y.2=0 then .inl (Ah.mk y.1,()) else .inr (Ah.mk s,(A8.mk y.2,()))
theorem Xv {n:Nat} {s:A0} (hg:H9 s) {c:A6} (hk:Ss c) (hn:200<n):Bl n (Ah.mk s) c=some (Db s (Kh s c)):=by
  have h40:=hg.cards
  unfold Bl Kh
  rw [AeA _ c s.cards (by omega) (by omega)]
  cases hs:s.cards.any (fun a=>KM a c) with
  | true=>simp [Db]
  | false =>
    simp only [Option.bind_some,Sum.elim_inl,cond_false]
    rw [AcO (by omega)]
    simp only [Option.bind_some]
    rw [ZU (fun a ha=>by
      rcases List.mem_append.1 ha with ha | ha
      · exact hg.kind a ha
      · rw [List.mem_singleton.1 ha]; exact hk) (by simp; omega) (by simp; omega)]
    simp only [Option.bind_some,T0]
    by_cases h0:Alv (s.cards++[c])=0
    · simp [Db,G6,h0]
    · simp [Db,G6,h0]
def Wf (l:List Sf) (bus:Int):Option Nat:=l.findIdx? fun o=>decide (o.bus=bus)
theorem XF (l:List Sf) (bus:Int) (hl:l.length≤1000):∀ (n i:Nat),l.length-i<n→i≤l.length→Uq n bus (-1) l (l.length:Int) (i:Int)=some ((match (l.drop i).findIdx? (fun o=>decide (o.bus=bus)) with | some k=>((i+k:Nat):Int) | none=>-1),())
  | 0,_,h,_=>absurd h (Nat.not_lt_zero _)
  | n+1,i,h,hi=>by
    rw [Uq]
    by_cases hx:i<l.length
    · have hd:l.drop i=l[i]::l.drop (i+1):=List.drop_eq_getElem_cons hx
      rw [show decide ((i:Int)<(l.length:Int))=true by simp; omega,cond_true,Ft hx,Option.bind_some,hd,wN i (by omega),List.findIdx?_cons]
      cases decide (l[i].bus=bus) with
      | true=>simp
      | false =>
        rw [cond_false,XF l bus hl n (i+1) (by omega) (by omega)]
        cases (l.drop (i+1)).findIdx? (fun o=>decide (o.bus=bus)) with
        | none=>rfl
        | some k =>
          show some (((i+1+k:Nat):Int),())=some (((i+(k+1):Nat):Int),())
          rw [show i+1+k=i+(k+1) by omega]
    · have hd:l.drop i=[]:=by simp; omega
      rw [show decide ((i:Int)<(l.length:Int))=false by simp; omega,hd]
      rfl
def XG (l:List Sf) (bus:Int):Int:=match Wf l bus with
  | some k=>(k:Int)
  | none=>-1
theorem AfU {n:Nat} {s:A0} (hg:H9 s) (bus:Int) (hn:250<n):AhM n (Ah.mk s) bus=some (Ah.mk s,(XG s.outs bus,())):=by
  unfold AhM XG Wf
  have:=hg.outs
  have h:=XF s.outs bus (by omega) n 0 (by omega) (by omega)
  rw [show((0:Nat):Int)=0 from rfl,List.drop_zero] at h
  simp only [h,Option.bind_some]
  cases s.outs.findIdx? (fun o=>decide (o.bus=bus)) <;> simp
end Go.Proofs.YtkpgggfibljflaaGreatDoor
namespace Go.Proofs.YtkpgggfibljflaaGreatDoor
open Go Go.RowKit Go.Proofs
theorem Jp (x:Option ((Ah×Unit) ⊕ (Ah×A8×Unit))) (s:A0) (y:A0×Int) (h:x=some (Db s y)):(x.bind fun v8=>Sum.elim (fun v9=>some (.inl (v9.fst,()))) (fun v9=>some (.inr (v9.fst,(v9.snd.fst,())))) v8:Option ((Ah×Unit) ⊕ (Ah×A8×Unit)))=some (Db s y):=by
  rw [h]
  unfold Db
  split <;> rfl
section
variable {n:Nat} {s:A0} {a b c d e:Int}
theorem Aiz (hg:H9 s) (hn:200<n):Dm n (Ah.mk s) [a,b,c,d,e]=some (Db s (Kh s (A6.mk a b c (IK.mk 0) d 0))):=Jp _ _ _ (Xv hg ⟨by simp,by simp⟩ hn)
theorem Ak1 (hg:H9 s) (hn:200<n):DE n (Ah.mk s) [a,b,c,d,e]=some (Db s (Kh s (A6.mk a b c (IK.mk 1) d 0))):=Jp _ _ _ (Xv hg ⟨by simp,by simp⟩ hn)
theorem AgU (hg:H9 s) (hn:200<n):CO n (Ah.mk s) [a,b,c,d,e]=some (Db s (Kh s (A6.mk a b c (IK.mk 2) 0 d))):=Jp _ _ _ (Xv hg ⟨by simp,by simp⟩ hn)
theorem AcZ (hg:H9 s) (hn:200<n):Ct n (Ah.mk s) [a,b,c,d,e]=some (Db s (Kh s (A6.mk a b c (IK.mk 3) 0 0))):=Jp _ _ _ (Xv hg ⟨by simp,by simp⟩ hn)
theorem Am2:([a,b,c,d,e]:List Int).length.beq 5=true:=rfl
theorem Am3:AO [a,b,c,d,e] 0=some a:=rfl
theorem Am4:AO [a,b,c,d,e] 1=some b:=rfl
theorem AmY:AO [a,b,c,d,e] 2=some c:=rfl
theorem Anc:AO [a,b,c,d,e] 3=some d:=rfl
theorem Ane:AO [a,b,c,d,e] 4=some e:=rfl
theorem Am5:([a,b,c,d,e]:List Int).get?Internal (Int.toNat 0)=some a:=rfl
theorem Am6:([a,b,c,d,e]:List Int).get?Internal (Int.toNat 1)=some b:=rfl
theorem AmZ:([a,b,c,d,e]:List Int).get?Internal (Int.toNat 2)=some c:=rfl
theorem Anf:([a,b,c,d,e]:List Int).get?Internal (Int.toNat 3)=some d:=rfl
theorem Ang:([a,b,c,d,e]:List Int).get?Internal (Int.toNat 4)=some e:=rfl
def AaG (l:List W9) (bus at_:Int):Bool:=l.all fun r=>!decide (r.bus=bus) || decide (r.to_≤at_)
theorem AgV (g:Ah) (bus at_:Int) (l:List W9) (hl:l.length≤1000) (hn:l.length<n):AH n g bus at_ l (l.length:Int) 0=some (bif AaG l bus at_ then .inl (g,((),(bus,(at_,())))) else .inr (g,(A8.mk 8,()))):=by
  obtain⟨h1,h2⟩:=Ol (F:=fun n i=>AH n g bus at_ l (l.length:Int) i) (G:=fun n i v0=>bif !v0.bus != bus then((A5 n (decide (v0.to_≤at_)) 8).bind fun v1=>Sum.elim (fun v2=>AH n g bus at_ l (l.length:Int) (IntKind.i64.wrap (i+1))) (fun v2=>some (.inr (g,(v2.fst,())))) (v1)) else(A5 n true 8).bind fun v1=>Sum.elim (fun v2=>AH n g bus at_ l (l.length:Int) (IntKind.i64.wrap (i+1))) (fun v2=>some (.inr (g,(v2.fst,())))) (v1)) l (fun r=>!decide (r.bus=bus) || decide (r.to_≤at_)) (g,((),(bus,(at_,())))) (fun _=>(g,(A8.mk 8,()))) 0 (by omega) (fun _ _=>rfl) (fun n i hi _=>by
    rw [Gk,Gk]
    by_cases hb:l[i].bus=bus
    · rw [show(!l[i].bus != bus)=true by simp [hb],decide_eq_true hb]
      cases decide (l[i].to_≤at_) <;> rfl
    · rw [show(!l[i].bus != bus)=false by simp [hb],decide_eq_false hb]
      rfl) (n:=n) (by omega)
  unfold AaG
  cases hc:l.all fun r=>!decide (r.bus=bus) || decide (r.to_≤at_) with
  | true=>exact h1 hc
  | false=>obtain⟨k,hk⟩:=h2 hc; exact hk
def Ada (s:A0) (bus at_:Int):A0×Int :=
  if Ib bus 0 99 && Ib at_ 0 1000000 then
    if XG s.outs bus<0 then
      if AaG s.runs bus at_ then
        if (Pt s.cards bus at_).2=0 then
          if (Pt s.cards bus at_).1=[] then({ s with outs:=s.outs++[Sf.mk bus at_] },0) else(s,11)
        else(s,(Pt s.cards bus at_).2)
      else(s,8)
    else(s,8)
  else(s,2)
theorem Ak2 (hg:H9 s) (hn:300<n):C7 n (Ah.mk s) [a,b,c,d,e]=some (Db s (Ada s a b)):=by
  have h1:=hg.outs
  have h2:=hg.runs
  have h3:=hg.cards
  unfold C7
  simp only [Am2,Am3,Am5,Am4,Am6,cond_true,Option.bind_some]
  unfold Ada
  rw [KC,KC]
  simp only [Option.bind_some]
  cases hb1:Ib a 0 99 with
  | false =>
    simp [Gk,G6,Db]
  | true =>
    rw [cond_true,Gk,Option.bind_some]
    cases hb2:Ib b 0 1000000 with
    | false=>simp [G6,Db]
    | true =>
      simp only [G6,cond_true,Sum.elim_inl,Bool.and_self,if_true]
      rw [AfU hg a (by omega),Option.bind_some]
      simp only [Gk,Option.bind_some]
      by_cases hgo:XG s.outs a<0
      · rw [decide_eq_true hgo,if_pos hgo]
        simp only [G6,cond_true,Sum.elim_inl]
        rw [AgV _ a b s.runs (by omega) (by omega),Option.bind_some]
        cases hr:AaG s.runs a b with
        | false=>simp [Db]
        | true =>
          simp only [cond_true,Sum.elim_inl,if_true]
          rw [Akv hg.kind (by omega) (by omega)]
          simp only [Option.bind_some,T0]
          by_cases h0:(Pt s.cards a b).2=0
          · rw [if_pos h0,h0]
            simp only [G6,decide_true,cond_true,Sum.elim_inl]
            by_cases hl:(Pt s.cards a b).1=[]
            · rw [if_pos hl,hl]
              simp only [List.length_nil]
              rw [show decide (((0:Nat):Int)=0)=true from rfl]
              simp only [cond_true,Option.bind_some,Sum.elim_inl]
              rw [Ae7 (by omega)]
              simp [Db]
            · rw [if_neg hl]
              have : ¬ (((Pt s.cards a b).1.length:Int)=0):=fun h=>hl (List.length_eq_zero_iff.1 (by omega))
              rw [decide_eq_false this]
              simp [Db]
          · rw [if_neg h0,decide_eq_false h0]
            simp [Db,h0,G6]
      · rw [decide_eq_false hgo,if_neg hgo]
        simp [G6,Db]
def Aly (s:A0) (bus to_ miles:Int):A0×Int :=
  match Wf s.outs bus with
  | none=>(s,8)
  | some k=>match s.outs[k]? with
    | none=>(s,8)
    | some o=>if Ib to_ o.fr 1000000 && Ib miles 0 1000 then({ s with outs:=s.outs.eraseIdx k,runs:=s.runs++[W9.mk o.bus o.fr to_ miles] },0) else(s,2)
theorem Adb {l:List Sf} {bus:Int} {k:Nat} (h:Wf l bus=some k):∃ hk:k<l.length,l[k].bus=bus:=by
  unfold Wf at h
  obtain⟨hk,h1,_⟩:=List.findIdx?_eq_some_iff_getElem.1 h
  exact⟨hk,by simpa using h1⟩
theorem AlK (hg:H9 s) (hn:300<n):De n (Ah.mk s) [a,b,c,d,e]=some (Db s (Aly s a b c)):=by
  have h1:=hg.outs
  have h2:=hg.runs
  unfold De
  simp only [Am2,Am3,Am5,Am4,Am6,AmY,AmZ,cond_true,Option.bind_some]
  rw [AfU hg a (by omega),Option.bind_some]
  simp only [Gk,Option.bind_some]
  unfold Aly XG
  cases hgo:Wf s.outs a with
  | none =>
    simp only
    rw [show decide ((-1:Int)≥0)=false from rfl]
    simp [G6,Db]
  | some k =>
    obtain⟨hk,_⟩:=Adb hgo
    simp only
    rw [show decide ((k:Int)≥0)=true by simp]
    simp only [G6,cond_true,Sum.elim_inl]
    rw [Ft hk,Option.bind_some,List.getElem?_eq_getElem hk]
    simp only [KC,Option.bind_some]
    have hw:IntKind.i64.wrap ((k:Int)+1)=((k+1:Nat):Int):=wN k (by omega)
    have hdel:Ac6 n s.outs (k:Int) ((k+1:Nat):Int)=some (s.outs.eraseIdx k,()):=by
      show(bif Nat.blt k (k+1) && Nat.ble (k+1) (B6 s.outs) then some (s.outs.take k++s.outs.drop (k+1),()) else none)=_
      rw [show Nat.blt k (k+1)=true from Nat.ble_eq_true_of_le (by omega),T7,show Nat.ble (k+1) s.outs.length=true from Nat.ble_eq_true_of_le (by omega)]
      rw [List.eraseIdx_eq_take_drop_succ]; rfl
    have hcl:OA n s.outs=some (s.outs,()):=by unfold OA; rw [Ii (by omega)]; rfl
    cases hb1:Ib b s.outs[k].fr 1000000 with
    | false=>simp [G6,Db]
    | true =>
      cases hb2:Ib c 0 1000 with
      | false=>simp [G6,Db]
      | true =>
        simp only [cond_true,Sum.elim_inl,Bool.and_self,if_true]
        rw [hcl,Option.bind_some,hw,hdel,Option.bind_some,Ae8 (by omega)]
        simp [Db]
def Oo (s:A0) (r:Ac):A0×Int:=if s.records.any (D3 r) then(s,6) else if JQ [s.records,[r]]=0 then({ s with records:=s.records++[r] },0) else(s,JQ [s.records,[r]])
theorem AeI (hg:H9 s) {r:Ac} (hk:ZV r) (hn:1200<n):Bn n (Ah.mk s) r=some (Db s (Oo s r)):=by
  have h60:=hg.recs
  unfold Bn Oo
  rw [AcR (by show s.records.length≤1000; omega) (by show s.records.length<n; omega),Option.bind_some]
  simp only [Gk,Option.bind_some]
  cases hs:s.records.any (D3 r) with
  | true=>simp [Db,G6]
  | false =>
    simp only [Bool.not_false,G6,cond_true,Sum.elim_inl]
    obtain⟨x,hx⟩:=Air (n:=n) (lists:=[s.records,[r]]) (fun l hl=>by
      rcases List.mem_cons.1 hl with rfl | hl
      · exact hg.rk
      · rw [List.mem_singleton.1 hl]
        intro r' hr'
        rw [List.mem_singleton.1 hr']; exact hk) (by simp) (fun l hl=>by
      rcases List.mem_cons.1 hl with rfl | hl
      · omega
      · rw [List.mem_singleton.1 hl]; simp) (by simp; omega)
    rw [hx,Option.bind_some]
    simp only [T0,Option.bind_some]
    by_cases h0:JQ [s.records,[r]]=0
    · rw [h0]
      simp only [G6,decide_true,cond_true,Sum.elim_inl]
      rw [ZS (by omega)]
      simp [Db]
    · rw [decide_eq_false h0]
      simp [G6,Db,h0]
theorem Ak3 (hg:H9 s) (hn:1200<n):DI n (Ah.mk s) [a,b,c,d,e]=some (Db s (Oo s (Ac.mk a b c (IK.mk 0) d e))):=Jp _ _ _ (AeI hg ⟨by simp,by simp⟩ hn)
theorem Ak4 (hg:H9 s) (hn:1200<n):DJ n (Ah.mk s) [a,b,c,d,e]=some (Db s (Oo s (Ac.mk a b c (IK.mk 1) d 0))):=Jp _ _ _ (AeI hg ⟨by simp,by simp⟩ hn)
theorem Ai0 (hg:H9 s) (hn:1200<n):Dr n (Ah.mk s) [a,b,c,d,e]=some (Db s (Oo s (Ac.mk a b c (IK.mk 2) d e))):=Jp _ _ _ (AeI hg ⟨by simp,by simp⟩ hn)
def WR (w:AD) (k off:Int):AD:={ w with drivers:=w.drivers++[AR.mk [k] [] [] off 0 0] }
def UU (w:AD) (d:Bu):AD:={ w with duties:=w.duties++[d] }
def AeJ (s:A0) (k off:Int):A0×Int:=if GO (WR s.week k off)=0 then({ s with week:=WR s.week k off },0) else(s,GO (WR s.week k off))
def AeK (s:A0) (d:Bu):A0×Int:=if GO (UU s.week d)=0 then({ s with week:=UU s.week d,roster:=s.roster++[-1] },0) else(s,GO (UU s.week d))
theorem AeL (hg:H9 s) (hn:100<n):BJ n (Ah.mk s) [a,b,c,d,e]=some (Db s (AeJ s a b)):=by
  have h6:=hg.drivers
  have h12:=hg.duties
  unfold BJ AeJ
  simp only [Am2,Am3,Am5,Am4,Am6,cond_true,Option.bind_some]
  rw [ZT (by omega),Option.bind_some]
  have hw:wkOk (WR s.week a b):=⟨hg.days,hg.rest,hg.run,hg.hours,by show s.week.duties.length≤13; omega,by simp [WR]; omega,fun d hd=>by
    rcases List.mem_append.1 hd with hd | hd
    · exact hg.drv d hd
    · rw [List.mem_singleton.1 hd]; exact⟨a,b,rfl⟩⟩
  have hc:=Om (n:=n) hw (by omega)
  unfold WR at hc
  simp only at hc ⊢
  rw [hc,Option.bind_some]
  simp only [T0,Option.bind_some]
  show _=some (Db s (if GO (WR s.week a b)=0 then _ else _))
  change (Sum.elim _ _ (G6 (decide (GO (WR s.week a b)=0)) (GO (WR s.week a b))))=_
  by_cases h0:GO (WR s.week a b)=0
  · rw [h0]; simp [G6,Db,WR]
  · rw [decide_eq_false h0,if_neg h0]
    simp [G6,Db,h0]
theorem Ai1 (hg:H9 s) (hn:100<n):Co n (Ah.mk s) [a,b,c,d,e]=some (Db s (AeK s (Bu.mk a b (Rg.mk c d) e))):=by
  have h6:=hg.drivers
  have h12:=hg.duties
  have hr:=hg.ros
  unfold Co AeK
  simp only [Am2,Am3,Am5,Am4,Am6,AmY,AmZ,Anc,Anf,Ane,Ang,cond_true,Option.bind_some]
  rw [AcP (by omega),Option.bind_some]
  have hw:wkOk (UU s.week (Bu.mk a b (Rg.mk c d) e)):=⟨hg.days,hg.rest,hg.run,hg.hours,by simp [UU]; omega,by show s.week.drivers.length≤7; omega,hg.drv⟩
  have hc:=Om (n:=n) hw (by omega)
  unfold UU at hc
  simp only at hc ⊢
  rw [hc,Option.bind_some]
  simp only [T0,Option.bind_some]
  show _=some (Db s (if GO (UU s.week (Bu.mk a b (Rg.mk c d) e))=0 then _ else _))
  change (Sum.elim _ _ (G6 (decide (GO (UU s.week (Bu.mk a b (Rg.mk c d) e))=0)) (GO (UU s.week (Bu.mk a b (Rg.mk c d) e)))))=_
  by_cases h0:GO (UU s.week (Bu.mk a b (Rg.mk c d) e))=0
  · rw [h0]
    simp only [G6,decide_true,cond_true,Sum.elim_inl]
    rw [Ae9 (by omega)]
    simp [Db,UU]
  · rw [decide_eq_false h0,if_neg h0]
    simp [G6,Db,h0]
def AeM (s:A0) (i k:Int):A0×Int :=
  if Ib i 0 ((s.roster.length:Int)-1) && Ib k (-1) ((s.week.drivers.length:Int)-1) then
    if XE s.week (s.roster.set i.toNat k) then({ s with roster:=s.roster.set i.toNat k },0) else(s,10)
  else(s,2)
theorem Ai2 (hg:H9 s) (hn:1200<n):Cq n (Ah.mk s) [a,b,c,d,e]=some (Db s (AeM s a b)):=by
  have h6:=hg.drivers
  have h12:=hg.duties
  have hr:=hg.ros
  unfold Cq AeM
  simp only [Am2,Am3,Am5,Am4,Am6,cond_true,Option.bind_some]
  rw [P7 (x:=(s.roster.length:Int)-1) (by omega) (by omega),P7 (x:=(s.week.drivers.length:Int)-1) (by omega) (by omega)]
  simp only [KC,Option.bind_some,Gk]
  cases hb1:Ib a 0 ((s.roster.length:Int)-1) with
  | false=>simp [G6,Db]
  | true =>
    cases hb2:Ib b (-1) ((s.week.drivers.length:Int)-1) with
    | false=>simp [G6,Db]
    | true =>
      simp only [G6,cond_true,Sum.elim_inl,Bool.and_self,if_true]
      obtain⟨a1,a2⟩:=Nm.1 hb1
      obtain⟨i,rfl⟩:∃ i:Nat,a=i:=⟨a.toNat,by omega⟩
      have hi:i<s.roster.length:=by omega
      have hcl:SH n s.roster=some (s.roster,()):=by unfold SH; rw [Ii (by omega)]; rfl
      rw [hcl]
      simp only [Option.bind_some]
      rw [Ft hi,Option.bind_some,show((i:Nat):Int).toNat=i from rfl,AcH hi,Option.bind_some,Aiy hg.wkOk (by rw [List.length_set]; omega) (by omega),Option.bind_some]
      simp only
      cases XE s.week (s.roster.set i b) with
      | true=>simp [Db]
      | false=>simp [Db]
end
end Go.Proofs.YtkpgggfibljflaaGreatDoor
namespace Go.Proofs.YtkpgggfibljflaaGreatDoor
open Go Go.RowKit Go.Proofs
theorem AeN {l:List UInt8} {v:Int} (h:Lib.atoiAll l=.ok v) : -9223372036854775808≤v∧v≤9223372036854775807:=by
  unfold Lib.atoiAll at h
  simp only at h
  split at h
  · cases h
  · split at h
    · cases h
    · cases h
    · rename_i u _
      split at h
      · cases h
      · split at h
        · cases h
        · rename_i h1 h2
          cases h
          split <;> rename_i hn <;> simp only [hn,true_and,not_true,false_and,not_false_iff] at h1 h2 <;> omega
def AeO (s:ByteArray):Option Int:=KI s.data.toList
theorem AgW {n:Nat} {s:ByteArray} (hs:s.size≤1000000):IF n s=some (match AeO s with | some v=>.inl (v,()) | none=>.inr (A8.mk 4,())):=by
  unfold IF WG
  rw [if_pos (by omega)]
  simp only [Option.bind_some]
  cases hw:AeO s with
  | some v =>
    obtain⟨h1,h2,h3,h4⟩:=AgE hw
    rw [h2]
    simp only [Sum.elim_inl]
    have hi:WH n v=some (Sh v,()):=by
      unfold WH
      rw [show(decide (-9223372036854775808≤v) && decide (v≤9223372036854775807))=true by simp; omega]; rfl
    rw [hi,Option.bind_some]
    have hb:(Sh v).beq s=true:=by
      unfold Sh
      rw [h1,← Qx s]
      show((Og s.data.toList).data == (Og (Og s.data.toList).data.toList).data)=true
      simp [Og]
    simp only [hb,cond_true]
    rw [KC,Option.bind_some,show Ib v (-999999999) 999999999=true from Nm.2 ⟨h3,h4⟩,Gk]
    rfl
  | none =>
    rcases ha:Lib.atoiAll s.data.toList with v | _ | _
    · skip
      obtain⟨b1,b2⟩:=AeN ha
      have hi:WH n v=some (Sh v,()):=by
        unfold WH
        rw [show(decide (-9223372036854775808≤v) && decide (v≤9223372036854775807))=true by simp; omega]; rfl
      simp only [Sum.elim_inl]
      rw [hi,Option.bind_some]
      simp only
      cases hb:(Sh v).beq s with
      | false=>simp [Gk,G6]
      | true =>
        have he:Zy v=s.data.toList:=by
          have:((Og (Zy v)).data == s.data)=true:=hb
          have:=eq_of_beq this
          have:=congrArg Array.toList this
          simpa [Og] using this
        simp only [cond_true,KC,Option.bind_some,Gk]
        by_cases hr : -999999999≤v∧v≤999999999
        · have:=AcN hr.1 hr.2
          rw [he] at this
          unfold AeO at hw
          rw [this] at hw; cases hw
        · rw [AgB.2 hr]; rfl
    · simp [Gk,G6]
    · simp [Gk,G6]
end Go.Proofs.YtkpgggfibljflaaGreatDoor
namespace Go.Proofs.YtkpgggfibljflaaGreatDoor
open Go Go.RowKit Go.Proofs
def GS:List (ByteArray×EN):=[(B [102,111,117,110,100],EN.mk 4 (Fp.mk 189)),(B [104,101,108,100],EN.mk 4 (Fp.mk 190)),(B [115,105,103,110,101,100],EN.mk 4 (Fp.mk 191)),(B [99,104,101,99,107,101,100],EN.mk 3 (Fp.mk 192)),(B [111,117,116],EN.mk 2 (Fp.mk 193)),(B [105,110],EN.mk 3 (Fp.mk 194)),(B [115,97,108,101],EN.mk 5 (Fp.mk 195)),(B [115,121,110,99],EN.mk 4 (Fp.mk 196)),(B [99,108,111,115,101],EN.mk 5 (Fp.mk 197)),(B [100,114,105,118,101,114],EN.mk 2 (Fp.mk 198)),(B [100,117,116,121],EN.mk 5 (Fp.mk 199)),(B [103,105,118,101],EN.mk 2 (Fp.mk 200))]
theorem Ai3 (n:Nat):Akc n=some (GS,()):=by kernel_rfl
theorem XH {α β:Type} (q:α→α→Bool) (hq:∀ a b,q a b=true→a=b):∀ (l:List (α×β))(k:α)(v:β),HA q l k=some v→(k,v)∈l
  | [],_,_,h=>by cases h
  | p::r,k,v,h=>by
    unfold HA at h
    cases hp:q p.1 k with
    | true =>
      rw [hp,cond_true] at h
      cases h
      have:=hq _ _ hp
      subst this
      simp
    | false =>
      rw [hp,cond_false] at h
      exact List.mem_cons_of_mem _ (XH q hq r k v h)
theorem Sw {w:ByteArray} {x:EN} (h:HA FC GS w=some x):2≤x.many∧x.many≤5∧189≤x.do_.f∧x.do_.f≤200:=by
  have:=XH FC (fun a b h=>(X9 a b).1 h) _ _ _ h
  simp only [GS,List.mem_cons,Prod.mk.injEq,List.not_mem_nil,or_false] at this
  rcases this with⟨_,rfl⟩ | ⟨_,rfl⟩ | ⟨_,rfl⟩ | ⟨_,rfl⟩ | ⟨_,rfl⟩ | ⟨_,rfl⟩ | ⟨_,rfl⟩ | ⟨_,rfl⟩ | ⟨_,rfl⟩ | ⟨_,rfl⟩ | ⟨_,rfl⟩ | ⟨_,rfl⟩ <;> simp
def Ik:List ByteArray→Option (List Int)
  | []=>some []
  | s::r=>match AeO s with
    | none=>none
    | some v=>match Ik r with
      | none=>none
      | some vs=>some (v::vs)
theorem Rp:∀ {l:List ByteArray} {vs:List Int},Ik l=some vs→vs.length=l.length
  | [],vs,h=>by cases h; rfl
  | s::r,vs,h=>by
    unfold Ik at h
    split at h
    · cases h
    · split at h
      · cases h
      · rename_i vs' hv
        cases h
        simp [Rp hv]
def XI (i:Nat) (z vs:List Int):List Int:=z.take i++vs++z.drop (i+vs.length)
theorem Ai4 {z:List Int} {i:Nat} (hi:i<z.length) (v:Int) (vs:List Int):XI (i+1) (z.set i v) vs=XI i z (v::vs):=by
  unfold XI
  rw [List.take_set,List.drop_set,if_pos (by omega),List.take_succ_eq_append_getElem hi,List.set_append_right _ _ (by rw [List.length_take]; omega),List.length_take,Nat.min_eq_left (by omega),Nat.sub_self]
  simp only [List.set_cons_zero,List.length_cons,List.append_assoc,List.singleton_append,List.cons_append,List.nil_append]
  rw [show i+1+vs.length=i+(vs.length+1) by omega]
theorem AaH (g:Ah) (e:Int) (x:EN) (full:List ByteArray) (hs:∀ s∈full,s.size≤1000000) (hl:full.length≤5):∀ (n i:Nat)(z:List Int),full.length-i<n→i≤full.length→z.length=5→match Ik (full.drop i) with
    | some vs=>Lz n g e x z full (full.length:Int) (i:Int)=some (.inl (g,((e,()),(x,(XI i z vs,((),((),((),((),()))))))) ))
    | none=>∃ z',Lz n g e x z full (full.length:Int) (i:Int)=some (.inr (g,((e,()),(x,(z',((),(A8.mk 4,())))))))
  | 0,_,_,h,_,_=>absurd h (Nat.not_lt_zero _)
  | n+1,i,z,h,hi,hz=>by
    rw [Lz]
    by_cases hx:i<full.length
    · have hd:full.drop i=full[i]::full.drop (i+1):=List.drop_eq_getElem_cons hx
      have ih:=fun z=>AaH g e x full hs hl n (i+1) z (by omega) (by omega)
      rw [show decide ((i:Int)<(full.length:Int))=true by simp; omega,cond_true,Ft hx,Option.bind_some,AgW (hs _ (List.getElem_mem hx)),Option.bind_some,hd,wN i (by omega)]
      unfold Ik
      cases hv:AeO full[i] with
      | none=>exact⟨z,rfl⟩
      | some v =>
        simp only [Sum.elim_inl]
        have h5:z.length.beq 5=true:=by rw [hz]; rfl
        rw [h5,cond_true,Ft (by omega),Option.bind_some,show((i:Nat):Int).toNat=i from rfl,AcH (by omega),Option.bind_some]
        have:=ih (z.set i v) (by simp [hz])
        cases hr:Ik (full.drop (i+1)) with
        | none =>
          rw [hr] at this
          exact this
        | some vs =>
          rw [hr] at this
          simp only
          simp only at this
          rw [this,Ai4 (by omega)]
    · have hd:full.drop i=[]:=by simp; omega
      rw [show decide ((i:Int)<(full.length:Int))=false by simp; omega,hd]
      simp [Ik,XI]
def JS (text:ByteArray):Option (Int×List Int) :=
  match D4 text with
  | []=>none
  | p::r=>match HA FC GS p with
    | none=>none
    | some x=>if ((r.length+1:Nat):Int)=x.many+1 then match Ik r with
        | none=>none
        | some vs=>some (x.do_.f,vs++List.replicate (5-vs.length) 0)
      else none
def Ej (s:A0) (f:Int):List Int→A0×Int
  | [a,b,c,d,e] =>
    if f=189 then Kh s (A6.mk a b c (IK.mk 0) d 0) else
    if f=190 then Kh s (A6.mk a b c (IK.mk 1) d 0) else
    if f=191 then Kh s (A6.mk a b c (IK.mk 2) 0 d) else
    if f=192 then Kh s (A6.mk a b c (IK.mk 3) 0 0) else
    if f=193 then Ada s a b else
    if f=194 then Aly s a b c else
    if f=195 then Oo s (Ac.mk a b c (IK.mk 0) d e) else
    if f=196 then Oo s (Ac.mk a b c (IK.mk 1) d 0) else
    if f=197 then Oo s (Ac.mk a b c (IK.mk 2) d e) else
    if f=198 then AeJ s a b else
    if f=199 then AeK s (Bu.mk a b (Rg.mk c d) e) else
    AeM s a b
  | _=>(s,4)
def DB (s:A0) (text:ByteArray):A0×Int:=match JS text with
  | none=>(s,4)
  | some (f,l)=>if (Ej s f l).2=0 then Ej s f l else(s,(Ej s f l).2)
theorem Il (c:UInt8):∀ (l:List UInt8),∀ p∈DX c l,p.length≤l.length
  | [],p,h=>by simp [DX] at h; subst h; simp
  | b::l,p,h=>by
    unfold DX at h
    cases hb:b == c with
    | true =>
      rw [hb,cond_true] at h
      rcases List.mem_cons.1 h with rfl | h
      · simp
      · have:=Il c l p h; simp; omega
    | false =>
      rw [hb,cond_false] at h
      split at h
      · rename_i hn; exact absurd hn (Ny c l)
      · rename_i q r hq
        have h1:=Il c l q (by rw [hq]; simp)
        rcases List.mem_cons.1 h with rfl | h
        · simp; omega
        · have:=Il c l p (by rw [hq]; simp [h]); simp; omega
theorem Adc {s p:ByteArray} (h:p∈D4 s):p.size≤s.size:=by
  unfold D4 at h
  obtain⟨l,hl,rfl⟩:=List.mem_map.1 h
  rw [Ih,PX]
  exact Il _ _ _ hl
theorem XJ {α:Type} {l:List α} {a b:Nat} (h:a≤b) (h2:b≤l.length):HB l (a:Int) (b:Int)=some ((l.drop a).take (b-a)):=by
  unfold HB
  rw [if_pos ⟨by omega,by omega,by omega⟩]
  simp
def AgX (y:(Ah×(Int×Unit)×Unit×Unit) ⊕ (Ah×(Int×Unit)×Unit×A8×Unit)):Option (Ah×Int×Unit):=match y with
  | .inl a=>some (a.1,a.2.1.1,())
  | .inr a=>some (a.1,a.2.2.2.1.errno,())
theorem AlL {x:Option ((Ah×Unit) ⊕ (Ah×A8×Unit))} {s:A0} {y:A0×Int} (e0:Int) (h:x=some (Db s y)):((x.bind fun v8=>Sum.elim (fun v9=>some (.inl (v9.fst,((0,()),((),()))))) (fun v9=>some (.inr (v9.fst,((e0,()),((),(v9.snd.fst,())))))) v8).bind AgX)=some (Ah.mk (if y.2=0 then y else(s,y.2)).1,(if y.2=0 then y else(s,y.2)).2,()):=by
  rw [h]
  unfold Db
  by_cases h0:y.2=0
  · rw [if_pos h0,if_pos h0,h0]; rfl
  · rw [if_neg h0,if_neg h0]; rfl
theorem Hv {x:Option ((Ah×Unit) ⊕ (Ah×A8×Unit))} {s:A0} {y z:A0×Int} (e0:Int) (h:x=some (Db s y)) (hz:z=y):((x.bind fun v8=>Sum.elim (fun v9=>some (.inl (v9.fst,((0,()),((),()))))) (fun v9=>some (.inr (v9.fst,((e0,()),((),(v9.snd.fst,())))))) v8).bind AgX)=some (Ah.mk (if z.2=0 then z else(s,z.2)).1,(if z.2=0 then z else(s,z.2)).2,()):=by
  subst hz; exact AlL e0 h
theorem Ak5:AjR (B [32])=true:=by decide
theorem JB {text p:ByteArray} {r:List ByteArray} (hp:D4 text=p::r):JS text=match HA FC GS p with
    | none=>none
    | some x=>if ((r.length+1:Nat):Int)=x.many+1 then match Ik r with
        | none=>none
        | some vs=>some (x.do_.f,vs++List.replicate (5-vs.length) 0)
      else none:=by
  unfold JS
  rw [hp]
theorem Ai5 {n:Nat} {s:A0} {text:ByteArray} (hg:H9 s) (hn:1300<n) (ht:text.size≤1000000):Akf n (Ah.mk s) text=some (Ah.mk (DB s text).1,(DB s text).2,()):=by
  show(Ae0 n (Ah.mk s) text 0).bind AgX=_
  unfold Ae0 DB Z6
  rw [Ak5,show Nat.blt text.size 4294967281=true from Nat.ble_eq_true_of_le (by omega),Bool.and_self,cond_true,Option.bind_some,Ai3,Option.bind_some]
  simp only
  have hsz:∀ q∈D4 text,q.size≤1000000:=fun q hq=>Nat.le_trans (Adc hq) ht
  cases hp:D4 text with
  | nil =>
    unfold D4 at hp
    exact absurd (List.map_eq_nil_iff.1 hp) (Ny 32 _)
  | cons p r =>
    rw [hp] at hsz
    rw [show AO (p::r) 0=some p from rfl,Option.bind_some]
    unfold EM Ba
    cases hw:HA FC GS p with
    | none =>
      have hpt:=JB hp
      rw [hw] at hpt
      rw [hpt]
      simp only [Option.isSome_none,cond_false,Gk]
      simp [G6,AgX]
    | some x =>
      obtain⟨m1,m2,f1,f2⟩:=Sw hw
      simp only [Option.isSome_some,cond_true,Option.getD_some]
      have hwr:IntKind.i64.wrap (x.many+1)=x.many+1:=P7 (by omega) (by omega)
      simp only [Gk,Option.bind_some,hwr,List.length_cons]
      by_cases hl:((r.length+1:Nat):Int)=x.many+1
      · have hpt:=JB hp
        rw [hw] at hpt
        simp only [if_pos hl] at hpt
        rw [decide_eq_true hl]
        simp only [G6,cond_true,Sum.elim_inl]
        have hsub:HB (p::r) 1 ((r.length+1:Nat):Int)=some r:=by
          have:=XJ (l:=p::r) (a:=1) (b:=r.length+1) (by omega) (by simp)
          rw [show((1:Nat):Int)=1 from rfl] at this
          rw [this]
          simp
        rw [hsub,Option.bind_some]
        have hloop:=AaH (Ah.mk s) 0 x r (fun q hq=>hsz q (by simp [hq])) (by omega) n 0 [0,0,0,0,0] (by omega) (by omega) rfl
        rw [show((0:Nat):Int)=0 from rfl,List.drop_zero] at hloop
        cases hv:Ik r with
        | none =>
          rw [hv] at hloop
          obtain⟨z',hz⟩:=hloop
          rw [hv] at hpt
          rw [hz,hpt]; simp [AgX]
        | some vs =>
          rw [hv] at hloop hpt
          simp only at hpt
          have hvl:=Rp hv
          rw [hpt]
          simp only
          rw [hloop,Option.bind_some]
          simp only [Sum.elim_inl]
          have hlaid:XI 0 [0,0,0,0,0] vs=vs++List.replicate (5-vs.length) 0:=by
            unfold XI
            rw [List.take_zero,List.nil_append,Nat.zero_add,show([0,0,0,0,0]:List Int)=List.replicate 5 0 from rfl,List.drop_replicate]
          have h5:(vs++List.replicate (5-vs.length) (0:Int)).length=5:=by rw [List.length_append,List.length_replicate]; omega
          rw [hlaid]
          generalize vs++List.replicate (5-vs.length) (0:Int)=l at *
          match l,h5 with
          | [a,b,c,d,e],_ =>
            generalize x.do_.f=f at *
            rw [show([a,b,c,d,e]:List Int).length.beq 5=true from rfl,cond_true]
            by_cases q0:f=189
            · subst q0; exact Hv _ (Aiz hg (by omega)) (by simp [Ej])
            rw [decide_eq_false q0,cond_false]
            by_cases q1:f=190
            · subst q1; exact Hv _ (Ak1 hg (by omega)) (by simp [Ej])
            rw [decide_eq_false q1,cond_false]
            by_cases q2:f=191
            · subst q2; exact Hv _ (AgU hg (by omega)) (by simp [Ej])
            rw [decide_eq_false q2,cond_false]
            by_cases q3:f=192
            · subst q3; exact Hv _ (AcZ hg (by omega)) (by simp [Ej])
            rw [decide_eq_false q3,cond_false]
            by_cases q4:f=193
            · subst q4; exact Hv _ (Ak2 hg (by omega)) (by simp [Ej])
            rw [decide_eq_false q4,cond_false]
            by_cases q5:f=194
            · subst q5; exact Hv _ (AlK hg (by omega)) (by simp [Ej])
            rw [decide_eq_false q5,cond_false]
            by_cases q6:f=195
            · subst q6; exact Hv _ (Ak3 hg (by omega)) (by simp [Ej])
            rw [decide_eq_false q6,cond_false]
            by_cases q7:f=196
            · subst q7; exact Hv _ (Ak4 hg (by omega)) (by simp [Ej])
            rw [decide_eq_false q7,cond_false]
            by_cases q8:f=197
            · subst q8; exact Hv _ (Ai0 hg (by omega)) (by simp [Ej])
            rw [decide_eq_false q8,cond_false]
            by_cases q9:f=198
            · subst q9; exact Hv _ (AeL hg (by omega)) (by simp [Ej])
            rw [decide_eq_false q9,cond_false]
            by_cases q10:f=199
            · subst q10; exact Hv _ (Ai1 hg (by omega)) (by simp [Ej])
            rw [decide_eq_false q10,cond_false]
            have q11:f=200:=by omega
            subst q11
            exact Hv _ (Ai2 hg (by omega)) (by simp [Ej])
      · have hpt:=JB hp
        rw [hw] at hpt
        simp only [if_neg hl] at hpt
        rw [decide_eq_false hl,hpt]; simp [G6,AgX]
end Go.Proofs.YtkpgggfibljflaaGreatDoor
namespace Go.Proofs.YtkpgggfibljflaaGreatDoor
open Go Go.RowKit Go.Proofs
def UW (s s':A0):Prop:=H9 s'∧s'.outs.length≤s.outs.length+1∧s'.runs.length≤s.runs.length+1∧s'.records.length≤s.records.length+1
def Ai6 (s:A0):Prop:=s.outs.length<200∧s.runs.length<200∧s.records.length<200
theorem UW.refl {s:A0} (h:H9 s):UW s s:=⟨h,by omega,by omega,by omega⟩
theorem Ai7 {l:List A6} (h:Alv l=0):l.length≤40:=by
  unfold Alv at h
  cases hr:Ps l with
  | inl e=>rw [hr] at h; have:=AaA hr; simp only at h; omega
  | inr y=>exact(Aa9 hr).1
theorem Rq {s:A0} (hg:H9 s) {c:A6} (hk:Ss c) (h0:(Kh s c).2=0):UW s (Kh s c).1:=by
  unfold Kh at h0 ⊢
  split at h0
  · cases h0
  · rename_i h1
    rw [if_neg h1]
    split at h0
    · rename_i h2
      rw [if_pos h2]
      refine⟨{ hg with kind:=fun a ha=>?_,cards:=Ai7 h2,chk:=h2 },by simp,by simp,by simp⟩
      rcases List.mem_append.1 ha with ha | ha
      · exact hg.kind a ha
      · rw [List.mem_singleton.1 ha]; exact hk
    · rename_i h2; exact absurd h0 h2
theorem Ai8 {s:A0} {a b:Int} (h0:(Ada s a b).2=0):(Ib a 0 99 && Ib b 0 1000000)=true∧XG s.outs a<0∧AaG s.runs a b=true∧Pt s.cards a b=([],0)∧(Ada s a b).1={ s with outs:=s.outs++[Sf.mk a b] }:=by
  unfold Ada at h0 ⊢
  by_cases c1:(Ib a 0 99 && Ib b 0 1000000)=true
  · rw [if_pos c1] at h0 ⊢
    by_cases c2:XG s.outs a<0
    · rw [if_pos c2] at h0 ⊢
      by_cases c3:AaG s.runs a b=true
      · rw [if_pos c3] at h0 ⊢
        by_cases c4:(Pt s.cards a b).2=0
        · rw [if_pos c4] at h0 ⊢
          by_cases c5:(Pt s.cards a b).1=[]
          · rw [if_pos c5]
            exact⟨c1,c2,c3,Prod.ext c5 c4,rfl⟩
          · rw [if_neg c5] at h0; cases h0
        · rw [if_neg c4] at h0; exact absurd h0 c4
      · rw [if_neg c3] at h0; cases h0
    · rw [if_neg c2] at h0; cases h0
  · rw [if_neg c1] at h0; cases h0
theorem Ai9 {s:A0} (hg:H9 s) (hr:Ai6 s) {a b:Int} (h0:(Ada s a b).2=0):UW s (Ada s a b).1:=by
  obtain⟨r1,r2,r3⟩:=hr
  rw [(Ai8 h0).2.2.2.2]
  exact⟨{ hg with outs:=by simp; omega },by simp,by simp,by simp⟩
theorem Alz {s:A0} {a b c:Int} (h0:(Aly s a b c).2=0):∃ (k:Nat)(hk:k<s.outs.length),Wf s.outs a=some k∧(Aly s a b c).1={ s with outs:=s.outs.eraseIdx k,runs:=s.runs++[W9.mk s.outs[k].bus s.outs[k].fr b c] }∧Ib b s.outs[k].fr 1000000=true∧Ib c 0 1000=true:=by
  unfold Aly at h0 ⊢
  cases hgo:Wf s.outs a with
  | none=>rw [hgo] at h0; cases h0
  | some k =>
    obtain⟨hk,_⟩:=Adb hgo
    rw [hgo] at h0
    simp only [List.getElem?_eq_getElem hk] at h0 ⊢
    by_cases c1:(Ib b s.outs[k].fr 1000000 && Ib c 0 1000)=true
    · rw [if_pos c1]
      rw [Bool.and_eq_true] at c1
      exact⟨k,hk,rfl,rfl,c1.1,c1.2⟩
    · rw [if_neg c1] at h0; cases h0
theorem Ak6 {s:A0} (hg:H9 s) (hr:Ai6 s) {a b c:Int} (h0:(Aly s a b c).2=0):UW s (Aly s a b c).1:=by
  obtain⟨r1,r2,r3⟩:=hr
  obtain⟨k,hk,_,e,_⟩:=Alz h0
  rw [e]
  have:=List.length_eraseIdx_le s.outs k
  exact⟨{ hg with outs:=by show(s.outs.eraseIdx k).length≤200; omega,runs:=by simp; omega },by show(s.outs.eraseIdx k).length≤_; omega,by simp,by simp⟩
theorem AiA {s:A0} {r:Ac} (h0:(Oo s r).2=0):(Oo s r).1={ s with records:=s.records++[r] }∧s.records.any (D3 r)=false∧JQ [s.records,[r]]=0:=by
  unfold Oo at h0 ⊢
  by_cases c1:s.records.any (D3 r)=true
  · rw [if_pos c1] at h0; cases h0
  · rw [if_neg c1] at h0 ⊢
    by_cases c2:JQ [s.records,[r]]=0
    · rw [if_pos c2]; exact⟨rfl,by simpa using c1,c2⟩
    · rw [if_neg c2] at h0; exact absurd h0 c2
theorem XK {s:A0} (hg:H9 s) (hr:Ai6 s) {r:Ac} (hk:ZV r) (h0:(Oo s r).2=0):UW s (Oo s r).1:=by
  obtain⟨r1,r2,r3⟩:=hr
  rw [(AiA h0).1]
  exact⟨{ hg with recs:=by simp; omega,rk:=fun a ha=>(List.mem_append.1 ha).elim (hg.rk a) (fun ha=>by rw [List.mem_singleton.1 ha]; exact hk) },by simp,by simp,by simp⟩
theorem XL {w:AD} (h:GO w=0):w.duties.length≤12∧w.drivers.length≤6:=by
  unfold GO at h
  by_cases c1:12<w.duties.length
  · rw [if_pos c1] at h; cases h
  · rw [if_neg c1] at h
    by_cases c2:6<w.drivers.length
    · rw [if_pos c2] at h; cases h
    · exact⟨by omega,by omega⟩
theorem AiB {s:A0} (hg:H9 s) {k off:Int} (h0:(AeJ s k off).2=0):UW s (AeJ s k off).1:=by
  unfold AeJ at h0 ⊢
  by_cases c:GO (WR s.week k off)=0
  · rw [if_pos c]
    obtain⟨w1,w2⟩:=XL c
    exact⟨{ hg with days:=hg.days,rest:=hg.rest,run:=hg.run,hours:=hg.hours,duties:=w1,drivers:=w2,ros:=hg.ros,wk:=c,drv:=fun d hd=>(List.mem_append.1 hd).elim (hg.drv d) (fun hd=>⟨k,off,List.mem_singleton.1 hd⟩) },by simp,by simp,by simp⟩
  · rw [if_neg c] at h0; exact absurd h0 c
theorem AiC {s:A0} (hg:H9 s) {d:Bu} (h0:(AeK s d).2=0):UW s (AeK s d).1:=by
  unfold AeK at h0 ⊢
  by_cases c:GO (UU s.week d)=0
  · rw [if_pos c]
    obtain⟨w1,w2⟩:=XL c
    exact⟨{ hg with days:=hg.days,rest:=hg.rest,run:=hg.run,hours:=hg.hours,duties:=w1,drivers:=w2,drv:=hg.drv,ros:=by simp [UU,hg.ros],wk:=c },by simp,by simp,by simp⟩
  · rw [if_neg c] at h0; exact absurd h0 c
theorem AiD {s:A0} (hg:H9 s) {i k:Int} (h0:(AeM s i k).2=0):UW s (AeM s i k).1:=by
  unfold AeM at h0 ⊢
  by_cases c1:(Ib i 0 ((s.roster.length:Int)-1) && Ib k (-1) ((s.week.drivers.length:Int)-1))=true
  · rw [if_pos c1] at h0 ⊢
    by_cases c2:XE s.week (s.roster.set i.toNat k)=true
    · rw [if_pos c2]
      exact⟨{ hg with ros:=by simp [hg.ros] },by simp,by simp,by simp⟩
    · rw [if_neg c2] at h0; cases h0
  · rw [if_neg c1] at h0; cases h0
theorem AgY {s:A0} (hg:H9 s) (hr:Ai6 s) {f:Int} {l:List Int} (h0:(Ej s f l).2=0):UW s (Ej s f l).1:=by
  unfold Ej at h0 ⊢
  split at h0
  · by_cases q0:f=189
    · rw [if_pos q0] at h0 ⊢; exact Rq hg ⟨by simp,by simp⟩ h0
    rw [if_neg q0] at h0 ⊢
    by_cases q0:f=190
    · rw [if_pos q0] at h0 ⊢; exact Rq hg ⟨by simp,by simp⟩ h0
    rw [if_neg q0] at h0 ⊢
    by_cases q0:f=191
    · rw [if_pos q0] at h0 ⊢; exact Rq hg ⟨by simp,by simp⟩ h0
    rw [if_neg q0] at h0 ⊢
    by_cases q0:f=192
    · rw [if_pos q0] at h0 ⊢; exact Rq hg ⟨by simp,by simp⟩ h0
    rw [if_neg q0] at h0 ⊢
    by_cases q0:f=193
    · rw [if_pos q0] at h0 ⊢; exact Ai9 hg hr h0
    rw [if_neg q0] at h0 ⊢
    by_cases q0:f=194
    · rw [if_pos q0] at h0 ⊢; exact Ak6 hg hr h0
    rw [if_neg q0] at h0 ⊢
    by_cases q0:f=195
    · rw [if_pos q0] at h0 ⊢; exact XK hg hr ⟨by simp,by simp⟩ h0
    rw [if_neg q0] at h0 ⊢
    by_cases q0:f=196
    · rw [if_pos q0] at h0 ⊢; exact XK hg hr ⟨by simp,by simp⟩ h0
    rw [if_neg q0] at h0 ⊢
    by_cases q0:f=197
    · rw [if_pos q0] at h0 ⊢; exact XK hg hr ⟨by simp,by simp⟩ h0
    rw [if_neg q0] at h0 ⊢
    by_cases q0:f=198
    · rw [if_pos q0] at h0 ⊢; exact AiB hg h0
    rw [if_neg q0] at h0 ⊢
    by_cases q0:f=199
    · rw [if_pos q0] at h0 ⊢; exact AiC hg h0
    rw [if_neg q0] at h0 ⊢
    exact AiD hg h0
  · cases h0
theorem AgZ {s:A0} (hg:H9 s) (hr:Ai6 s) (t:ByteArray):UW s (DB s t).1:=by
  unfold DB
  cases JS t with
  | none=>exact UW.refl hg
  | some y =>
    obtain⟨f,l⟩:=y
    simp only
    by_cases h0:(Ej s f l).2=0
    · rw [if_pos h0]; exact AgY hg hr h0
    · rw [if_neg h0]; exact UW.refl hg
theorem XM {s:A0} {t:ByteArray} (h:(DB s t).2≠0):(DB s t).1=s:=by
  unfold DB at h ⊢
  cases hp:JS t with
  | none=>rfl
  | some y =>
    obtain⟨f,l⟩:=y
    rw [hp] at h
    simp only at h ⊢
    by_cases h0:(Ej s f l).2=0
    · rw [if_pos h0] at h; exact absurd h0 h
    · rw [if_neg h0]
def AT:A0:=A0.mk [] [] [] [] (AD.mk 7 [] [] 600 5 3000) []
theorem AeP:H9 AT where
  kind:=by simp [AT]
  cards:=by simp [AT]
  outs:=by simp [AT]
  runs:=by simp [AT]
  rk:=by simp [AT]
  recs:=by simp [AT]
  days:=rfl
  rest:=rfl
  run:=rfl
  hours:=rfl
  duties:=by simp [AT]
  drivers:=by simp [AT]
  drv:=by simp [AT]
  ros:=rfl
  wk:=rfl
  chk:=rfl
def C5 (s:A0):List ByteArray→A0×List Int
  | []=>(s,[])
  | t::r=>((C5 (DB s t).1 r).1,(DB s t).2::(C5 (DB s t).1 r).2)
def UX (m:Nat) (s:A0):Prop:=H9 s∧s.outs.length+m≤200∧s.runs.length+m≤200∧s.records.length+m≤200
theorem UX.step {m:Nat} {s:A0} (h:UX (m+1) s) (t:ByteArray):UX m (DB s t).1:=by
  obtain⟨h1,h2,h3,h4⟩:=h
  obtain⟨a,b,c,d⟩:=AgZ h1 ⟨by omega,by omega,by omega⟩ t
  exact⟨a,by omega,by omega,by omega⟩
theorem UX.less {m k:Nat} {s:A0} (h:UX m s) (hk:k≤m):UX k s:=⟨h.1,by have:=h.2.1; omega,by have:=h.2.2.1; omega,by have:=h.2.2.2; omega⟩
theorem XN:UX 150 AT:=⟨AeP,by simp [AT],by simp [AT],by simp [AT]⟩
theorem XO:∀ (l:List ByteArray)(m:Nat)(s:A0),UX (m+l.length) s→UX m (C5 s l).1
  | [],m,s,h=>h
  | t::l,m,s,h=>by
    simp only [C5]
    exact XO l m _ (UX.step (by rw [show m+(t::l).length=m+l.length+1 by simp; omega] at h; exact h) t)
theorem AaI:∀ (l:List ByteArray)(s:A0),(C5 s l).2.length=l.length
  | [],_=>rfl
  | t::l,s=>by simp [C5,AaI l]
theorem XP (full:List ByteArray) (hs:∀ t∈full,t.size≤1000000) (hl:full.length≤150):∀ (n i:Nat)(s:A0)(es:List Int),1400+(full.length-i)<n→i≤full.length→UX (full.length-i) s→es.length=i→D9 n (Ah.mk s) es full (full.length:Int) (i:Int)=some (Ah.mk (C5 s (full.drop i)).1,((),(es++(C5 s (full.drop i)).2,())))
  | 0,_,_,_,h,_,_,_=>absurd h (Nat.not_lt_zero _)
  | n+1,i,s,es,h,hi,hL,he=>by
    rw [D9]
    by_cases hx:i<full.length
    · have hd:full.drop i=full[i]::full.drop (i+1):=List.drop_eq_getElem_cons hx
      rw [show decide ((i:Int)<(full.length:Int))=true by simp; omega,cond_true,Ft hx,Option.bind_some,Ai5 hL.1 (by omega) (hs _ (List.getElem_mem hx)),Option.bind_some]
      simp only
      rw [B8 (by simp; omega),Option.bind_some,wN i (by omega)]
      have hL':UX (full.length-(i+1)) (DB s full[i]).1:=UX.step (by rw [show full.length-(i+1)+1=full.length-i by omega]; exact hL) _
      rw [XP full hs hl n (i+1) _ _ (by omega) (by omega) hL' (by simp [he]),hd]
      simp [C5]
    · have hd:full.drop i=[]:=by simp; omega
      rw [show decide ((i:Int)<(full.length:Int))=false by simp; omega,hd]
      simp [C5]
theorem Ak7 {n:Nat} {lines:List ByteArray} (hs:∀ t∈lines,t.size≤1000000) (hl:lines.length≤150) (hn:1600≤n):IN n lines=some (Ah.mk (C5 AT lines).1,((C5 AT lines).2,())):=by
  unfold IN
  have h:=XP lines hs hl n 0 AT [] (by omega) (by omega) (XN.less (by omega)) rfl
  rw [show((0:Nat):Int)=0 from rfl,List.drop_zero,List.nil_append] at h
  show(D9 n (Ah.mk AT) [] lines (lines.length:Int) 0).bind _=_
  rw [h]; rfl
theorem AfV {n:Nat} {lines:List ByteArray} (hr:Oi lines=true) (hn:1600≤n):GK n lines=some ((C5 AT lines).1,((C5 AT lines).2,(0,()))):=by
  obtain⟨h1,h2⟩:=Sr.1 hr
  unfold GK
  rw [Aik (by omega) (by omega),hr,Option.bind_some]
  simp only [cond_true]
  rw [show((0:Int) != 0)=false from rfl,cond_false,Ak7 (fun t ht=>Nat.le_trans (h2 t ht) (by decide)) (by omega) hn]
  rfl
end Go.Proofs.YtkpgggfibljflaaGreatDoor
namespace Go.Proofs.YtkpgggfibljflaaGreatDoor
open Go Go.RowKit Go.Proofs
theorem AiE {n:Nat} {lines:List ByteArray} (hbig:lines.length≤4000000000000000000) (hn:lines.length<n):∃ b,Uw n lines=some (b,()):=by
  have H:∀ (n i:Nat)(z:Int),lines.length-i<n→i≤lines.length→∃ z',JN n lines z (i:Int)=some (lines,(z',())):=by
    intro n
    induction n with
    | zero=>intro i z h; exact absurd h (Nat.not_lt_zero _)
    | succ n ih =>
      intro i z h hi
      rw [JN]
      by_cases hx:i<lines.length
      · rw [show decide ((i:Int)<(lines.length:Int))=true by simp; omega,cond_true,Ft hx,Option.bind_some,wN i (by omega)]
        exact ih (i+1) _ (by omega) (by omega)
      · rw [show decide ((i:Int)<(lines.length:Int))=false by simp; omega,cond_false]
        exact⟨z,rfl⟩
  obtain⟨z,hz⟩:=H n 0 0 (by omega) (by omega)
  rw [show((0:Nat):Int)=0 from rfl] at hz
  unfold Uw
  rw [hz]
  simp only [Option.bind_some]
  generalize decide ((lines.length:Int)≤30)=b1
  generalize decide ((lines.length:Int)≤52)=b2
  generalize decide ((lines.length:Int)=1)=b3
  generalize decide (z≤1200)=b4
  generalize decide (z≤400)=b5
  cases b1 <;> cases b2 <;> cases b3 <;> cases b4 <;> cases b5 <;> exact⟨_,rfl⟩
theorem AeQ {n:Nat} {lines:List ByteArray} (hbig:lines.length≤4000000000000000000) (hn:lines.length<n):∃ b,Pm n lines=some (b,())∧(b=true→Oi lines=true):=by
  obtain⟨b,hb⟩:=AiE hbig hn
  unfold Pm
  rw [hb,Option.bind_some]
  cases b with
  | false=>exact⟨false,rfl,fun h=>by cases h⟩
  | true =>
    simp only [cond_true]
    rw [Ain hbig hn,Option.bind_some]
    exact⟨_,rfl,id⟩
end Go.Proofs.YtkpgggfibljflaaGreatDoor
namespace Go.Proofs.YtkpgggfibljflaaGreatDoor
open Go Go.RowKit Go.Proofs
theorem XQ (c:UInt8):∀ (p:List UInt8),(∀ b∈p,b≠c)→DX c p=[p]
  | [],_=>rfl
  | b::p,h=>by
    conv=>lhs; unfold DX
    have hb:(b == c)=false:=by simpa using h b (by simp)
    rw [hb,cond_false,XQ c p fun x hx=>h x (by simp [hx])]
theorem XR (c:UInt8) (q:List UInt8):∀ (p:List UInt8),(∀ b∈p,b≠c)→DX c (p++c::q)=p::DX c q
  | [],_=>by simp [DX]
  | b::p,h=>by
    rw [List.cons_append]
    conv=>lhs; unfold DX
    have hb:(b == c)=false:=by simpa using h b (by simp)
    rw [hb,cond_false,XR c q p fun x hx=>h x (by simp [hx])]
theorem Qa (l:List UInt8) (hl:l.length≤1000000):∀ (n i fr:Nat)(out:List ByteArray),l.length+1-i<n→i≤l.length→fr≤i→out.length≤i→(∀ b∈(l.drop fr).take (i-fr),b≠32)→Da n (Og l) out (fr:Int) (i:Int)=some (out++(DX 32 (l.drop fr)).map Og,())
  | 0,_,_,_,h,_,_,_,_=>absurd h (Nat.not_lt_zero _)
  | n+1,i,fr,out,h,hi,hf,ho,hb=>by
    rw [Da,Ih,show decide ((i:Int)≤(l.length:Int))=true from decide_eq_true (by omega),cond_true]
    have hsub:JU (Og l) (fr:Int) (i:Int)=some (Og ((l.drop fr).take (i-fr))):=Aa7 hf hi
    by_cases hx:i=l.length
    · rw [show decide ((i:Int)=(l.length:Int))=true from decide_eq_true (by omega),Bool.not_true,cond_false,hsub,Option.bind_some,B8 (by simp; omega),Option.bind_some,wN i (by omega)]
      have ht:(l.drop fr).take (i-fr)=l.drop fr:=List.take_of_length_le (by rw [List.length_drop]; omega)
      rw [ht] at hb ⊢
      rw [XQ 32 _ hb]
      obtain⟨m,rfl⟩:∃ m,n=m+1:=⟨n-1,by omega⟩
      rw [Da,Ih,show decide (((i+1:Nat):Int)≤(l.length:Int))=false from decide_eq_false (by omega)]
      rfl
    · have hlt:i<l.length:=by omega
      rw [show decide ((i:Int)=(l.length:Int))=false from decide_eq_false (by omega),Bool.not_false,cond_true,Tz hlt,Option.bind_some,wN i (by omega)]
      have hd:l.drop fr=(l.drop fr).take (i-fr)++l[i]::l.drop (i+1):=by
        conv=>lhs; rw [← List.take_append_drop (i-fr) (l.drop fr)]
        rw [List.drop_drop,show fr+(i-fr)=i by omega,List.drop_eq_getElem_cons hlt]
      by_cases h32:l[i]=32
      · rw [show decide (((l[i].toNat:Nat):Int)=32)=true by rw [h32]; rfl,cond_true,hsub,Option.bind_some,B8 (by simp; omega),Option.bind_some]
        rw [Qa l hl n (i+1) (i+1) _ (by omega) (by omega) (by omega) (by simp; omega) (by simp)]
        conv=>rhs; rw [hd,h32,XR 32 _ _ hb]
        simp
      · have hne : ¬ (((l[i].toNat:Nat):Int)=32):=fun h=>h32 (UInt8.toNat_inj.1 (by show l[i].toNat=32; omega))
        rw [decide_eq_false hne,cond_false]
        refine Qa l hl n (i+1) fr out (by omega) (by omega) (by omega) (by omega) ?_
        intro b hb'
        have:(l.drop fr).take (i+1-fr)=(l.drop fr).take (i-fr)++[l[i]]:=by
          rw [show i+1-fr=(i-fr)+1 by omega,List.take_succ_eq_append_getElem (by rw [List.length_drop]; omega)]
          simp [show fr+(i-fr)=i by omega]
        rw [this] at hb'
        rcases List.mem_append.1 hb' with hb' | hb'
        · exact hb b hb'
        · rw [List.mem_singleton.1 hb']; exact h32
theorem AiF {n:Nat} {s:ByteArray} (hs:s.size≤1000000) (hn:s.size+2≤n):Pf n s=some (D4 s,()):=by
  have hl:s.data.toList.length≤1000000:=by rw [← PX]; exact hs
  have h:=Qa s.data.toList hl n 0 0 [] (by rw [← PX]; omega) (by omega) (by omega) (by simp) (by simp)
  rw [Qx,show((0:Nat):Int)=0 from rfl,List.drop_zero,List.nil_append] at h
  unfold Pf
  rw [h]; rfl
theorem Wg (l:List UInt8) (hl:l.length≤9) (minus:Bool):∀ (n i a:Nat),l.length-i<n→i≤l.length→a<10 ^ i→Bc n minus (Og l) (a:Int) (i:Int)=some (match UR (a:Int) (l.drop i) with | some v=>.inl (minus,(v,())) | none=>.inr (0,(false,())))
  | 0,_,_,h,_,_=>absurd h (Nat.not_lt_zero _)
  | n+1,i,a,h,hi,ha=>by
    rw [Bc,Ih]
    by_cases hx:i<l.length
    · have hd:l.drop i=l[i]::l.drop (i+1):=List.drop_eq_getElem_cons hx
      have h9:10 ^ i≤10 ^ 9:=Nat.pow_le_pow_right (by decide) (by omega)
      have h8:=l[i].toNat_lt
      rw [show decide ((i:Int)<(l.length:Int))=true from decide_eq_true (by omega),cond_true,Tz hx,Option.bind_some,hd]
      unfold UR
      simp only [Option.bind_some]
      by_cases h48:l[i].toNat<48
      · rw [show decide (((l[i].toNat:Nat):Int)<48)=true from decide_eq_true (by omega),Oj.2 h48]; rfl
      · rw [show decide (((l[i].toNat:Nat):Int)<48)=false from decide_eq_false (by omega),JP.2 (by omega)]
        by_cases h57:57<l[i].toNat
        · rw [show decide (((l[i].toNat:Nat):Int)>57)=true from decide_eq_true (by omega),Oj.2 h57]; rfl
        · rw [show decide (((l[i].toNat:Nat):Int)>57)=false from decide_eq_false (by omega),JP.2 (by omega)]
          simp only [Bool.not_false,cond_true,cond_false,Bool.or_self]
          have e1:IntKind.i64.wrap (IntKind.i64.wrap (10*(a:Int))+IntKind.i64.wrap (IntKind.u8.wrap (((l[i].toNat:Nat):Int)-48)))=((10*a+(l[i].toNat-48):Nat):Int):=by
            rw [Alu (by omega) (by omega),P7 (x:=10*(a:Int)) (by omega) (by omega),P7 (x:=((l[i].toNat:Nat):Int)-48) (by omega) (by omega),P7 (by omega) (by omega)]
            omega
          rw [e1,wN i (by omega),Wg l hl minus n (i+1) _ (by omega) (by omega) (by rw [Nat.pow_succ]; omega)]
          rw [show((10*a+(l[i].toNat-48):Nat):Int)=10*(a:Int)+((l[i].toNat:Int)-48) by omega]
    · have hd:l.drop i=[]:=by simp; omega
      rw [show decide ((i:Int)<(l.length:Int))=false from decide_eq_false (by omega),hd]
      rfl
end Go.Proofs.YtkpgggfibljflaaGreatDoor
namespace Go.Proofs.YtkpgggfibljflaaGreatDoor
open Go Go.RowKit Go.Proofs
theorem AaJ:∀ {l:List UInt8} {i a:Nat} {v:Int},a<10 ^ i→UR (a:Int) l=some v→0≤v∧v<10 ^ (i+l.length)
  | [],i,a,v,ha,h=>by
    have:(a:Int)=v:=Option.some.inj h
    subst this
    exact⟨by omega,by exact_mod_cast ha⟩
  | b::r,i,a,v,ha,h=>by
    unfold UR at h
    cases hb:(Nat.blt b.toNat 48 || Nat.blt 57 b.toNat) with
    | true=>rw [hb] at h; cases h
    | false =>
      rw [hb,cond_false] at h
      obtain⟨h1,h2⟩:=Bool.or_eq_false_iff.1 hb
      rw [JP] at h1 h2
      rw [show 10*(a:Int)+((b.toNat:Int)-48)=((10*a+(b.toNat-48):Nat):Int) by omega] at h
      have:=AaJ (i:=i+1) (by rw [Nat.pow_succ]; omega) h
      rwa [show i+1+r.length=i+(b::r).length by simp; omega] at this
def UY (o:Option Int):Int×Bool×Unit:=match o with | some v=>(v,true,()) | none=>(0,false,())
theorem AeR {n:Nat} (minus:Bool) {d:List UInt8} (hd:d.length≤9) (hn:10<n) :
    ((Bc n minus (Og d) 0 0).bind fun v3 =>
      Sum.elim (fun v4=>bif v4.fst then(some (IntKind.i64.wrap (0-v4.snd.fst),(true,()))) else
      some (v4.snd.fst,(true,()))) (fun v4=>some (v4.fst,(v4.snd.fst,()))) (v3))=some (UY ((UR 0 d).map fun v=>bif minus then -v else v)):=by
  have h:=Wg d hd minus n 0 0 (by omega) (by omega) (by simp)
  rw [show((0:Nat):Int)=0 from rfl,List.drop_zero] at h
  rw [h,Option.bind_some]
  cases hv:UR 0 d with
  | none=>rfl
  | some v =>
    have hb:=AaJ (i:=0) (a:=0) (by simp) hv
    have h10:(10:Int) ^ (0+d.length)≤10 ^ 9:=by
      have:(10:Nat) ^ (0+d.length)≤10 ^ 9:=Nat.pow_le_pow_right (by decide) (by omega)
      exact_mod_cast this
    cases minus with
    | false=>rfl
    | true =>
      simp only [Sum.elim_inl,cond_true,Option.map_some]
      rw [P7 (x:=0-v) (by omega) (by omega)]
      simp [UY]
theorem AaK {n:Nat} (minus:Bool) (d:List UInt8) (hn:10<n) :
    (bif !decide ((↑(Og d).size:Int)=0) then(bif !decide ((↑(Og d).size:Int)>9) then((Px (Og d) 0).bind fun v2 =>
    bif decide (v2.n=48) then(bif !decide ((↑(Og d).size:Int)>1) then(bif minus then(some (0,(false,()))) else
    (Bc n minus (Og d) 0 0).bind fun v3 =>
    Sum.elim (fun v4=>bif v4.fst then(some (IntKind.i64.wrap (0-v4.snd.fst),(true,()))) else
    some (v4.snd.fst,(true,()))) (fun v4=>some (v4.fst,(v4.snd.fst,()))) (v3)) else
    some (0,(false,()))) else
    (Bc n minus (Og d) 0 0).bind fun v3 =>
    Sum.elim (fun v4=>bif v4.fst then(some (IntKind.i64.wrap (0-v4.snd.fst),(true,()))) else
    some (v4.snd.fst,(true,()))) (fun v4=>some (v4.fst,(v4.snd.fst,()))) (v3)) else
    some (0,(false,()))) else
    some (0,(false,())))=some (UY (match d with
  | []=>none
  | b::r=>bif Nat.blt 9 d.length || (b.toNat == 48 && (Nat.blt 1 d.length || minus)) then none else(UR 0 d).map fun n=>bif minus then -n else n)):=by
  rcases d with _ | ⟨b,r⟩
  · rfl
  · rw [Ih,show decide ((((b::r).length:Nat):Int)=0)=false from decide_eq_false (by simp; omega)]
    by_cases h9:9<(b::r).length
    · rw [show decide ((((b::r).length:Nat):Int)>9)=true from decide_eq_true (by omega),Oj.2 h9]; rfl
    · rw [show decide ((((b::r).length:Nat):Int)>9)=false from decide_eq_false (by omega),JP.2 (by omega)]
      have ht:=AeR (n:=n) minus (d:=b::r) (by omega) hn
      have hz:=Tz (l:=b::r) (i:=0) (by simp)
      rw [show((0:Nat):Int)=0 from rfl] at hz
      rw [hz,Option.bind_some]
      simp only [Bool.not_false,cond_true,List.getElem_cons_zero,Bool.false_or]
      by_cases h48:b.toNat=48
      · rw [show decide (((b.toNat:Nat):Int)=48)=true from decide_eq_true (by omega),show(b.toNat == 48)=true by simpa using h48]
        by_cases h1:1<(b::r).length
        · rw [show decide ((((b::r).length:Nat):Int)>1)=true from decide_eq_true (by omega),Oj.2 h1]; rfl
        · rw [show decide ((((b::r).length:Nat):Int)>1)=false from decide_eq_false (by omega),JP.2 (by omega)]
          cases minus with
          | true=>rfl
          | false=>simp only [Bool.not_false,cond_true,cond_false,Bool.true_and,Bool.false_or]; exact ht
      · rw [show decide (((b.toNat:Nat):Int)=48)=false from decide_eq_false (by omega),show(b.toNat == 48)=false by simpa using h48]
        simp only [cond_false,Bool.false_and]
        exact ht
theorem AiG {n:Nat} (s:ByteArray) (hn:10<n):Ph n s=some (UY (KI s.data.toList)):=by
  obtain⟨l,rfl⟩:∃ l,s=Og l:=⟨s.data.toList,(Qx s).symm⟩
  show _=some (UY (KI l))
  unfold Ph
  rcases l with _ | ⟨b,r⟩
  · rfl
  · have hp:decide (((((Og (b::r)).size:Nat)):Int)>0)=true:=decide_eq_true (by rw [Ih]; simp)
    have hz:=Tz (l:=b::r) (i:=0) (by simp)
    rw [show((0:Nat):Int)=0 from rfl] at hz
    rw [hp,cond_true,hz,Option.bind_some]
    simp only [List.getElem_cons_zero]
    by_cases h45:b.toNat=45
    · have he:decide (((b.toNat:Nat):Int)=45)=true:=decide_eq_true (by omega)
      have hs:JU (Og (b::r)) 1 ((Og (b::r)).size:Int)=some (Og r):=by
        have:=Aa7 (l:=b::r) (a:=1) (b:=(b::r).length) (by simp) (by omega)
        rw [Ih]
        simpa using this
      rw [he,cond_true,hs,Option.bind_some,AaK true r hn]
      have hb:(b.toNat == 45)=true:=by simpa using h45
      unfold KI
      simp only [hb,cond_true,List.drop_succ_cons,List.drop_zero]
      cases r <;> rfl
    · have he:decide (((b.toNat:Nat):Int)=45)=false:=decide_eq_false (by omega)
      have hm:=AaK false (b::r) hn
      rw [hz] at hm
      simp only [List.getElem_cons_zero] at hm
      rw [he,cond_false,hm]
      have hb:(b.toNat == 45)=false:=by simpa using h45
      unfold KI
      simp only [hb,cond_false]
end Go.Proofs.YtkpgggfibljflaaGreatDoor
namespace Go.Proofs.YtkpgggfibljflaaGreatDoor
open Go Go.RowKit Go.Proofs
theorem BX {a b:ByteArray} (h:a≠b):a.beq b=false:=by
  cases hb:a.beq b with
  | false=>rfl
  | true =>
    have h2:(a.data == b.data)=true:=hb
    exact absurd (ByteArray.ext (eq_of_beq h2)) h
theorem B5 {β:Type} {a k:ByteArray} {v:β} {l:List (ByteArray×β)} (h:k≠a):HA FC ((a,v)::l) k=HA FC l k:=by
  have:FC a k=false:=by
    cases hb:FC a k with
    | false=>rfl
    | true=>exact absurd ((X9 a k).1 hb).symm h
  conv=>lhs; unfold HA
  simp only [this,cond_false]
theorem Ak8 (n:Nat) (w:ByteArray):R4 n w=some ((match HA FC GS w with | some x=>x.many | none=>0),()):=by
  by_cases h1:w=B [102,111,117,110,100]
  · subst h1; kernel_rfl
  by_cases h2:w=B [104,101,108,100]
  · subst h2; kernel_rfl
  by_cases h3:w=B [115,105,103,110,101,100]
  · subst h3; kernel_rfl
  by_cases h4:w=B [99,104,101,99,107,101,100]
  · subst h4; kernel_rfl
  by_cases h5:w=B [111,117,116]
  · subst h5; kernel_rfl
  by_cases h6:w=B [105,110]
  · subst h6; kernel_rfl
  by_cases h7:w=B [115,97,108,101]
  · subst h7; kernel_rfl
  by_cases h8:w=B [115,121,110,99]
  · subst h8; kernel_rfl
  by_cases h9:w=B [99,108,111,115,101]
  · subst h9; kernel_rfl
  by_cases h10:w=B [100,114,105,118,101,114]
  · subst h10; kernel_rfl
  by_cases h11:w=B [100,117,116,121]
  · subst h11; kernel_rfl
  by_cases h12:w=B [103,105,118,101]
  · subst h12; kernel_rfl
  have hm:HA FC GS w=none:=by
    unfold GS
    rw [B5 h1,B5 h2,B5 h3,B5 h4,B5 h5,B5 h6,B5 h7,B5 h8,B5 h9,B5 h10,B5 h11,B5 h12]
    rfl
  rw [hm]
  unfold R4
  simp only [BX h1,BX h2,BX h3,BX h4,BX h5,BX h6,BX h7,BX h8,BX h9,BX h10,BX h11,BX h12,cond_false]
theorem Wh (full:List ByteArray) (k:Nat) (hk:full.length=k+1) (h6:k≤5):∀ (n i:Nat)(l:List Int),full.length+11-i<n→i≤full.length→l.length≤i→Hu n full (k:Int) l (i:Int)=some (match Ik (full.drop i) with | some vs=>.inl (full,l++vs,()) | none=>.inr (B [],[],false,()))
  | 0,_,_,h,_,_=>absurd h (Nat.not_lt_zero _)
  | n+1,i,l,h,hi,hl=>by
    rw [Hu]
    by_cases hx:i<full.length
    · have hd:full.drop i=full[i]::full.drop (i+1):=List.drop_eq_getElem_cons hx
      rw [show decide ((i:Int)≤(k:Int))=true from decide_eq_true (by omega),cond_true,Ft hx,Option.bind_some,AiG _ (by omega),Option.bind_some,hd,wN i (by omega)]
      unfold Ik
      rw [show KI full[i].data.toList=AeO full[i] from rfl]
      cases hv:AeO full[i] with
      | none=>rfl
      | some v =>
        simp only [UY,Bool.not_true,cond_false]
        rw [B8 (by simp; omega),Option.bind_some,Wh full k hk h6 n (i+1) (l++[v]) (by omega) (by omega) (by simp; omega)]
        cases Ik (full.drop (i+1)) with
        | none=>rfl
        | some vs=>simp
    · have hd:full.drop i=[]:=by simp; omega
      rw [show decide ((i:Int)≤(k:Int))=false from decide_eq_false (by omega),hd]
      simp [Ik]
def AeS (text:ByteArray):Option (ByteArray×List Int) :=
  match D4 text with
  | []=>none
  | p::r=>match HA FC GS p with
    | none=>none
    | some x=>if ((r.length+1:Nat):Int)=x.many+1 then(Ik r).map fun vs=>(p,vs) else none
def AiH (o:Option (ByteArray×List Int)):ByteArray×List Int×Bool×Unit:=match o with | some p=>(p.1,p.2,true,()) | none=>(B [],[],false,())
theorem AiI {n:Nat} {s:ByteArray} (hs:s.size≤1000000) (hn:s.size+30≤n):Po n s=some (AiH (AeS s)):=by
  unfold Po
  rw [AiF hs (by omega),Option.bind_some]
  unfold AeS
  cases hp:D4 s with
  | nil=>exact absurd (List.map_eq_nil_iff.1 hp) (Ny _ _)
  | cons p r =>
    simp only
    have h0:AO (p::r) 0=some p:=rfl
    rw [h0,Option.bind_some,Ak8,Option.bind_some]
    cases hw:HA FC GS p with
    | none=>rfl
    | some x =>
      obtain⟨h2,h5,_,_⟩:=Sw hw
      simp only
      rw [decide_eq_false (show ¬ x.many=0 by omega),Bool.not_false,cond_true,P7 (x:=x.many+1) (by omega) (by omega)]
      by_cases hl:((r.length+1:Nat):Int)=x.many+1
      · rw [if_pos hl,show((((p::r).length:Nat):Int) != x.many+1)=false by simpa using hl,cond_false]
        have:=Wh (p::r) r.length (by simp) (by omega) n 1 [] (by simp; omega) (by simp) (by simp)
        rw [show((1:Nat):Int)=1 from rfl,show(r.length:Int)=x.many by omega] at this
        rw [this,Option.bind_some,List.drop_succ_cons,List.drop_zero]
        cases Ik r with
        | none=>rfl
        | some vs=>rfl
      · rw [if_neg hl,show((((p::r).length:Nat):Int) != x.many+1)=true by simpa using hl,cond_true]; rfl
end Go.Proofs.YtkpgggfibljflaaGreatDoor
namespace Go.Proofs.YtkpgggfibljflaaGreatDoor
open Go Go.RowKit Go.Proofs
theorem Ade {t:ByteArray} {f:Int} {l:List Int} (h:JS t=some (f,l)):∃ p r x vs,D4 t=p::r∧HA FC GS p=some x∧((r.length+1:Nat):Int)=x.many+1∧Ik r=some vs∧f=x.do_.f∧l=vs++List.replicate (5-vs.length) 0:=by
  cases hp:D4 t with
  | nil=>unfold D4 at hp; exact absurd (List.map_eq_nil_iff.1 hp) (Ny 32 _)
  | cons p r =>
    rw [JB hp] at h
    cases hw:HA FC GS p with
    | none=>rw [hw] at h; cases h
    | some x =>
      rw [hw] at h
      simp only at h
      by_cases hl:((r.length+1:Nat):Int)=x.many+1
      · rw [if_pos hl] at h
        cases hv:Ik r with
        | none=>rw [hv] at h; cases h
        | some vs =>
          rw [hv] at h
          cases h
          exact⟨p,r,x,vs,rfl,hw,hl,hv,rfl,rfl⟩
      · rw [if_neg hl] at h; cases h
theorem Aha {s:A0} {t:ByteArray} (h:(DB s t).2=0):∃ y,JS t=some y∧(Ej s y.1 y.2).2=0∧(DB s t).1=(Ej s y.1 y.2).1:=by
  unfold DB at h ⊢
  cases hp:JS t with
  | none=>rw [hp] at h; cases h
  | some y =>
    obtain⟨f,l⟩:=y
    rw [hp] at h
    simp only at h ⊢
    by_cases h0:(Ej s f l).2=0
    · rw [if_pos h0]; exact⟨_,rfl,h0,rfl⟩
    · rw [if_neg h0] at h; exact absurd h h0
end Go.Proofs.YtkpgggfibljflaaGreatDoor
namespace Go.Proofs.YtkpgggfibljflaaGreatDoor
open Go Go.RowKit Go.Proofs
theorem Xw {s:A0} {c:A6} (h0:(Kh s c).2=0):(Kh s c).1={ s with cards:=s.cards++[c] }:=by
  unfold Kh at h0 ⊢
  split at h0
  · cases h0
  · rename_i h1
    rw [if_neg h1]
    split at h0
    · rename_i h2; rw [if_pos h2]
    · rename_i h2; exact absurd h0 h2
theorem AiJ {t:ByteArray} {f:Int} {l:List Int} (h:JS t=some (f,l)):189≤f∧f≤200∧l.length=5:=by
  obtain⟨p,r,x,vs,_,hw,hl,hv,rfl,rfl⟩:=Ade h
  obtain⟨m1,m2,f1,f2⟩:=Sw hw
  have:=Rp hv
  exact⟨f1,f2,by rw [List.length_append,List.length_replicate]; omega⟩
end Go.Proofs.YtkpgggfibljflaaGreatDoor
namespace Go.Proofs.YtkpgggfibljflaaGreatDoor
open Go Go.RowKit Go.Proofs
theorem AaL {α:Type} {F:Nat→Int→Option (Unit ⊕ (Bool×Unit))} (l:List α) (q:α→α→Bool) (hq:∀ a,q a a=true) (hl:l.length≤4000000000000000000)
    (hF:∀ n i,F (n+1) i=bif decide (i<(l.length:Int)) then(AO l i).bind (fun v0=>(AO l i).bind fun v1=>bif !q v0 v1 then some (.inr (false,())) else F n (IntKind.i64.wrap (i+1))) else some (.inl ())):∀ (n i:Nat),l.length-i<n→i≤l.length→F n (i:Int)=some (.inl ())
  | 0,_,h,_=>absurd h (Nat.not_lt_zero _)
  | n+1,i,h,hi=>by
    rw [hF]
    by_cases hx:i<l.length
    · rw [show decide ((i:Int)<(l.length:Int))=true by simp; omega,cond_true,Ft hx,Option.bind_some,Option.bind_some,hq,Bool.not_true,cond_false,wN i (by omega)]
      exact AaL l q hq hl hF n (i+1) (by omega) (by omega)
    · rw [show decide ((i:Int)<(l.length:Int))=false by simp; omega]; rfl
end Go.Proofs.YtkpgggfibljflaaGreatDoor
namespace Go.Proofs.YtkpgggfibljflaaGreatDoor
open Go Go.RowKit Go.Proofs
def AiK (cur:Int) (s:At):Prop:=-1≤s.day∧s.day≤cur∧0≤s.row∧s.row≤5∧0≤s.used∧s.used≤1440*(s.day+1)∧-20000≤s.free∧s.free≤20000
def AmN (a b:At):Prop:=a.free≤b.free∧a.used≤b.used∧((a.day=b.day∧a.row≤b.row)∨a.day<b.day)
def AlM (cur:Int) (a b:List At):Prop:=a.length=6∧b.length=6∧∀ k:Nat,k<6→AiK cur (a.getD k ZP)∧AiK cur (b.getD k ZP)∧AmN (a.getD k ZP) (b.getD k ZP)
theorem AiK.up {a b:Int} {s:At} (h:AiK a s) (hab:a≤b):AiK b s:=⟨h.1,by have:=h.2.1; omega,h.2.2⟩
theorem AlM.up {a b:Int} {x y:List At} (h:AlM a x y) (hab:a≤b):AlM b x y:=⟨h.1,h.2.1,fun k hk=>by
  obtain⟨p,q,s⟩:=h.2.2 k hk
  exact⟨p.up hab,q.up hab,s⟩⟩
end Go.Proofs.YtkpgggfibljflaaGreatDoor
namespace Go.Proofs.YtkpgggfibljflaaGreatDoor
open Go Go.RowKit Go.Proofs
def Ahb (a b:Ac):Prop:=BW a≠BW b∧(a.machine=b.machine→(a.seq<b.seq→a.minute≤b.minute)∧(b.seq<a.seq→b.minute≤a.minute))
theorem Ahb.symm {a b:Ac} (h:Ahb a b):Ahb b a:=⟨fun e=>h.1 e.symm,fun e=>⟨(h.2 e.symm).2,(h.2 e.symm).1⟩⟩
theorem AbD {a b:Ac}:BW a≠BW b↔¬ (a.machine=b.machine∧a.seq=b.seq):=by simp [BW]
abbrev Adf (l:List Ac):Prop:=l.Pairwise fun a b=>BW a≠BW b
theorem Ahc {m:List (JE×Ac)} {k:JE}:EM AB m k=false↔HA AB m k=none:=by
  unfold EM
  cases HA AB m k <;> simp
theorem AeT:∀ (l:List Ac)(m:List (JE×Ac))(o:List Ac),Adf l→(∀ a∈l,EM AB m (BW a)=false)→ZO m o l=some (o++l)
  | [],m,o,_,_=>by simp [ZO]
  | r::l,m,o,hd,hm=>by
    obtain⟨h1,h2⟩:=List.pairwise_cons.1 hd
    unfold ZO
    rw [hm r (by simp),cond_false,AeT l _ _ h2 fun a ha=>?_]
    · simp
    · cases hb:EM AB (Ip AB m (BW r) r) (BW a) with
      | false=>rfl
      | true =>
        rcases(US KN _ _ _ _).1 hb with h | h
        · exact absurd h (h1 a ha)
        · rw [hm a (by simp [ha])] at h; cases h
theorem AfW:∀ (l:List Ac)(m:List (JE×Ac))(o:List Ac)(r:Ac),Adf l→(∀ a∈l,EM AB m (BW a)=false)→((∃ d,HA AB m (BW r)=some d∧d≠r)∨∃ a∈l,BW a=BW r∧a≠r)→ZO m o (l++[r])=none
  | [],m,o,r,_,_,h=>by
    rcases h with⟨d,h1,h2⟩ | ⟨a,h,_⟩
    · have hh:EM AB m (BW r)=true:=by unfold EM; rw [h1]; rfl
      have hs:D3 (Ba AB m (BW r) zR) r=false:=by
        have e:Ba AB m (BW r) zR=d:=by unfold Ba; rw [h1]; rfl
        rw [e]
        cases hb:D3 d r with
        | false=>rfl
        | true=>exact absurd (UT.1 hb) h2
      show ZO m o [r]=none
      unfold ZO
      rw [hh,cond_true,hs]; rfl
    · simp at h
  | x::l,m,o,r,hd,hm,h=>by
    obtain⟨h1,h2⟩:=List.pairwise_cons.1 hd
    show ZO m o (x::(l++[r]))=none
    unfold ZO
    rw [hm x (by simp),cond_false]
    refine AfW l _ _ r h2 (fun a ha=>?_) ?_
    · cases hb:EM AB (Ip AB m (BW x) x) (BW a) with
      | false=>rfl
      | true =>
        rcases(US KN _ _ _ _).1 hb with h | h
        · exact absurd h (h1 a ha)
        · rw [hm a (by simp [ha])] at h; cases h
    · rcases h with⟨d,e1,e2⟩ | ⟨a,ha,e1,e2⟩
      · left
        refine⟨d,?_,e2⟩
        rw [Ro KN,if_neg ?_]
        · exact e1
        · intro hx
          have:=hm x (by simp)
          rw [hx] at this
          rw [Ahc.1 this] at e1; cases e1
      · rcases List.mem_cons.1 ha with rfl | ha
        · left
          exact⟨a,by rw [Ro KN,if_pos e1],e2⟩
        · exact .inr ⟨a,ha,e1,e2⟩
theorem Adg {a b:Ac}:PS a b=true↔a.machine<b.machine∨(a.machine=b.machine∧a.seq≤b.seq):=by simp [PS]
theorem Ahd (a b c:Ac) (h1:PS a b=true) (h2:PS b c=true):PS a c=true:=by
  rw [Adg] at *; omega
theorem Ahe (a b:Ac) (h:PS a b=false):PS b a=true:=by
  have : ¬ PS a b=true:=by rw [h]; simp
  rw [Adg] at *; omega
theorem AbE (l:List Ac):(GV PS l).Pairwise fun a b=>PS a b=true:=Mw Ahd Ahe l
theorem Adh:∀ {l:List Ac},l.Pairwise (fun a b=>PS a b=true)→(Sv l=true↔l.Pairwise fun a b=>a.machine=b.machine→a.minute≤b.minute)
  | [],_=>by simp [Sv]
  | [a],_=>by simp [Sv]
  | a::b::r,hs=>by
    obtain⟨h1,h2⟩:=List.pairwise_cons.1 hs
    have ih:=Adh h2
    have hb:(!Aiq a b)=true↔(a.machine=b.machine→a.minute≤b.minute):=by
      unfold Aiq
      simp only [Bool.not_eq_true',Bool.and_eq_false_iff,decide_eq_false_iff_not]
      constructor
      · rintro(h | h) e
        · exact absurd e h
        · omega
      · intro h
        by_cases e:a.machine=b.machine
        · right; have:=h e; omega
        · exact .inl e
    show(!Aiq a b && Sv (b::r))=true↔_
    rw [Bool.and_eq_true,hb,ih]
    constructor
    · rintro⟨p,q⟩
      refine List.pairwise_cons.2 ⟨fun c hc=>?_,q⟩
      rcases List.mem_cons.1 hc with rfl | hc
      · exact p
      · intro e
        have hab:=Adg.1 (h1 b (by simp))
        have hbc:=Adg.1 ((List.pairwise_cons.1 h2).1 c hc)
        have e2:a.machine=b.machine:=by omega
        have:=p e2
        have:=(List.pairwise_cons.1 q).1 c hc (by omega)
        omega
    · intro h
      obtain⟨p,q⟩:=List.pairwise_cons.1 h
      exact⟨p b (by simp),q⟩
theorem AfX {l:List Ac} (hd:Adf l):Sv (GV PS l)=true↔l.Pairwise Ahb:=by
  have hp:=GB (le:=PS) l
  have hs:=AbE l
  have hd':Adf (GV PS l):=(List.Perm.pairwise_iff (fun {a b} (h:BW a≠BW b)=>h.symm) hp).2 hd
  rw [Adh hs,← List.Perm.pairwise_iff (fun {a b} (h:Ahb a b)=>h.symm) hp]
  constructor
  · intro h
    refine(hs.and (hd'.and h)).imp ?_
    rintro a b ⟨p,q,s⟩
    refine⟨q,fun e=>⟨fun _=>s e,fun hlt=>?_⟩⟩
    rw [Adg] at p
    omega
  · intro h
    refine(hs.and (hd'.and h)).imp ?_
    rintro a b ⟨p,q,s⟩ e
    rw [Adg] at p
    rw [AbD] at q
    exact(s.2 e).1 (by omega)
structure HN (l:List Ac):Prop where
  cmp:l.Pairwise Ahb
  right:∀ r∈l,BV r=true
  len:l.length≤60
theorem HN.dist {l:List Ac} (h:HN l):Adf l:=h.cmp.imp fun h=>h.1
theorem Xx {α:Type} {R:α→α→Prop} {l:List α} {x:α}:(l++[x]).Pairwise R↔l.Pairwise R∧∀ a∈l,R a x:=by
  rw [List.pairwise_append]
  simp
open Classical in
theorem Ahf {l:List Ac} (h:HN l) {r:Ac} (hn:l.any (D3 r)=false):JQ [l,[r]]=if BV r=false then 1 else if ¬ ∀ a∈l,Ahb a r then 6 else if 60≤l.length then 3 else 0:=by
  have hl:=h.len
  have hne:∀ a∈l,a≠r:=fun a ha e=>by
    have:l.any (D3 r)=true:=List.any_eq_true.2 ⟨a,ha,UT.2 e.symm⟩
    rw [this] at hn; cases hn
  have hc:R6 [l,[r]]=if BV r=false then 1 else 0:=by
    unfold R6
    have e1:l.all BV=true:=List.all_eq_true.2 h.right
    rw [if_neg (by simp)]
    simp only [List.all_cons,List.all_nil,Bool.and_true,List.length_cons,List.length_nil,e1,Bool.true_and]
    rw [decide_eq_true hl]
    cases BV r <;> rfl
  unfold JQ Kt
  rw [hc]
  cases hr:BV r with
  | false=>simp
  | true =>
    simp only [Bool.true_eq_false,if_false,ne_eq,not_true_eq_false]
    have hf:([l,[r]]:List (List Ac)).flatten=l++[r]:=by simp
    rw [hf]
    by_cases hw:∀ a∈l,BW a≠BW r
    · have hd:Adf (l++[r]):=Xx.2 ⟨h.dist,hw⟩
      rw [AeT _ _ _ hd (fun a _=>rfl)]
      simp only [List.nil_append]
      have hoc:=AfX hd
      by_cases hcm:∀ a∈l,Ahb a r
      · rw [hoc.2 (Xx.2 ⟨h.cmp,hcm⟩),cond_true]
        have e6:(if ¬ ∀ a∈l,Ahb a r then(6:Int) else if 60≤l.length then 3 else 0)=if 60≤l.length then 3 else 0:=if_neg fun h=>h hcm
        rw [e6]
        simp only [Nn,List.length_append,List.length_cons,List.length_nil]
        by_cases h60:60≤l.length
        · rw [if_pos h60,if_pos (by omega)]
        · rw [if_neg h60,if_neg (by omega)]
      · have:Sv (GV PS (l++[r]))=false:=by
          cases ho:Sv (GV PS (l++[r])) with
          | false=>rfl
          | true=>exact absurd (Xx.1 (hoc.1 ho)).2 hcm
        rw [this,cond_false,if_pos hcm]
    · have hcm : ¬ ∀ a∈l,Ahb a r:=fun hh=>hw fun a ha=>(hh a ha).1
      rw [if_pos hcm]
      have:∃ a∈l,BW a=BW r:=by
        refine Classical.byContradiction fun hh=>hw fun a ha e=>hh ⟨a,ha,e⟩
      obtain⟨a,ha,e⟩:=this
      rw [AfW l [] [] r h.dist (fun a _=>rfl) (.inr ⟨a,ha,e,hne a ha⟩)]
theorem AfY {s:A0} (h:HN s.records) {r:Ac}:(Oo s r).2=0↔BV r=true∧(∀ a∈s.records,Ahb a r)∧s.records.length<60:=by
  unfold Oo
  cases hs:s.records.any (D3 r) with
  | true =>
    simp only [if_true]
    constructor
    · intro h; cases h
    · rintro⟨_,h2,_⟩
      obtain⟨a,ha,e⟩:=List.any_eq_true.1 hs
      exact absurd rfl ((UT.1 e▸h2 a ha).1)
  | false =>
    have hm:=Ahf h hs
    simp only [Bool.false_eq_true,if_false]
    constructor
    · intro h0
      have hz:JQ [s.records,[r]]=0:=by
        by_cases c:JQ [s.records,[r]]=0
        · exact c
        · rw [if_neg c] at h0; exact absurd h0 c
      rw [hm] at hz
      by_cases c1:BV r=false
      · rw [if_pos c1] at hz; cases hz
      · rw [if_neg c1] at hz
        by_cases c2:∀ a∈s.records,Ahb a r
        · rw [if_neg (fun h=>h c2)] at hz
          by_cases c3:60≤s.records.length
          · rw [if_pos c3] at hz; cases hz
          · exact⟨by simpa using c1,c2,by omega⟩
        · rw [if_pos c2] at hz; cases hz
    · rintro⟨p,q,t⟩
      have hz:JQ [s.records,[r]]=0:=by
        rw [hm,if_neg (by simp [p]),if_neg (fun h=>h q),if_neg (by omega)]
      rw [if_pos hz]
theorem AlN {s:A0} (h:HN s.records) {r:Ac} (h0:(Oo s r).2=0):HN (s.records++[r]):=by
  obtain⟨p,q,t⟩:=(AfY h).1 h0
  refine⟨Xx.2 ⟨h.cmp,q⟩,fun a ha=>?_,by simp; omega⟩
  rcases List.mem_append.1 ha with ha | ha
  · exact h.right a ha
  · rw [List.mem_singleton.1 ha]; exact p
def Ak9 (f:Int):List Int→Ac
  | [a,b,c,d,e]=>if f=195 then Ac.mk a b c (IK.mk 0) d e else if f=196 then Ac.mk a b c (IK.mk 1) d 0 else Ac.mk a b c (IK.mk 2) d e
  | _=>zR
def Ml (t:ByteArray):Bool:=match JS t with
  | some (f,_)=>decide (195≤f) && decide (f≤197)
  | none=>false
def UZ (t:ByteArray):Ac:=match JS t with
  | some (f,l)=>if 195≤f∧f≤197 then Ak9 f l else zR
  | none=>zR
theorem T9 {s:A0} {t:ByteArray} (hc:Ml t=true):((DB s t).2=(Oo s (UZ t)).2)∧((DB s t).2=0→(DB s t).1={ s with records:=s.records++[UZ t] }):=by
  unfold Ml at hc
  unfold DB UZ
  cases hp:JS t with
  | none=>rw [hp] at hc; cases hc
  | some y =>
    obtain⟨f,l⟩:=y
    rw [hp] at hc
    simp only at hc ⊢
    have hf:195≤f∧f≤197:=by simpa using hc
    obtain⟨_,_,h5⟩:=AiJ hp
    rw [if_pos hf]
    have hw:Ej s f l=Oo s (Ak9 f l):=by
      match l,h5 with
      | [a,b,c,d,e],_ =>
        unfold Ej Ak9
        simp only
        rw [if_neg (by omega),if_neg (by omega),if_neg (by omega),if_neg (by omega),if_neg (by omega),if_neg (by omega)]
        by_cases q:f=195
        · rw [if_pos q,if_pos q]
        rw [if_neg q,if_neg q]
        by_cases q:f=196
        · rw [if_pos q,if_pos q]
        rw [if_neg q,if_neg q,if_pos (show f=197 by omega)]
    rw [hw]
    by_cases h0:(Oo s (Ak9 f l)).2=0
    · rw [if_pos h0]
      exact⟨rfl,fun _=>(AiA h0).1⟩
    · rw [if_neg h0]
      exact⟨rfl,fun h=>absurd h h0⟩
theorem Ahg {s:A0} {f:Int} {l:List Int} (hf : ¬ (195≤f∧f≤197)) (h0:(Ej s f l).2=0):(Ej s f l).1.records=s.records:=by
  unfold Ej at h0 ⊢
  split at h0
  · by_cases q0:f=189
    · rw [if_pos q0] at h0 ⊢; rw [Xw h0]
    rw [if_neg q0] at h0 ⊢
    by_cases q0:f=190
    · rw [if_pos q0] at h0 ⊢; rw [Xw h0]
    rw [if_neg q0] at h0 ⊢
    by_cases q0:f=191
    · rw [if_pos q0] at h0 ⊢; rw [Xw h0]
    rw [if_neg q0] at h0 ⊢
    by_cases q0:f=192
    · rw [if_pos q0] at h0 ⊢; rw [Xw h0]
    rw [if_neg q0] at h0 ⊢
    by_cases q0:f=193
    · rw [if_pos q0] at h0 ⊢; rw [(Ai8 h0).2.2.2.2]
    rw [if_neg q0] at h0 ⊢
    by_cases q0:f=194
    · rw [if_pos q0] at h0 ⊢; obtain⟨_,_,_,e,_⟩:=Alz h0; rw [e]
    rw [if_neg q0,if_neg (by omega),if_neg (by omega),if_neg (by omega)]
    rw [if_neg q0,if_neg (by omega),if_neg (by omega),if_neg (by omega)] at h0
    by_cases q0:f=198
    · rw [if_pos q0]; unfold AeJ; split <;> rfl
    rw [if_neg q0]
    by_cases q0:f=199
    · rw [if_pos q0]; unfold AeK; split <;> rfl
    rw [if_neg q0]
    unfold AeM
    split
    · split <;> rfl
    · rfl
  · cases h0
theorem XS {s:A0} {t:ByteArray} (h:Ml t=false):(DB s t).1.records=s.records:=by
  by_cases h0:(DB s t).2=0
  · obtain⟨y,hy,hw,e⟩:=Aha h0
    unfold Ml at h
    rw [hy] at h
    rw [e]
    exact Ahg (fun hc=>by simp [hc.1,hc.2] at h) hw
  · rw [XM h0]
theorem AeU {s:A0} (h:HN s.records) (t:ByteArray):HN (DB s t).1.records:=by
  cases hb:Ml t with
  | false=>rw [XS hb]; exact h
  | true =>
    obtain⟨e1,e2⟩:=T9 (s:=s) hb
    by_cases h0:(DB s t).2=0
    · rw [e2 h0]
      exact AlN h (by rw [← e1]; exact h0)
    · rw [XM h0]; exact h
theorem XT:∀ (l:List ByteArray)(s:A0),HN s.records→HN (C5 s l).1.records
  | [],_,h=>h
  | t::l,s,h=>by simp only [C5]; exact XT l _ (AeU h t)
theorem Adi:HN AT.records:=⟨List.Pairwise.nil,by simp [AT],by simp [AT]⟩
end Go.Proofs.YtkpgggfibljflaaGreatDoor
namespace Go.Proofs.YtkpgggfibljflaaGreatDoor
open Go Go.RowKit Go.Proofs
theorem AiL {p:ByteArray} {x:EN} (h:HA FC GS p=some x):(p=B [115,97,108,101]∧x.do_.f=195∧x.many=5)∨(p=B [115,121,110,99]∧x.do_.f=196∧x.many=4)∨(p=B [99,108,111,115,101]∧x.do_.f=197∧x.many=5)∨(p≠B [115,97,108,101]∧p≠B [115,121,110,99]∧p≠B [99,108,111,115,101]∧¬ (195≤x.do_.f∧x.do_.f≤197)):=by
  have:=XH FC (fun a b h=>(X9 a b).1 h) _ _ _ h
  simp only [GS,List.mem_cons,Prod.mk.injEq,List.not_mem_nil,or_false] at this
  rcases this with⟨rfl,rfl⟩ | ⟨rfl,rfl⟩ | ⟨rfl,rfl⟩ | ⟨rfl,rfl⟩ | ⟨rfl,rfl⟩ | ⟨rfl,rfl⟩ | ⟨rfl,rfl⟩ | ⟨rfl,rfl⟩ | ⟨rfl,rfl⟩ | ⟨rfl,rfl⟩ | ⟨rfl,rfl⟩ | ⟨rfl,rfl⟩ <;> first | exact .inl ⟨rfl,rfl,rfl⟩ | exact .inr (.inl ⟨rfl,rfl,rfl⟩) | exact .inr (.inr (.inl ⟨rfl,rfl,rfl⟩)) | exact .inr (.inr (.inr ⟨by decide,by decide,by decide,by decide⟩))
theorem Ahh {n:Nat} {t:ByteArray} (ht:t.size≤1000000) (hn:t.size+30≤n):MC n t=some (UZ t,Ml t,()):=by
  unfold MC
  rw [AiI ht hn,Option.bind_some]
  unfold AeS Ml UZ
  cases hp:D4 t with
  | nil=>unfold D4 at hp; exact absurd (List.map_eq_nil_iff.1 hp) (Ny 32 _)
  | cons p r =>
    rw [JB hp]
    simp only
    cases hw:HA FC GS p with
    | none=>rfl
    | some x =>
      simp only
      by_cases hl:((r.length+1:Nat):Int)=x.many+1
      · rw [if_pos hl,if_pos hl]
        cases hv:Ik r with
        | none=>rfl
        | some vs =>
          have hlen:=Rp hv
          simp only [AiH,Option.map_some,Bool.not_true,cond_false]
          rcases AiL hw with⟨rfl,hf,hm⟩ | ⟨rfl,hf,hm⟩ | ⟨rfl,hf,hm⟩ | ⟨h1,h2,h3,hf⟩
          · rw [hm] at hl
            obtain⟨a,b,c,d,e,rfl⟩:∃ a b c d e,vs=[a,b,c,d,e]:=by
              rcases vs with _ | ⟨a,_ | ⟨b,_ | ⟨c,_ | ⟨d,_ | ⟨e,_ | ⟨f,g⟩⟩⟩⟩⟩⟩ <;> first | exact⟨_,_,_,_,_,rfl⟩ | (simp at hlen; omega)
            rw [hf]; rfl
          · rw [hm] at hl
            obtain⟨a,b,c,d,rfl⟩:∃ a b c d,vs=[a,b,c,d]:=by
              rcases vs with _ | ⟨a,_ | ⟨b,_ | ⟨c,_ | ⟨d,_ | ⟨e,f⟩⟩⟩⟩⟩ <;> first | exact⟨_,_,_,_,rfl⟩ | (simp at hlen; omega)
            rw [hf]; rfl
          · rw [hm] at hl
            obtain⟨a,b,c,d,e,rfl⟩:∃ a b c d e,vs=[a,b,c,d,e]:=by
              rcases vs with _ | ⟨a,_ | ⟨b,_ | ⟨c,_ | ⟨d,_ | ⟨e,_ | ⟨f,g⟩⟩⟩⟩⟩⟩ <;> first | exact⟨_,_,_,_,_,rfl⟩ | (simp at hlen; omega)
            rw [hf]; rfl
          · have hb:(decide (195≤x.do_.f) && decide (x.do_.f≤197))=false:=by
              cases hc:(decide (195≤x.do_.f) && decide (x.do_.f≤197)) with
              | false=>rfl
              | true=>exact absurd (by simpa using hc) hf
            rw [BX h1,BX h2,BX h3,hb,if_neg hf]; rfl
      · rw [if_neg hl,if_neg hl]; rfl
def HO:List ByteArray→List Int→List ByteArray
  | t::l,e::es=>bif Ml t && decide (e=0) then t::HO l es else HO l es
  | _,_=>[]
theorem Va:∀ {l:List ByteArray} {es:List Int} {t:ByteArray},t∈HO l es→t∈l∧Ml t=true
  | [],_,_,h=>by simp [HO] at h
  | _::_,[],_,h=>by simp [HO] at h
  | x::l,e::es,t,h=>by
    unfold HO at h
    cases hb:Ml x && decide (e=0) with
    | false =>
      rw [hb,cond_false] at h
      have:=Va h
      exact⟨List.mem_cons_of_mem _ this.1,this.2⟩
    | true =>
      rw [hb,cond_true] at h
      rcases List.mem_cons.1 h with rfl | h
      · exact⟨by simp,(Bool.and_eq_true _ _▸hb).1⟩
      · have:=Va h
        exact⟨List.mem_cons_of_mem _ this.1,this.2⟩
theorem AaM:∀ (l:List ByteArray)(es:List Int),(HO l es).length≤l.length
  | [],_=>by simp [HO]
  | _::_,[]=>by simp [HO]
  | x::l,e::es=>by
    have:=AaM l es
    unfold HO
    cases Ml x && decide (e=0) <;> simp <;> omega
theorem AaN:∀ (l:List ByteArray)(s:A0),(C5 s l).1.records=s.records++(HO l (C5 s l).2).map UZ
  | [],s=>by simp [C5,HO]
  | t::l,s=>by
    have ih:=AaN l (DB s t).1
    simp only [C5,HO]
    rw [ih]
    cases hb:Ml t with
    | false=>rw [XS hb]; rfl
    | true =>
      by_cases h0:(DB s t).2=0
      · rw [(T9 hb).2 h0,decide_eq_true h0]; simp
      · rw [XM h0,decide_eq_false h0]; rfl
theorem Adj:∀ (l:List ByteArray)(s:A0),(∀ t∈l,Ml t=true)→HN (s.records++l.map UZ)→(C5 s l).2=List.replicate l.length 0∧(C5 s l).1.records=s.records++l.map UZ
  | [],s,_,_=>by simp [C5]
  | t::l,s,hb,hr=>by
    have hb0:=hb t (by simp)
    have hcmp:=List.pairwise_append.1 hr.cmp
    have hlen:=hr.len
    simp only [List.map_cons,List.length_append,List.length_cons,List.length_map] at hlen
    have hs:HN s.records:=⟨hcmp.1,fun r hx=>hr.right r (by simp [hx]),by omega⟩
    have h0:(DB s t).2=0:=by
      rw [(T9 hb0).1]
      exact(AfY hs).2 ⟨hr.right _ (by simp),fun a ha=>hcmp.2.2 a ha _ (by simp),by omega⟩
    have e:=(T9 hb0).2 h0
    have hr':HN ((DB s t).1.records++l.map UZ):=by
      rw [e]
      simpa using hr
    obtain⟨i1,i2⟩:=Adj l (DB s t).1 (fun x hx=>hb x (by simp [hx])) hr'
    simp only [C5]
    refine⟨by rw [i1,h0]; rfl,by rw [i2,e]; simp⟩
theorem HN.perm {a b:List Ac} (h:HN a) (hp:b.Perm a):HN b:=⟨(List.Perm.pairwise_iff (fun {a b} (h:Ahb a b)=>h.symm) hp).2 h.cmp,fun r hr=>h.right r (hp.mem_iff.1 hr),by rw [hp.length_eq]; exact h.len⟩
theorem XU:∀ {a b:List Ac},a.Perm b→Adf a→a.Pairwise (fun x y=>PS x y=true)→b.Pairwise (fun x y=>PS x y=true)→a=b
  | [],b,hp,_,_,_=>(List.Perm.nil_eq hp)
  | x::a,[],hp,_,_,_=>by simpa using hp.length_eq
  | x::a,y::b,hp,hd,ha,hb=>by
    obtain⟨a1,a2⟩:=List.pairwise_cons.1 ha
    obtain⟨b1,b2⟩:=List.pairwise_cons.1 hb
    obtain⟨d1,d2⟩:=List.pairwise_cons.1 hd
    have hxy:x=y:=by
      have hy:y∈x::a:=hp.mem_iff.2 (by simp)
      have hx:x∈y::b:=hp.mem_iff.1 (by simp)
      rcases List.mem_cons.1 hy with e | hy
      · exact e.symm
      · rcases List.mem_cons.1 hx with e | hx
        · exact e
        · have p:=Adg.1 (a1 y hy)
          have q:=Adg.1 (b1 x hx)
          exact absurd (by omega) (AbD.1 (d1 y hy))
    subst hxy
    rw [XU (List.Perm.cons_inv hp) d2 a2 b2]
theorem XV (s:ER) (x2:Em) (full:List Ac) (hl:full.length≤1000000):∀ (n i:Nat)(out:Em),full.length-i<n→i≤full.length→∃ o,Bo n s x2 out full (full.length:Int) (i:Int)=some (s,(x2,(o,((),((),((),()))))))
  | 0,_,_,h,_=>absurd h (Nat.not_lt_zero _)
  | n+1,i,out,h,hi=>by
    rw [Bo]
    by_cases hx:i<full.length
    · rw [show decide ((i:Int)<(full.length:Int))=true by simp; omega,cond_true,Ft hx,Option.bind_some,wN i (by omega)]
      cases decide (full[i].kind.n=0)
      · exact XV s x2 full hl n (i+1) _ (by omega) (by omega)
      · exact XV s x2 full hl n (i+1) _ (by omega) (by omega)
    · rw [show decide ((i:Int)<(full.length:Int))=false by simp; omega]
      exact⟨out,rfl⟩
theorem XW {n:Nat} (s:ER) (hl:s.between.length≤1000000) (hn:s.between.length<n):∃ x b,BO n s=some (x,(b,())):=by
  unfold BO
  obtain⟨o,ho⟩:=XV s (Em.mk 0 0 0 0 0) s.between hl n 0 (Em.mk s.to_.machine s.fr.seq s.to_.seq (IntKind.i64.wrap (s.to_.a-s.fr.a)) (IntKind.i64.wrap (s.to_.b-s.fr.b))) (by omega) (by omega)
  rw [show((0:Nat):Int)=0 from rfl] at ho
  rw [ho,Option.bind_some]
  simp only
  cases decide (0≤o.sales)
  · exact⟨_,_,rfl⟩
  simp only [cond_true]
  generalize decide (o.sales≤IntKind.i64.wrap (IntKind.i64.wrap (IntKind.i64.wrap (s.to_.seq-s.fr.seq)-1)-(s.between.length:Int)))=b1
  cases b1
  · exact⟨_,_,rfl⟩
  cases decide (0≤o.coins)
  · exact⟨_,_,rfl⟩
  · exact⟨_,_,rfl⟩
def AiM (m:Nat) (x:(((List Em×Unit)×(Int×Unit)×(List Em×Unit)×Unit)×Unit×Unit×Unit×(List Ac×Unit)×(Int×Int×Int×IK .u8×Int×Int×Int×Int×Int×IK .u8×Int×Int×List Ac×Unit)×Unit) ⊕ (((List Em×Unit)×(Int×Unit)×(List Em×Unit)×Unit)×Unit×Unit×Unit×(List Ac×Unit)×(Int×Int×Int×IK .u8×Int×Int×Int×Int×Int×IK .u8×Int×Int×List Ac×Unit)×Unit)):Prop:=match x with
  | .inl v=>v.fst.snd.snd.fst.fst.length≤m
  | .inr v=>v.fst.fst.fst.length≤m
theorem Adk (full:List Ac) (hl:full.length≤1000):∀ (n i:Nat)(y1:List Em)(y2:Int)(y3:List Em)(s1 s2 s3:Int)(s4:IK .u8)(s5 s6 s7 s8 s9:Int)(s10:IK .u8)(s11 s12:Int)(s13:List Ac),1100+(full.length-i)<n→i≤full.length→y3.length≤i→s13.length≤i→∃ x,AA n y1 y2 y3 full s1 s2 s3 s4 s5 s6 s7 s8 s9 s10 s11 s12 s13 full (full.length:Int) (i:Int)=some x∧AiM full.length x
  | 0,_,_,_,_,_,_,_,_,_,_,_,_,_,_,_,_,_,h,_,_,_=>absurd h (Nat.not_lt_zero _)
  | n+1,i,y1,y2,y3,s1,s2,s3,s4,s5,s6,s7,s8,s9,s10,s11,s12,s13,h,hi,hy,hs=>by
    rw [AA]
    by_cases hx:i<full.length
    · have ih:=fun y1 y2 y3 s1 s2 s3 s4 s5 s6 s7 s8 s9 s10 s11 s12 s13 hy hs=>Adk full hl n (i+1) y1 y2 y3 s1 s2 s3 s4 s5 s6 s7 s8 s9 s10 s11 s12 s13 (by omega) (by omega) hy hs
      have happ:∀ x,app y3 [x]=some (y3++[x]):=fun x=>B8 (by simp; omega)
      have happ2:∀ x,app s13 [x]=some (s13++[x]):=fun x=>B8 (by simp; omega)
      have hap:∀ x:Em,(y3++[x]).length≤i+1:=fun x=>by simp; omega
      have hap2:∀ x:Ac,(s13++[x]).length≤i+1:=fun x=>by simp; omega
      have one:∀ x:Ac,(([]:List Ac).append [x]).length≤i+1:=fun x=>by simp
      have nil:([]:List Ac).length≤i+1:=by simp
      rw [show decide ((i:Int)<(full.length:Int))=true by simp; omega,cond_true,Ft hx,Option.bind_some,wN i (by omega)]
      generalize hv:full[i]=v
      obtain⟨xa,ba,ha⟩:=XW (n:=n) (ER.mk (Ac.mk v.machine 0 0 (IK.mk 0) 0 0) v []) (by simp) (by simp; omega)
      obtain⟨xb,bb,hb⟩:=XW (n:=n) (ER.mk (Ac.mk s1 s2 s3 s4 s5 s6) v s13) (by show s13.length≤_; omega) (by show s13.length<_; omega)
      rw [ha,hb]
      simp only [Option.bind_some,happ,happ2]
      have fresh:∃ x,(bif v.kind.n != 2 then AA n y1 y2 y3 full v.machine 0 0 (IK.mk 0) 0 0 0 0 0 (IK.mk 0) 0 0 ([].append [v]) full (full.length:Int) ((i+1:Nat):Int) else bif !ba then(some (.inr ((([],()),((9,()),((y3,()),()))),((),((),((),((full,()),((v.machine,(0,(0,(IK.mk 0,(0,(0,(v.machine,(v.seq,(v.minute,(v.kind,(v.a,(v.b,([],()))))))))))))),())))))))) else bif decide (xa.sales>0) then AA n y1 y2 (y3++[xa]) full v.machine v.seq v.minute v.kind v.a v.b 0 0 0 (IK.mk 0) 0 0 [] full (full.length:Int) ((i+1:Nat):Int) else AA n y1 y2 y3 full v.machine v.seq v.minute v.kind v.a v.b 0 0 0 (IK.mk 0) 0 0 [] full (full.length:Int) ((i+1:Nat):Int))=some x∧AiM full.length x:=by
        cases v.kind.n != 2 with
        | true=>exact ih _ _ _ _ _ _ _ _ _ _ _ _ _ _ _ _ (by omega) (one v)
        | false =>
          cases ba with
          | false=>exact⟨_,rfl,Nat.zero_le _⟩
          | true =>
            cases decide (xa.sales>0) with
            | true=>exact ih _ _ _ _ _ _ _ _ _ _ _ _ _ _ _ _ (hap _) nil
            | false=>exact ih _ _ _ _ _ _ _ _ _ _ _ _ _ _ _ _ (by omega) nil
      by_cases h0:i=0
      · subst h0
        rw [show decide (((0:Nat):Int)=0)=true from rfl]
        exact fresh
      · rw [decide_eq_false (show ¬ ((i:Int)=0) by omega)]
        obtain⟨j,rfl⟩:∃ j,i=j+1:=⟨i-1,by omega⟩
        have hj:IntKind.i64.wrap (((j+1:Nat):Int)-1)=(j:Int):=by rw [P7 (by omega) (by omega)]; omega
        rw [hj,Ft (show j<full.length by omega)]
        simp only [Bool.not_false,cond_true,Option.bind_some]
        cases full[j].machine != v.machine with
        | true=>exact fresh
        | false =>
          simp only [cond_false]
          cases v.kind.n != 2 with
          | true=>exact ih _ _ _ _ _ _ _ _ _ _ _ _ _ _ _ _ (by omega) (hap2 v)
          | false =>
            cases bb with
            | false=>exact⟨_,rfl,Nat.zero_le _⟩
            | true =>
              cases decide (xb.sales>0) with
              | true=>exact ih _ _ _ _ _ _ _ _ _ _ _ _ _ _ _ _ (hap _) nil
              | false=>exact ih _ _ _ _ _ _ _ _ _ _ _ _ _ _ _ _ (by omega) nil
    · rw [show decide ((i:Int)<(full.length:Int))=false by simp; omega]
      exact⟨_,rfl,show y3.length≤full.length by omega⟩
theorem AeV {l:List Ac} (h:HN l):Kt [l]=.inr (GV PS l):=by
  have hc:R6 [l]=0:=by
    unfold R6
    have e1:l.all BV=true:=List.all_eq_true.2 h.right
    rw [if_neg (by simp)]
    simp only [List.all_cons,List.all_nil,Bool.and_true,e1]
    rw [decide_eq_true h.len]; rfl
  unfold Kt
  rw [hc,if_neg (by simp),show([l]:List (List Ac)).flatten=l by simp,AeT l [] [] h.dist (fun a _=>rfl)]
  simp only [List.nil_append]
  rw [(AfX h.dist).2 h.cmp]; rfl
theorem AeW {n:Nat} {l:List Ac} (h:HN l) (hk:∀ r∈l,ZV r) (hn:1300<n):∃ a e,Fq n l=some (a,(e,()))∧a.length≤1000∧∀ l',l'.Perm l→Fq n l' = some (a,(e,())):=by
  have hl:=h.len
  have key:∀ l',l'.Perm l→F8 n [l']=some (GV PS l,(0,())):=fun l' hp=>by
    have h':=h.perm hp
    have hl':=h'.len
    rw [AaC (fun x hx r hr=>by rw [List.mem_singleton.1 hx] at hr; exact hk r (hp.mem_iff.1 hr)) (by simp) (fun x hx=>by rw [List.mem_singleton.1 hx]; omega) (by simp; omega),AeV h']
    have:GV PS l' = GV PS l:=by
      refine XU ((GB l').trans (hp.trans (GB l).symm)) ?_ (AbE l') (AbE l)
      exact(List.Perm.pairwise_iff (fun {a b} (h:BW a≠BW b)=>h.symm) (GB l')).2 h'.dist
    rw [this]
  have hsl:(GV PS l).length≤60:=by rw [Nn]; exact hl
  have hi:=Adk (GV PS l) (by omega) n 0 [] 0 [] 0 0 0 (IK.mk 0) 0 0 0 0 0 (IK.mk 0) 0 0 [] (by omega) (by omega) (by simp) (by simp)
  rw [show((0:Nat):Int)=0 from rfl] at hi
  obtain⟨x,hx,hsx⟩:=hi
  have hrun:∀ l',l'.Perm l→Fq n l' = Sum.elim (fun v2=>some (v2.fst.snd.snd.fst.fst,(0,()))) (fun v2=>some (v2.fst.fst.fst,(v2.fst.snd.fst.fst,()))) x:=fun l' hp=>by
    unfold Fq
    rw [key l' hp,Option.bind_some]
    simp only
    rw [show((0:Int) != 0)=false from rfl,cond_false,hx,Option.bind_some]
  rw [hrun l (List.Perm.refl l)]
  cases x with
  | inl v=>exact⟨_,_,rfl,Nat.le_trans hsx (by omega),fun l' hp=>hrun l' hp⟩
  | inr v=>exact⟨_,_,rfl,Nat.le_trans hsx (by omega),fun l' hp=>hrun l' hp⟩
def AbF (r:Ac) (l:List Ac):Nat:=(l.filter fun v=>decide (v.machine=r.machine) && decide (v.seq=r.seq)).length
theorem AfZ {r:Ac}:∀ {l:List Ac},Adf l→r∈l→AbF r l=1
  | [],_,h=>by simp at h
  | x::l,hd,h=>by
    obtain⟨d1,d2⟩:=List.pairwise_cons.1 hd
    have none:∀ (l:List Ac),(∀ a∈l,BW r≠BW a)→AbF r l=0:=fun l hl=>by
      unfold AbF
      rw [List.length_eq_zero_iff,List.filter_eq_nil_iff]
      intro a ha hc
      have:=hl a ha
      rw [AbD] at this
      simp at hc
      exact this ⟨hc.1.symm,hc.2.symm⟩
    rcases List.mem_cons.1 h with rfl | h
    · have:=none l d1
      unfold AbF at this ⊢
      rw [List.filter_cons_of_pos (by simp),List.length_cons,this]
    · have:=AfZ d2 h
      have hx:=d1 r h
      rw [AbD] at hx
      unfold AbF at this ⊢
      rw [List.filter_cons_of_neg (by simp; intro e e2; exact hx ⟨e,e2⟩)]
      exact this
theorem AbG (lines:List ByteArray) (by_:IK .u8) (s:A0) (errs:List Int) (l:List ByteArray) (i:Int) (r:Ac) (hl:s.records.length≤1000):∀ (n k:Nat)(c:Nat),s.records.length-k<n→k≤s.records.length→c≤k→Bd n lines by_ s errs l i r (c:Int) (k:Int)=some (s,(r,(lines,(by_,((),(errs,(l,(i,(((c+AbF r (s.records.drop k):Nat):Int),())))))))))
  | 0,_,_,h,_,_=>absurd h (Nat.not_lt_zero _)
  | n+1,k,c,h,hk,hc=>by
    rw [Bd]
    by_cases hx:k<s.records.length
    · have hd:s.records.drop k=s.records[k]::s.records.drop (k+1):=List.drop_eq_getElem_cons hx
      rw [show decide ((k:Int)<(s.records.length:Int))=true by simp; omega,cond_true,Ft hx,Option.bind_some,wN k (by omega),wN c (by omega),hd]
      unfold AbF
      by_cases h1:s.records[k].machine=r.machine
      · rw [decide_eq_true h1,cond_true]
        by_cases h2:s.records[k].seq=r.seq
        · rw [decide_eq_true h2,cond_true,AbG lines by_ s errs l i r hl n (k+1) (c+1) (by omega) (by omega) (by omega),List.filter_cons_of_pos (by simp [h1,h2])]
          unfold AbF
          rw [List.length_cons,show c+1+(List.filter (fun v=>decide (v.machine=r.machine) && decide (v.seq=r.seq)) (s.records.drop (k+1))).length=c+((List.filter (fun v=>decide (v.machine=r.machine) && decide (v.seq=r.seq)) (s.records.drop (k+1))).length+1) by omega]
        · rw [decide_eq_false h2,cond_false,AbG lines by_ s errs l i r hl n (k+1) c (by omega) (by omega) (by omega),List.filter_cons_of_neg (by simp [h2])]
          rfl
      · rw [decide_eq_false h1,cond_false,AbG lines by_ s errs l i r hl n (k+1) c (by omega) (by omega) (by omega),List.filter_cons_of_neg (by simp [h1])]
        rfl
    · have hd:s.records.drop k=[]:=by simp; omega
      rw [show decide ((k:Int)<(s.records.length:Int))=false by simp; omega,hd]
      simp [AbF]
theorem AbH (full:List ByteArray) (hs:∀ t∈full,t.size≤1000) (hl:full.length≤1000) (by_:IK .u8) (fin:A0) (hfin:HN fin.records) (errs:List Int) (hel:errs.length=full.length):∀ (n i:Nat)(l:List ByteArray),1100+(full.length-i)<n→i≤full.length→l.length≤i→(∀ t∈HO (full.drop i) (errs.drop i),UZ t∈fin.records)→Be n full by_ fin errs l (i:Int)=some (.inl (fin,(by_,((),(l++HO (full.drop i) (errs.drop i),())))))
  | 0,_,_,h,_,_,_=>absurd h (Nat.not_lt_zero _)
  | n+1,i,l,h,hi,hll,hm=>by
    have hfl:=hfin.len
    rw [Be]
    by_cases hx:i<full.length
    · have hd:full.drop i=full[i]::full.drop (i+1):=List.drop_eq_getElem_cons hx
      have hxe:i<errs.length:=by omega
      have hde:errs.drop i=errs[i]::errs.drop (i+1):=List.drop_eq_getElem_cons hxe
      have hsz:=hs _ (List.getElem_mem hx)
      rw [hd,hde] at hm ⊢
      have h2:=AbG full by_ fin errs l (i:Int) (UZ full[i]) (by omega) n 0 0 (by omega) (by omega) (by omega)
      rw [show((0:Nat):Int)=0 from rfl,List.drop_zero,Nat.zero_add] at h2
      rw [show decide ((i:Int)<(full.length:Int))=true by simp; omega,cond_true,Ft hx,Option.bind_some,Ahh (by omega) (by omega),Option.bind_some,Ft hxe,h2,wN i (by omega)]
      simp only [Option.bind_some]
      unfold HO at hm ⊢
      cases hb:Ml full[i] with
      | false =>
        rw [hb,Bool.false_and,cond_false] at hm
        simp only [Bool.not_false,Bool.not_true,cond_false,Bool.false_and]
        exact AbH full hs hl by_ fin hfin errs hel n (i+1) l (by omega) (by omega) (by omega) hm
      | true =>
        by_cases h0:errs[i]=0
        · rw [hb,decide_eq_true h0,Bool.and_self,cond_true] at hm
          have h1:=AfZ hfin.dist (hm full[i] (by simp))
          rw [h0,h1]
          simp only [Bool.not_true,Bool.not_false,cond_true,show((0:Int) != 0)=false from rfl,cond_false,show(((1:Nat):Int) != 1)=false from rfl,decide_true,Bool.and_self,wN i (by omega),Ft hx,Option.bind_some]
          rw [B8 (by simp; omega),Option.bind_some,AbH full hs hl by_ fin hfin errs hel n (i+1) _ (by omega) (by omega) (by simp; omega) (fun t ht=>hm t (by simp [ht]))]
          simp
        · rw [hb,decide_eq_false h0,Bool.and_false,cond_false] at hm
          rw [show(errs[i] != 0)=true by simpa using h0,decide_eq_false h0]
          simp only [Bool.not_true,Bool.not_false,cond_true,Bool.and_false,cond_false]
          exact AbH full hs hl by_ fin hfin errs hel n (i+1) l (by omega) (by omega) (by omega) hm
    · have hd:full.drop i=[]:=by simp; omega
      rw [show decide ((i:Int)<(full.length:Int))=false by simp; omega,hd]
      simp [HO]
theorem AiN (a b:List Em) (m:Nat) (hm:m≤1000000):∀ (n i:Nat),m-i<n→i≤m→BU n (List.replicate m 0) a b (i:Int)=some (.inl (a,(b,())))
  | 0,_,h,_=>absurd h (Nat.not_lt_zero _)
  | n+1,i,h,hi=>by
    rw [BU]
    by_cases hx:i<m
    · have hx':i<(List.replicate m (0:Int)).length:=by simpa using hx
      rw [show decide ((i:Int)<((List.replicate m (0:Int)).length:Int))=true by simp; omega,cond_true,Ft hx',Option.bind_some,wN i (by omega),List.getElem_replicate]
      exact AiN a b m hm n (i+1) (by omega) (by omega)
    · rw [show decide ((i:Int)<((List.replicate m (0:Int)).length:Int))=false by simp; omega]; rfl
theorem Adl {n:Nat} {lines:List ByteArray} {u:Int} (hn:lines.length+3000≤n) (hbig:lines.length≤4000000000000000000) (hu:0≤u∧u≤255):Fs n lines ⟨u⟩=some (true,()):=by
  unfold Fs
  obtain⟨b,hb,hr⟩:=AeQ (n:=n) hbig (by omega)
  have hw:=Aks (show 60≤n by omega)
  rw [hb,Option.bind_some]
  cases b with
  | false=>simp only [Bool.not_false,cond_true]; rw [hw]; rfl
  | true =>
    have hR:=hr rfl
    obtain⟨h1,h2⟩:=Sr.1 hR
    simp only [Bool.not_true,cond_false]
    rw [Akr (by omega),Option.bind_some,AfV hR (by omega),Option.bind_some]
    have hlen:=AaI lines AT
    have hrec:=XT lines AT Adi
    have hrecs:=AaN lines AT
    rw [show AT.records=[] from rfl,List.nil_append] at hrecs
    have hgood:=(XO lines 0 AT (XN.less (by omega))).1
    have hln:((((C5 AT lines).2.length:Nat):Int) != ((lines.length:Nat):Int))=false:=by simp [hlen]
    have hl1:=AbH lines (fun t ht=>Nat.le_trans (h2 t ht) (by decide)) (by omega) ⟨u⟩ (C5 AT lines).1 hrec (C5 AT lines).2 hlen n 0 [] (by omega) (by omega) (by simp) (fun t ht=>by
      rw [hrecs]
      rw [List.drop_zero,List.drop_zero] at ht
      exact List.mem_map.2 ⟨t,ht,rfl⟩)
    rw [show((0:Nat):Int)=0 from rfl,List.drop_zero,List.drop_zero,List.nil_append] at hl1
    simp only [show((0:Int) != 0)=false from rfl,Bool.not_false,cond_true,hln,cond_false,hl1,Option.bind_some,Sum.elim_inl]
    have hrl:=AaM lines (C5 AT lines).2
    have hmem:=fun t (ht:t∈HO lines (C5 AT lines).2)=>Va ht
    have hlr:(HO lines (C5 AT lines).2).length=(C5 AT lines).1.records.length:=by rw [hrecs,List.length_map]
    rw [hlr]
    rw [hrecs] at hrec
    generalize HO lines (C5 AT lines).2=L at *
    generalize C5 AT lines=S at *
    rw [show((((S.1.records.length:Nat):Int)) != ((S.1.records.length:Nat):Int))=false by simp,cond_false]
    by_cases h0:S.1.records.length=0
    · rw [decide_eq_true (show((S.1.records.length:Nat):Int)=0 by omega),cond_true,hw]; rfl
    · rw [decide_eq_false (show ¬ ((S.1.records.length:Nat):Int)=0 by omega),cond_false]
      rw [← hlr] at h0 ⊢
      obtain⟨v,rfl⟩:∃ v:Nat,u=v:=⟨u.toNat,by omega⟩
      have hrem:AkH (IntKind.i64.wrap ((v:Nat):Int)) ((L.length:Nat):Int)=some ((v % L.length:Nat):Int):=by
        rw [P7 (by omega) (by omega)]
        obtain⟨q,hq⟩:∃ q,L.length=q+1:=⟨L.length-1,by omega⟩
        rw [hq]; rfl
      rw [hrem,Option.bind_some]
      have hk:v % L.length<L.length:=Nat.mod_lt _ (by omega)
      generalize v % L.length=k at *
      rw [XJ (by omega) (Nat.le_refl _),Option.bind_some,List.take_of_length_le (by rw [List.length_drop]; omega),B8 (by rw [List.length_drop]; simp; omega),Option.bind_some,List.nil_append,Akt (by omega),Option.bind_some,B8 (by rw [List.length_drop,List.length_take]; omega),Option.bind_some]
      have hperm:(L.drop k++L.take k).Perm L:=by
        have:=List.perm_append_comm (l₁:=L.drop k) (l₂:=L.take k)
        rwa [List.take_append_drop] at this
      have hlenT:=hperm.length_eq
      have hR':Oi (L.drop k++L.take k)=true:=Sr.2 ⟨by omega,fun t ht=>h2 t (hmem t (hperm.mem_iff.1 ht)).1⟩
      obtain⟨p1,p2⟩:=Adj (L.drop k++L.take k) AT (fun t ht=>(hmem t (hperm.mem_iff.1 ht)).2) (by
        rw [show AT.records=[] from rfl,List.nil_append]
        exact hrec.perm (hperm.map UZ))
      rw [show AT.records=[] from rfl,List.nil_append] at p2
      obtain⟨a,e,q1,q2,q3⟩:=AeW (n:=n) hrec (fun r hr=>hgood.rk r (by rw [hrecs]; exact hr)) (by omega)
      have q4:=q3 _ (hperm.map UZ)
      have hrlen:=hrec.len
      rw [AfV hR' (by omega),Option.bind_some]
      simp only [p1,p2]
      rw [hrecs,B8 (by simp at hrlen ⊢; omega),Option.bind_some,List.nil_append,q1,Option.bind_some,B8 (by have:=hperm.length_eq; simp at hrlen ⊢; simp at this; omega),Option.bind_some,List.nil_append,q4,Option.bind_some]
      have h3:=AiN a a (L.drop k++L.take k).length (by omega) n 0 (by omega) (by omega)
      have h4:=AaL (F:=fun n i=>Bv n a a i) a (fun v0 v1=>decide (v0.machine=v1.machine) && (decide (v0.fr=v1.fr) && (decide (v0.to_=v1.to_) && (decide (v0.sales=v1.sales) && (decide (v0.coins=v1.coins) && true))))) (by simp) (by omega) (fun n i=>by
        show Bv (n+1) a a i=_
        rw [Bv]) n 0 (by omega) (by omega)
      rw [show((0:Nat):Int)=0 from rfl] at h3 h4
      have e1:((((List.replicate (L.drop k++L.take k).length (0:Int)).length:Nat):Int) != ((L.length:Nat):Int))=false:=by rw [List.length_replicate,hlenT]; simp
      have e2:(e != e)=false:=by simp
      have e3:(((a.length:Nat):Int) != ((a.length:Nat):Int))=false:=by simp
      simp only [show((0:Int) != 0)=false from rfl,Bool.not_false,cond_true,cond_false,e1,e2,e3,h3,Option.bind_some,Sum.elim_inl,h4,hw]
end Go.Proofs.YtkpgggfibljflaaGreatDoor
