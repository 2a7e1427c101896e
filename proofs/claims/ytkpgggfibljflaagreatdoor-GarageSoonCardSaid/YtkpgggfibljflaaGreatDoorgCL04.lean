/- The plain law. -/
import Derived.Test.YtkpgggfibljflaaGreatDoorgCL03
set_option linter.all false
set_option maxRecDepth 100000
namespace Go.Proofs.YtkpgggfibljflaaGreatDoor
open Go Go.RowKit Go.Proofs
def AH (b:Bool) (e:Int):Unit ⊕ (Refused×Unit):=bif b then .inl () else .inr (Refused.mk e,())
theorem AC (n:Nat) (b:Bool) (e:Int):fgarage_ask n b e=some (AH b e):=by cases b <;> rfl
theorem DY (n:Nat) (e:Int):fgarage_must n e=some (AH (decide (e=0)) e):=by
  unfold fgarage_must
  rw [AC]
  cases decide (e=0) <;> rfl
theorem BT (n:Nat) (x lo hi:Int):fgarage_within n x lo hi=some (Bg x lo hi,()):=by
  unfold fgarage_within Bg
  cases decide (lo≤x) <;> rfl
theorem Bi {α:Type} {l:List α} (h:l.length≤1000000000):app [] l=some l:=Ad (a:=[]) (by simpa using h)
theorem H8 {n:Nat} {l:List Card} {x:Card} (h:l.length<1000000000):fgarage_with_Card n l x=some (l++[x],()):=by
  unfold fgarage_with_Card clone180
  rw [Bi (by omega)]
  simp only [Option.bind_some]
  rw [Ad (by simp; omega)]; rfl
theorem HP {n:Nat} {l:List Out} {x:Out} (h:l.length<1000000000):fgarage_with_Out n l x=some (l++[x],()):=by
  unfold fgarage_with_Out clone60
  rw [Bi (by omega)]
  simp only [Option.bind_some]
  rw [Ad (by simp; omega)]; rfl
theorem HQ {n:Nat} {l:List Run} {x:Run} (h:l.length<1000000000):fgarage_with_Run n l x=some (l++[x],()):=by
  unfold fgarage_with_Run clone62
  rw [Bi (by omega)]
  simp only [Option.bind_some]
  rw [Ad (by simp; omega)]; rfl
theorem G4 {n:Nat} {l:List Record} {x:Record} (h:l.length<1000000000):fgarage_with_Record n l x=some (l++[x],()):=by
  unfold fgarage_with_Record clone93
  rw [Bi (by omega)]
  simp only [Option.bind_some]
  rw [Ad (by simp; omega)]; rfl
theorem G5 {n:Nat} {l:List Driver} {x:Driver} (h:l.length<1000000000):fgarage_with_Driver n l x=some (l++[x],()):=by
  unfold fgarage_with_Driver clone186
  rw [Bi (by omega)]
  simp only [Option.bind_some]
  rw [Ad (by simp; omega)]; rfl
theorem H9 {n:Nat} {l:List Duty} {x:Duty} (h:l.length<1000000000):fgarage_with_Duty n l x=some (l++[x],()):=by
  unfold fgarage_with_Duty clone184
  rw [Bi (by omega)]
  simp only [Option.bind_some]
  rw [Ad (by simp; omega)]; rfl
theorem HR {n:Nat} {l:List Int} {x:Int} (h:l.length<1000000000):fgarage_with_int n l x=some (l++[x],()):=by
  unfold fgarage_with_int clone3
  rw [Bi (by omega)]
  simp only [Option.bind_some]
  rw [Ad (by simp; omega)]; rfl
def Jm (c:Card):Bool:=bif decide (c.kind.n<2) then Bg c.part 0 15 && decide (c.sg=0) else decide (c.part=0) && (decide (c.kind.n=2) && Bg c.sg 1 999 || decide (c.kind.n=3) && decide (c.sg=0))
def Co (c:Card):Bool:=Bg c.bus 0 99 && (Bg c.number 1 999 && (Bg c.minute 0 1000000 && Jm c))
theorem Jn (n:Nat) (c:Card) (hk:0≤c.kind.n∧c.kind.n≤3):fpit_Card_valid n c=some (Co c,()):=by
  have h4:c.kind.n=0∨c.kind.n=1∨c.kind.n=2∨c.kind.n=3:=by omega
  unfold fpit_Card_valid Co Jm Bg
  obtain⟨bus,number,minute,⟨k⟩,part,sg⟩:=c
  simp only at h4 ⊢
  cases decide (0≤bus) with
  | false=>rfl
  | true =>
  cases decide (bus≤99) with
  | false=>rfl
  | true =>
  cases decide (1≤number) with
  | false=>rfl
  | true =>
  cases decide (number≤999) with
  | false=>rfl
  | true =>
  cases decide (0≤minute) with
  | false=>rfl
  | true =>
  cases decide (minute≤1000000) with
  | false=>rfl
  | true =>
  rcases h4 with rfl | rfl | rfl | rfl
  · show(bif decide (0≤part) then(bif decide (part≤15) then(some (decide (sg=0),())) else some (false,())) else some (false,()))=_
    cases decide (0≤part) <;> cases decide (part≤15) <;> simp
  · show(bif decide (0≤part) then(bif decide (part≤15) then(some (decide (sg=0),())) else some (false,())) else some (false,()))=_
    cases decide (0≤part) <;> cases decide (part≤15) <;> simp
  · show(bif decide (part=0) then(bif decide (1≤sg) then(some (decide (sg≤999),())) else some (false,())) else some (false,()))=_
    cases decide (part=0) <;> cases decide (1≤sg) <;> simp
  · show(bif decide (part=0) then(some (decide (sg=0),())) else some (false,()))=_
    cases decide (part=0) <;> simp
def BW (a c:Card):Bool:=decide (a.bus=c.bus) && (decide (a.number=c.number) && (decide (a.minute=c.minute) && (decide (a.kind.n=c.kind.n) && (decide (a.part=c.part) && (decide (a.sg=c.sg) && true)))))
theorem HS {n:Nat} (g:Session) (c:Card) (l:List Card) (hl:l.length≤4000000000000000000) (h:l.length+1≤n):fgarage_session_card_l1 n g c l (l.length:Int) 0=some (bif l.any (fun a=>BW a c) then .inr (g,(c,(Refused.mk 6,()))) else .inl (g,(c,((),((),()))))):=by
  have key:=GQ (F:=fun n (_:Unit) i=>fgarage_session_card_l1 n g c l (l.length:Int) i) (l:=l) (N:=0) (T:=fun s i a=>bif BW a c then .inr (.inr (g,(c,(Refused.mk 6,())))) else .inl s) (E:=fun _=>.inl (g,(c,((),((),())))))
    (B:=fun n _ i v0=>(fgarage_ask n (!BW v0 c) 6).bind fun v1=>Sum.elim (fun v2=>fgarage_session_card_l1 n g c l (l.length:Int) (IntKind.i64.wrap (i+1))) (fun v2=>some (.inr (g,(c,(v2.fst,()))))) (v1)) (fun _ _=>True)
    (fun _ _ _=>rfl) (fun n s i hi _ _=>by
      rw [AC]
      cases BW l[i] c
      · exact⟨rfl,trivial⟩
      · rfl) hl l.length () 0 n (by simp) (by omega) trivial
  rw [show((0:Nat):Int)=0 from rfl,List.drop_zero] at key
  rw [key]
  congr 1
  suffices H:∀ (l:List Card)(i:Nat),Jd (fun(s:Unit)(i:Nat) a=>bif BW a c then .inr (.inr (g,(c,(Refused.mk 6,())))) else .inl s) (fun _=>(.inl (g,(c,((),((),())))):(Session×Card×Unit×Unit×Unit) ⊕ ((Session×Card×Refused×Unit)))) i () l=(bif l.any (fun a=>BW a c) then .inr (g,(c,(Refused.mk 6,()))) else .inl (g,(c,((),((),()))))) from H l 0
  intro l
  induction l with
  | nil=>intro i; rfl
  | cons a l ih =>
    intro i
    unfold Jd
    rw [List.any_cons]
    cases BW a c
    · exact ih (i+1)
    · rfl
end Go.Proofs.YtkpgggfibljflaaGreatDoor
namespace Go.Proofs.YtkpgggfibljflaaGreatDoor
open Go Go.RowKit Go.Proofs
def DF (c:Card):Prop:=0≤c.kind.n∧c.kind.n≤3
theorem Hn {α R:Type} (p:α→Bool) (r:Nat→R) (E:R):∀ (l:List α)(i:Nat),(l.all p=true→Jd (fun(s:Unit) i a=>bif p a then .inl s else .inr (r i)) (fun _=>E) i () l=E)∧(l.all p=false→∃ k,Jd (fun(s:Unit) i a=>bif p a then .inl s else .inr (r i)) (fun _=>E) i () l=r k)
  | [],i=>⟨fun _=>rfl,fun h=>by cases h⟩
  | a::l,i=>by
    obtain⟨h1,h2⟩:=Hn p r E l (i+1)
    unfold Jd
    rw [List.all_cons]
    cases hp:p a with
    | false=>exact⟨(fun h=>by cases h),fun _=>⟨i,rfl⟩⟩
    | true =>
      simp only [Bool.true_and,cond_true]
      exact⟨h1,h2⟩
theorem HT {n:Nat} {l:List Card} (hk:∀ c∈l,DF c) (hl:l.length≤1000) (h:l.length<n):(l.all Co=true→fpit_read_i2 n l (l.length:Int) 0=some (.inl ((((),()),()),())))∧(l.all Co=false→∃ k:Nat,fpit_read_i2 n l (l.length:Int) 0=some (.inr ((((),()),()),((k:Int),())))):=by
  have key:=GQ (F:=fun n (_:Unit) i=>fpit_read_i2 n l (l.length:Int) i) (l:=l) (N:=0) (T:=fun s i a=>bif Co a then .inl s else .inr (.inr ((((),()),()),((i:Int),())))) (E:=fun _=>.inl ((((),()),()),()))
    (B:=fun n _ i v0=>(fpit_Card_valid n v0).bind fun v1=>bif !v1.fst then(some (.inr ((((),()),()),(i,())))) else fpit_read_i2 n l (l.length:Int) (IntKind.i64.wrap (i+1))) (fun _ _=>True)
    (fun _ _ _=>rfl) (fun n s i hi _ _=>by
      rw [Jn n _ (hk _ (List.getElem_mem hi))]
      cases Co l[i]
      · rfl
      · exact⟨rfl,trivial⟩) (by omega) l.length () 0 n (by simp) (by omega) trivial
  rw [show((0:Nat):Int)=0 from rfl,List.drop_zero] at key
  obtain⟨h1,h2⟩:=Hn (R:=((((Unit×Unit)×Unit)×Unit) ⊕ ((((Unit×Unit)×Unit)×Int×Unit)))) Co (fun i=>.inr ((((),()),()),((i:Int),()))) (.inl ((((),()),()),())) l 0
  exact⟨fun h=>by rw [key,h1 h],fun h=>by obtain⟨k,hk⟩:=h2 h; exact⟨k,by rw [key,hk]⟩⟩
def zC:Card:=Card.mk 0 0 0 (IK.mk 0) 0 0
def JO:List (Int×Card)→List Int→List Card→Option (List (Int×Card)×List Int)
  | m,o,[]=>some (m,o)
  | m,o,c::l=>bif mhas keq3 m c.number then(bif BW (mgetD keq3 m c.number zC) c then JO m o l else none) else JO (mput keq3 m c.number c) (o++[c.number]) l
theorem FT (full:List Card) (hl:full.length≤1000):∀ (n i:Nat)(m:List (Int×Card))(o:List Int),full.length-i<n→i≤full.length→o.length≤i→match JO m o (full.drop i) with
    | some (m',o')=>fpit_read_l1 n m o full (full.length:Int) (i:Int)=some (.inl ((m',(o',())),((),((),()))))
    | none=>∃ m' o',fpit_read_l1 n m o full (full.length:Int) (i:Int)=some (.inr ((m',(o',())),((),((),(6,())))))
  | 0,_,_,_,h,_,_=>absurd h (Nat.not_lt_zero _)
  | n+1,i,m,o,h,hi,ho=>by
    rw [fpit_read_l1]
    by_cases hx:i<full.length
    · have hd:full.drop i=full[i]::full.drop (i+1):=List.drop_eq_getElem_cons hx
      rw [show decide ((i:Int)<(full.length:Int))=true by simp; omega,cond_true,AS hx,Option.bind_some,hd,wN i (by omega)]
      have ih:=fun m o=>FT full hl n (i+1) m o (by omega) (by omega)
      have happ:app o [full[i].number]=some (o++[full[i].number]):=Ad (by simp; omega)
      unfold JO
      cases hm:mhas keq3 m full[i].number with
      | true =>
        simp only [cond_true,Bool.not_true,cond_false]
        show(match (bif BW (mgetD keq3 m full[i].number zC) full[i] then JO m o (full.drop (i+1)) else none) with | some (m',o')=>(bif !BW (mgetD keq3 m full[i].number zC) full[i] then _ else _)=_ | none=>∃ m' o',(bif !BW (mgetD keq3 m full[i].number zC) full[i] then _ else _)=_)
        cases BW (mgetD keq3 m full[i].number zC) full[i] with
        | true =>
          simp only [cond_true,Bool.not_true,cond_false]
          exact ih m o (by omega)
        | false=>exact⟨m,o,rfl⟩
      | false =>
        simp only [cond_true,Bool.not_false,cond_false]
        rw [happ,Option.bind_some]
        exact ih _ _ (by simp; omega)
    · have hd:full.drop i=[]:=by simp; omega
      rw [show decide ((i:Int)<(full.length:Int))=false by simp; omega,hd]
      rfl
theorem F0:∀ (l:List Card)(m:List (Int×Card))(o:List Int)(m':List (Int×Card))(o':List Int),JO m o l=some (m',o')→o'.length≤o.length+l.length
  | [],m,o,m',o',h=>by cases h; simp
  | c::l,m,o,m',o',h=>by
    unfold JO at h
    cases hm:mhas keq3 m c.number with
    | true =>
      rw [hm,cond_true] at h
      cases hs:BW (mgetD keq3 m c.number zC) c with
      | true =>
        rw [hs,cond_true] at h
        have:=F0 l m o m' o' h
        simp; omega
      | false=>rw [hs] at h; cases h
    | false =>
      rw [hm,cond_false] at h
      have:=F0 l _ _ m' o' h
      simp at this ⊢; omega
theorem JP {o:List Int} (h:o.length≤1000000):srtI o=some (srtB (fun a b=>decide (a≤b)) o):=by
  unfold srtI
  have hl:∀ (l:List Int),lenN l=l.length:=fun l=>by induction l with
    | nil=>rfl
    | cons a l ih=>simp [lenN,ih]
  rw [show Nat.blt (lenN o) 4611686018427387904=true by rw [hl]; exact Nat.ble_eq_true_of_le (by omega)]
  rfl
def CN (l:List Card):Int ⊕ (List (Int×Card)×List Int) :=
  if 40<l.length then .inl 3 else if l.all Co=false then .inl 1 else match JO [] [] l with
    | none=>.inl 6
    | some (m,o)=>.inr (m,srtB (fun a b=>decide (a≤b)) o)
theorem Iv {n:Nat} {l:List Card} (hk:∀ c∈l,DF c) (hl:l.length≤1000) (h:l.length<n):fpit_read n l=some (match CN l with | .inl e=>.inl ((),(e,())) | .inr y=>.inr ((y.1,(y.2,())),(0,()))):=by
  unfold fpit_read CN
  by_cases h40:40<l.length
  · rw [show decide ((l.length:Int)>40)=true by simp; omega,cond_true,if_pos h40]
  · rw [show decide ((l.length:Int)>40)=false by simp; omega,cond_false,if_neg h40]
    obtain⟨r1,r2⟩:=HT hk hl h
    have r3:=FT l hl n 0 [] [] (by omega) (by omega) (by simp)
    rw [show((0:Nat):Int)=0 from rfl,List.drop_zero] at r3
    cases ha:l.all Co with
    | false =>
      obtain⟨k,hk⟩:=r2 ha
      rw [hk,if_pos rfl]
      simp only [Option.bind_some,Sum.elim_inr]
      rw [show decide ((k:Int)≥0)=true by simp]
      rfl
    | true =>
      rw [r1 ha,if_neg (by simp)]
      simp only [Option.bind_some,Sum.elim_inl]
      cases hr:JO [] [] l with
      | none =>
        rw [hr] at r3
        obtain⟨m',o',e⟩:=r3
        rw [e]; rfl
      | some y =>
        rw [hr] at r3
        have hlen:=F0 l [] [] y.1 y.2 hr
        rw [r3]
        simp only [Option.bind_some,Sum.elim_inl]
        rw [JP (by simp at hlen; omega)]; rfl
def Kh (l:List Card):Int:=match CN l with
  | .inl e=>e
  | .inr _=>0
theorem G6 {n:Nat} {l:List Card} (hk:∀ c∈l,DF c) (hl:l.length≤1000) (h:l.length<n):fpit_CheckCards n l=some (Kh l,()):=by
  unfold fpit_CheckCards Kh
  rw [Iv hk hl h]
  cases CN l <;> rfl
def K8 (m:List (Int×Card)) (bus at_:Int) (v:Int):Bool:=decide ((mgetD keq3 m v zC).bus=bus) && ((decide ((mgetD keq3 m v zC).kind.n=0) || decide ((mgetD keq3 m v zC).kind.n=1)) && openP m (mgetD keq3 m v zC) at_)
def Ko (m:List (Int×Card)) (o:List Int) (bus at_:Int):List Int:=(o.filter (K8 m bus at_)).map fun v=>(mgetD keq3 m v zC).number
theorem EX (m:List (Int×Card)) (cl full:List Int) (bus at_:Int) (hl:full.length≤1000):∀ (n i:Nat)(acc:List Int),full.length-i<n→i≤full.length→acc.length≤i→fpit_book_opens_i1 n at_ acc m cl bus full (full.length:Int) (i:Int)=some (.inl (((at_,()),((acc++Ko m (full.drop i) bus at_,()),(((((m,(cl,())),()),()),()),()))),((),((),((),((),((),(((),()),((bus,()),())))))))))
  | 0,_,_,h,_,_=>absurd h (Nat.not_lt_zero _)
  | n+1,i,acc,h,hi,ha=>by
    rw [fpit_book_opens_i1]
    by_cases hx:i<full.length
    · have hd:full.drop i=full[i]::full.drop (i+1):=List.drop_eq_getElem_cons hx
      have ih:=fun acc=>EX m cl full bus at_ hl n (i+1) acc (by omega) (by omega)
      have happ:∀ x,app acc [x]=some (acc++[x]):=fun x=>Ad (by simp; omega)
      rw [show decide ((i:Int)<(full.length:Int))=true by simp; omega,cond_true,AS hx,Option.bind_some,hd,wN i (by omega)]
      have e1:Ko m (full[i]::full.drop (i+1)) bus at_=(bif K8 m bus at_ full[i] then [(mgetD keq3 m full[i] zC).number] else [])++Ko m (full.drop (i+1)) bus at_:=by
        unfold Ko
        rw [List.filter_cons]
        cases K8 m bus at_ full[i] <;> simp
      rw [e1]
      unfold openB K8
      simp only [Option.bind_some,happ]
      generalize hz:mgetD keq3 m full[i] zC=z
      unfold zC at hz
      rw [hz]
      cases decide (z.bus=bus) with
      | false=>simpa using ih acc (by omega)
      | true =>
        cases decide (z.kind.n=0) with
        | true =>
          cases openP m z at_ with
          | true=>simpa using ih (acc++[z.number]) (by simp; omega)
          | false=>simpa using ih acc (by omega)
        | false =>
          cases decide (z.kind.n=1) with
          | true =>
            cases openP m z at_ with
            | true=>simpa using ih (acc++[z.number]) (by simp; omega)
            | false=>simpa using ih acc (by omega)
          | false=>simpa using ih acc (by omega)
    · have hd:full.drop i=[]:=by simp; omega
      rw [show decide ((i:Int)<(full.length:Int))=false by simp; omega,hd]
      simp [Ko]
def Cg (l:List Card) (bus at_:Int):List Int×Int:=match CN l with
  | .inl e=>([],e)
  | .inr y=>if Bg bus 0 99 && Bg at_ 0 1000000 then(Ko y.1 y.2 bus at_,0) else([],2)
theorem HA {α:Type} (le:α→α→Bool) (x:α):∀ l,(insB le x l).length=l.length+1
  | []=>rfl
  | y::r=>by
    unfold insB
    cases le x y
    · simp [HA le x r]
    · simp
theorem DZ {α:Type} (le:α→α→Bool):∀ l,(srtB le l).length=l.length
  | []=>rfl
  | x::r=>by
    unfold srtB
    rw [HA,DZ le r]; rfl
theorem GU {l:List Card} {y:List (Int×Card)×List Int} (h:CN l=.inr y):l.length≤40∧l.all Co=true∧∃ o,JO [] [] l=some (y.1,o)∧y.2=srtB (fun a b=>decide (a≤b)) o:=by
  unfold CN at h
  split at h
  · cases h
  · rename_i h40
    split at h
    · cases h
    · rename_i ha
      split at h
      · cases h
      · rename_i m o hr
        cases h
        exact⟨by omega,by simpa using ha,o,hr,rfl⟩
theorem GV {l:List Card} {e:Int} (h:CN l=.inl e):e=1∨e=3∨e=6:=by
  unfold CN at h
  split at h
  · cases h; simp
  · split at h
    · cases h; simp
    · split at h
      · cases h; simp
      · cases h
theorem I8 {l:List Card} {y:List (Int×Card)×List Int} (h:CN l=.inr y):y.2.length≤40:=by
  obtain⟨h1,_,o,h2,h3⟩:=GU h
  have:=F0 l _ _ _ _ h2
  rw [h3,DZ]
  simp at this; omega
theorem Iw {n:Nat} {l:List Card} {bus at_:Int} (hk:∀ c∈l,DF c) (hl:l.length≤1000) (h:l.length+50<n):fpit_Open n l bus at_=some ((Cg l bus at_).1,((Cg l bus at_).2,())):=by
  unfold fpit_Open Cg
  rw [Iv hk hl (by omega)]
  cases hr:CN l with
  | inl e =>
    have he:e≠0:=by have:=GV hr; omega
    simp only [Option.bind_some,Sum.elim_inl]
    rw [show(e != 0)=true by simpa using he]
    rfl
  | inr y =>
    simp only [Option.bind_some,Sum.elim_inr]
    rw [show((0:Int) != 0)=false from rfl,cond_false]
    unfold Bg
    have hy:=I8 hr
    have ho:=EX y.1 y.2 y.2 bus at_ (by omega) n 0 [] (by omega) (by omega) (by simp)
    rw [show((0:Nat):Int)=0 from rfl,List.drop_zero,List.nil_append] at ho
    have hb:fpit_book_opens n y.1 y.2 bus at_=some (((y.1,(y.2,())),((),(Ko y.1 y.2 bus at_,())))):=by
      unfold fpit_book_opens
      rw [ho]; rfl
    cases decide (0≤bus) <;> cases decide (bus≤99) <;> cases decide (0≤at_) <;> cases decide (at_≤1000000) <;> simp [hb]
end Go.Proofs.YtkpgggfibljflaaGreatDoor
namespace Go.Proofs.YtkpgggfibljflaaGreatDoor
open Go Go.RowKit Go.Proofs
section
variable {α β:Type} [DecidableEq α] {q:α→α→Bool} (hq:∀ a b,q a b=true↔a=b)
include hq
theorem HU (a:α):q a a=true:=(hq a a).2 rfl
theorem GW (k k':α) (v:β):∀ m:List (α×β),mget q (mput q m k v) k' = if k=k' then some v else mget q m k'
  | []=>by
    unfold mput mget mget
    by_cases h:k=k'
    · subst h; simp [HU hq]
    · have:q k k' = false:=by
        cases hh:q k k' with
        | false=>rfl
        | true=>exact absurd ((hq _ _).1 hh) h
      rw [this,if_neg h]; rfl
  | p::r=>by
    have ih:=GW k k' v r
    unfold mput
    cases hp:q p.1 k with
    | true =>
      have hpk:=(hq _ _).1 hp
      simp only [cond_true]
      unfold mget
      by_cases h:k=k'
      · subst h; simp [HU hq]
      · have h1:q k k' = false:=by
          cases hh:q k k' with
          | false=>rfl
          | true=>exact absurd ((hq _ _).1 hh) h
        have h2:q p.1 k' = false:=by rw [hpk]; exact h1
        simp only [h1,h2,cond_false,if_neg h]
    | false =>
      simp only [cond_false]
      unfold mget
      cases hp2:q p.1 k' with
      | true =>
        have hpk:=(hq _ _).1 hp2
        have:k≠k':=fun h=>by
          rw [h,← hpk] at hp
          rw [HU hq] at hp; cases hp
        rw [if_neg this]; rfl
      | false=>simpa using ih
theorem I9 (m:List (α×β)) (k k':α) (v:β):mhas q (mput q m k v) k' = true↔k=k'∨mhas q m k' = true:=by
  unfold mhas
  rw [GW hq]
  by_cases h:k=k' <;> simp [h]
end
theorem HV (a b:Who):keq227 a b=true↔a=b:=by
  obtain⟨a1,a2⟩:=a
  obtain⟨b1,b2⟩:=b
  simp [keq227]
theorem Ea (a b:ByteArray):keq9 a b=true↔a=b:=by simp [keq9]
def Ho (r:Record):Prop:=0≤r.kind.n∧r.kind.n≤2
def AD (v a:Record):Bool:=decide (v.machine=a.machine) && (decide (v.seq=a.seq) && (decide (v.minute=a.minute) && (decide (v.kind.n=a.kind.n) && (decide (v.a=a.a) && (decide (v.b=a.b) && true)))))
theorem HB {n:Nat} {l:List Record} {v:Record} (hl:l.length≤1000) (h:l.length<n):fslices_Contains_Record n l v=some (l.any (AD v),()):=by
  have H:∀ (n i:Nat),l.length-i<n→i≤l.length→((l.drop i).any (AD v)=false→fslices_Index_Record_l1 n l v (l.length:Int) (i:Int)=some (.inl (v,())))∧((l.drop i).any (AD v)=true→∃ k:Nat,fslices_Index_Record_l1 n l v (l.length:Int) (i:Int)=some (.inr (v,((k:Int),())))):=by
    intro n
    induction n with
    | zero=>intro i h; exact absurd h (Nat.not_lt_zero _)
    | succ n ih =>
      intro i h hi
      rw [fslices_Index_Record_l1]
      by_cases hx:i<l.length
      · have hd:l.drop i=l[i]::l.drop (i+1):=List.drop_eq_getElem_cons hx
        rw [show decide ((i:Int)<(l.length:Int))=true by simp; omega,cond_true,AS hx,Option.bind_some,hd,wN i (by omega),List.any_cons]
        change ((AD v l[i] || (l.drop (i+1)).any (AD v))=false→(bif AD v l[i] then _ else _)=_)∧((AD v l[i] || (l.drop (i+1)).any (AD v))=true→∃ k:Nat,(bif AD v l[i] then _ else _)=_)
        cases AD v l[i] with
        | true=>exact⟨(fun h=>by cases h),fun _=>⟨i,rfl⟩⟩
        | false=>simpa using ih (i+1) (by omega) (by omega)
      · have hd:l.drop i=[]:=by simp; omega
        rw [show decide ((i:Int)<(l.length:Int))=false by simp; omega,hd]
        exact⟨fun _=>rfl,fun h=>by cases h⟩
  obtain⟨h1,h2⟩:=H n 0 (by omega) (by omega)
  rw [show((0:Nat):Int)=0 from rfl,List.drop_zero] at h1 h2
  unfold fslices_Contains_Record fslices_Index_Record
  cases hc:l.any (AD v) with
  | false=>rw [h1 hc]; rfl
  | true =>
    obtain⟨k,hk⟩:=h2 hc
    rw [hk]
    simp
def A5 (r:Record):Bool:=Bg r.machine 0 999 && (Bg r.seq 1 9999 && (Bg r.minute 0 1000000 && (bif decide (r.kind.n=0) then Bg r.a 0 99 && Bg r.b 0 10000 else bif decide (r.kind.n=1) then Bg r.a 0 1000000 && decide (r.b=0) else Bg r.a 0 9999 && Bg r.b 0 10000000)))
theorem IA (n:Nat) (r:Record) (hk:Ho r):fsheet_Record_valid n r=some (A5 r,()):=by
  obtain⟨hk0,hk1⟩:=hk
  have h4:r.kind.n=0∨r.kind.n=1∨r.kind.n=2:=by omega
  unfold fsheet_Record_valid A5 Bg
  obtain⟨machine,seq,minute,⟨k⟩,a,b⟩:=r
  simp only at h4 ⊢
  cases decide (0≤machine) with
  | false=>rfl
  | true =>
  cases decide (machine≤999) with
  | false=>rfl
  | true =>
  cases decide (1≤seq) with
  | false=>rfl
  | true =>
  cases decide (seq≤9999) with
  | false=>rfl
  | true =>
  cases decide (0≤minute) with
  | false=>rfl
  | true =>
  cases decide (minute≤1000000) with
  | false=>rfl
  | true =>
  rcases h4 with rfl | rfl | rfl
  · show(bif decide (0≤a) then(bif decide (a≤99) then(bif decide (0≤b) then(some (decide (b≤10000),())) else some (false,())) else some (false,())) else some (false,()))=_
    cases decide (0≤a) <;> cases decide (a≤99) <;> cases decide (0≤b) <;> simp
  · show(bif decide (0≤a) then(bif decide (a≤1000000) then(some (decide (b=0),())) else some (false,())) else some (false,()))=_
    cases decide (0≤a) <;> cases decide (a≤1000000) <;> simp
  · show(bif decide (0≤a) then(bif decide (a≤9999) then(bif decide (0≤b) then(some (decide (b≤10000000),())) else some (false,())) else some (false,())) else some (false,()))=_
    cases decide (0≤a) <;> cases decide (a≤9999) <;> cases decide (0≤b) <;> simp
theorem C3 {α A B:Type} {F:Nat→Int→Option (A ⊕ B)} {G:Nat→Int→α→Option (A ⊕ B)} (l:List α) (p:α→Bool) (okv:A) (bad:Int→B) (N:Nat) (hl:l.length≤4000000000000000000)
    (hF:∀ n i,F (n+1) i=bif decide (i<(l.length:Int)) then(idx l i).bind (G n i) else some (.inl okv))
    (hG:∀ n (i:Nat) (hi:i<l.length),N≤n→G n (i:Int) l[i]=bif p l[i] then F n (IntKind.i64.wrap ((i:Int)+1)) else some (.inr (bad (i:Int)))) {n:Nat} (hn:N+l.length<n) :
    (l.all p=true→F n 0=some (.inl okv))∧(l.all p=false→∃ k:Nat,F n 0=some (.inr (bad (k:Int)))):=by
  have key:=GQ (F:=fun n (_:Unit) i=>F n i) (l:=l) (N:=N) (T:=fun s i a=>bif p a then .inl s else .inr (.inr (bad (i:Int)))) (E:=fun _=>.inl okv)
    (B:=fun n _ i v0=>G n i v0) (fun _ _=>True) (fun n _ i=>hF n i) (fun n s i hi hN _=>by
      rw [hG n i hi hN]
      cases p l[i]
      · rfl
      · exact⟨rfl,trivial⟩) hl l.length () 0 n (by simp) (by omega) trivial
  rw [show((0:Nat):Int)=0 from rfl,List.drop_zero] at key
  obtain⟨h1,h2⟩:=Hn (R:=A ⊕ B) p (fun i=>.inr (bad (i:Int))) (.inl okv) l 0
  exact⟨fun h=>by rw [key,h1 h],fun h=>by obtain⟨k,hk⟩:=h2 h; exact⟨k,by rw [key,hk]⟩⟩
def Fm (lists:List (List Record)):Int:=if 6<lists.length then 3 else bif lists.all (fun l=>decide (l.length≤60)) then(bif lists.all (fun l=>l.all A5) then 0 else 1) else 3
theorem HW (lists:List (List Record)):Fm lists=0∨Fm lists=1∨Fm lists=3:=by
  unfold Fm
  split
  · simp
  · cases lists.all (fun l=>decide (l.length≤60)) <;> cases lists.all (fun l=>l.all A5) <;> simp
theorem G7 {n:Nat} {l:List Record} (hk:∀ r∈l,Ho r) (hl:l.length≤1000) (h:l.length<n) :
    (l.all A5=true→fsheet_checked_i1 n l (l.length:Int) 0=some (.inl ((((),()),()),())))∧(l.all A5=false→∃ k:Nat,fsheet_checked_i1 n l (l.length:Int) 0=some (.inr ((((),()),()),((k:Int),())))):=C3 (F:=fun n i=>fsheet_checked_i1 n l (l.length:Int) i) (G:=fun n i v0=>(fsheet_Record_valid n v0).bind fun v1=>bif !v1.fst then(some (.inr ((((),()),()),(i,())))) else fsheet_checked_i1 n l (l.length:Int) (IntKind.i64.wrap (i+1))) l A5 ((((),()),()),()) (fun i=>((((),()),()),(i,()))) 0 (by omega) (fun _ _=>rfl) (fun n i hi _=>by
    rw [IA n _ (hk _ (List.getElem_mem hi))]
    cases A5 l[i] <;> rfl) (n:=n) (by omega)
theorem G8 {n:Nat} {lists:List (List Record)} (hl:lists.length≤1000) (h:lists.length<n) :
    (lists.all (fun l=>decide (l.length≤60))=true→fsheet_checked_i2 n lists (lists.length:Int) 0=some (.inl ((((),()),()),())))∧(lists.all (fun l=>decide (l.length≤60))=false→∃ k:Nat,fsheet_checked_i2 n lists (lists.length:Int) 0=some (.inr ((((),()),()),((k:Int),())))):=C3 (F:=fun n i=>fsheet_checked_i2 n lists (lists.length:Int) i) (G:=fun n i v0=>bif !decide ((v0.length:Int)≤60) then(some (.inr ((((),()),()),(i,())))) else fsheet_checked_i2 n lists (lists.length:Int) (IntKind.i64.wrap (i+1))) lists (fun l=>decide (l.length≤60)) ((((),()),()),()) (fun i=>((((),()),()),(i,()))) 0 (by omega) (fun _ _=>rfl) (fun n i hi _=>by
    have:decide ((lists[i].length:Int)≤60)=decide (lists[i].length≤60):=by
      by_cases h:lists[i].length≤60
      · rw [decide_eq_true h]; exact decide_eq_true (by omega)
      · rw [decide_eq_false h]; exact decide_eq_false (by omega)
    rw [this]
    cases decide (lists[i].length≤60) <;> rfl) (n:=n) (by omega)
theorem G9 {n:Nat} {lists:List (List Record)} (hk:∀ l∈lists,∀ r∈l,Ho r) (hl:lists.length≤1000) (hl2:∀ l∈lists,l.length≤1000) (h:1001+lists.length<n) :
    (lists.all (fun l=>l.all A5)=true→fsheet_checked_i3 n lists (lists.length:Int) 0=some (.inl ((((),()),()),())))∧(lists.all (fun l=>l.all A5)=false→∃ k:Nat,fsheet_checked_i3 n lists (lists.length:Int) 0=some (.inr ((((),()),()),((k:Int),())))):=C3 (F:=fun n i=>fsheet_checked_i3 n lists (lists.length:Int) i) (G:=fun n i v0=>(fsheet_checked_i1 n v0 (v0.length:Int) 0).bind fun v1=>Sum.elim (fun v2=>fsheet_checked_i3 n lists (lists.length:Int) (IntKind.i64.wrap (i+1))) (fun v2=>bif !!decide (v2.snd.fst≥0) then(some (.inr ((((),()),()),(i,())))) else fsheet_checked_i3 n lists (lists.length:Int) (IntKind.i64.wrap (i+1))) (v1)) lists (fun l=>l.all A5) ((((),()),()),()) (fun i=>((((),()),()),(i,()))) 1001 (by omega) (fun _ _=>rfl) (fun n i hi hn=>by
    obtain⟨h1,h2⟩:=G7 (n:=n) (l:=lists[i]) (hk _ (List.getElem_mem hi)) (hl2 _ (List.getElem_mem hi)) (by have:=hl2 _ (List.getElem_mem hi); omega)
    cases ha:lists[i].all A5 with
    | true=>rw [h1 ha]; rfl
    | false =>
      obtain⟨k,hk⟩:=h2 ha
      rw [hk]
      simp only [Option.bind_some,Sum.elim_inr]
      rw [show decide ((k:Int)≥0)=true by simp]
      rfl) (n:=n) (by omega)
theorem HX {n:Nat} {lists:List (List Record)} (hk:∀ l∈lists,∀ r∈l,Ho r) (hl:lists.length≤1000) (hl2:∀ l∈lists,l.length≤1000) (h:1001+lists.length<n):fsheet_checked n lists=some (Fm lists,()):=by
  unfold fsheet_checked Fm
  by_cases h6:6<lists.length
  · rw [show decide ((lists.length:Int)>6)=true by simp; omega,if_pos h6]; rfl
  · rw [show decide ((lists.length:Int)>6)=false by simp; omega,if_neg h6,Bool.not_false,cond_true]
    obtain⟨a1,a2⟩:=G8 (n:=n) (lists:=lists) hl (by omega)
    obtain⟨b1,b2⟩:=G9 (n:=n) hk hl hl2 h
    cases ha:lists.all (fun l=>decide (l.length≤60)) with
    | false =>
      obtain⟨k,hk⟩:=a2 ha
      rw [hk]
      simp only [Option.bind_some,Sum.elim_inr]
      rw [show decide ((k:Int)≥0)=true by simp]
      rfl
    | true =>
      rw [a1 ha]
      simp only [Option.bind_some,Sum.elim_inl]
      cases hb:lists.all (fun l=>l.all A5) with
      | false =>
        obtain⟨k,hk⟩:=b2 hb
        rw [hk]
        simp only [Option.bind_some,Sum.elim_inr]
        rw [show decide ((k:Int)≥0)=true by simp]
        rfl
      | true=>rw [b1 hb]; rfl
end Go.Proofs.YtkpgggfibljflaaGreatDoor
namespace Go.Proofs.YtkpgggfibljflaaGreatDoor
open Go Go.RowKit Go.Proofs
def DG:List (List Record)→Nat
  | []=>0
  | l::r=>l.length+DG r
theorem Ix:∀ (r:List (List Record)),(∀ l∈r,l.length≤1000)→DG r≤r.length*1000
  | [],_=>by simp [DG]
  | l::r,h=>by
    have h1:=Ix r fun x hx=>h x (by simp [hx])
    have h2:=h l (by simp)
    simp only [DG,List.length_cons]
    omega
theorem HC:∀ (r:List (List Record)),r.flatten.length=DG r
  | []=>rfl
  | l::r=>by simp [DG,HC r]
theorem Eb (full:List (List Record)) (hl:full.length≤1000) (hl2:∀ l∈full,l.length≤1000):∀ (n i s:Nat),full.length-i<n→i≤full.length→s≤i*1000→concatR_l1 n full (s:Int) full (full.length:Int) (i:Int)=some (full,(((s+DG (full.drop i):Nat):Int),()))
  | 0,_,_,h,_,_=>absurd h (Nat.not_lt_zero _)
  | n+1,i,s,h,hi,hs=>by
    rw [concatR_l1]
    by_cases hx:i<full.length
    · have hd:full.drop i=full[i]::full.drop (i+1):=List.drop_eq_getElem_cons hx
      have h2:=hl2 _ (List.getElem_mem hx)
      have e:IntKind.i64.wrap ((s:Int)+(full[i].length:Int))=((s+full[i].length:Nat):Int):=by rw [D3 (by omega) (by omega)]; omega
      rw [show decide ((i:Int)<(full.length:Int))=true by simp; omega,cond_true,AS hx,Option.bind_some,e,show decide (((s+full[i].length:Nat):Int)<0)=false from decide_eq_false (by omega),cond_false,wN i (by omega),Eb full hl hl2 n (i+1) _ (by omega) (by omega) (by omega),hd]
      simp only [DG]
      rw [Nat.add_assoc]
    · have hd:full.drop i=[]:=by simp; omega
      rw [show decide ((i:Int)<(full.length:Int))=false by simp; omega,hd]
      simp [DG]
theorem Ec (full:List (List Record)) (hl:full.length≤1000) (hl2:∀ l∈full,l.length≤1000):∀ (n i:Nat)(acc:List Record),full.length-i<n→i≤full.length→acc.length≤i*1000→concatR_l2 n acc full (full.length:Int) (i:Int)=some (acc++(full.drop i).flatten,())
  | 0,_,_,h,_,_=>absurd h (Nat.not_lt_zero _)
  | n+1,i,acc,h,hi,hs=>by
    rw [concatR_l2]
    by_cases hx:i<full.length
    · have hd:full.drop i=full[i]::full.drop (i+1):=List.drop_eq_getElem_cons hx
      have h2:=hl2 _ (List.getElem_mem hx)
      rw [show decide ((i:Int)<(full.length:Int))=true by simp; omega,cond_true,AS hx,Option.bind_some,Ad (by omega),Option.bind_some,wN i (by omega),Ec full hl hl2 n (i+1) _ (by omega) (by omega) (by simp; omega),hd,List.flatten_cons,List.append_assoc]
    · have hd:full.drop i=[]:=by simp; omega
      rw [show decide ((i:Int)<(full.length:Int))=false by simp; omega,hd]
      simp
theorem IB {n:Nat} {lists:List (List Record)} (hl:lists.length≤1000) (hl2:∀ l∈lists,l.length≤1000) (h:lists.length<n):concatR n lists=some (lists.flatten,()):=by
  unfold concatR
  have h1:=Eb lists hl hl2 n 0 0 (by omega) (by omega) (by omega)
  have h2:=Ec lists hl hl2 n 0 [] (by omega) (by omega) (by simp)
  have h3:=Ix lists hl2
  rw [show((0:Nat):Int)=0 from rfl] at h1 h2
  rw [List.drop_zero,Nat.zero_add] at h1
  rw [List.drop_zero,List.nil_append] at h2
  rw [h1]
  simp only [Option.bind_some]
  rw [show(decide ((0:Int)≤((DG lists:Nat):Int)) && decide (((DG lists:Nat):Int)≤1000000000))=true by simp; omega,cond_true,Option.bind_some,h2]
  rfl
def zR:Record:=Record.mk 0 0 0 (IK.mk 0) 0 0
def B8 (r:Record):Who:=Who.mk r.machine r.seq
def Iy:List (Who×Record)→List Record→List Record→Option (List Record)
  | _,o,[]=>some o
  | m,o,r::l=>bif mhas keq227 m (B8 r) then(bif AD (mgetD keq227 m (B8 r) zR) r then Iy m o l else none) else Iy (mput keq227 m (B8 r) r) (o++[r]) l
theorem Ed (full:List Record) (hl:full.length≤1000000):∀ (n i:Nat)(m:List (Who×Record))(o:List Record),full.length-i<n→i≤full.length→o.length≤i→match Iy m o (full.drop i) with
    | some o'=>∃ m',fsheet_merged_l1 n m o full (full.length:Int) (i:Int)=some (.inl (m',(o',())))
    | none=>∃ m',fsheet_merged_l1 n m o full (full.length:Int) (i:Int)=some (.inr (m',([],(6,()))))
  | 0,_,_,_,h,_,_=>absurd h (Nat.not_lt_zero _)
  | n+1,i,m,o,h,hi,ho=>by
    rw [fsheet_merged_l1]
    by_cases hx:i<full.length
    · have hd:full.drop i=full[i]::full.drop (i+1):=List.drop_eq_getElem_cons hx
      rw [show decide ((i:Int)<(full.length:Int))=true by simp; omega,cond_true,AS hx,Option.bind_some,hd,wN i (by omega)]
      have ih:=fun m o=>Ed full hl n (i+1) m o (by omega) (by omega)
      have happ:app o [full[i]]=some (o++[full[i]]):=Ad (by simp; omega)
      unfold Iy
      change match (bif mhas keq227 m (B8 full[i]) then(bif AD (mgetD keq227 m (B8 full[i]) zR) full[i] then Iy m o (full.drop (i+1)) else none) else Iy (mput keq227 m (B8 full[i]) full[i]) (o++[full[i]]) (full.drop (i+1))) with
        | some o'=>∃ m',(bif mhas keq227 m (B8 full[i]) then(bif !AD (mgetD keq227 m (B8 full[i]) zR) full[i] then _ else(bif !mhas keq227 m (B8 full[i]) then _ else _)) else(bif !mhas keq227 m (B8 full[i]) then _ else _))=_
        | none=>∃ m',(bif mhas keq227 m (B8 full[i]) then(bif !AD (mgetD keq227 m (B8 full[i]) zR) full[i] then _ else(bif !mhas keq227 m (B8 full[i]) then _ else _)) else(bif !mhas keq227 m (B8 full[i]) then _ else _))=_
      cases hm:mhas keq227 m (B8 full[i]) with
      | true =>
        cases AD (mgetD keq227 m (B8 full[i]) zR) full[i] with
        | true =>
          simp only [cond_true,Bool.not_true,cond_false]
          exact ih m o (by omega)
        | false=>exact⟨m,rfl⟩
      | false =>
        simp only [cond_true,Bool.not_false,cond_false]
        rw [happ]
        simp only [Option.bind_some]
        exact ih _ _ (by simp; omega)
    · have hd:full.drop i=[]:=by simp; omega
      rw [show decide ((i:Int)<(full.length:Int))=false by simp; omega,hd]
      exact⟨m,rfl⟩
def Kw (a b:Record):Bool:=decide (a.machine=b.machine) && decide (a.minute>b.minute)
def HD:List Record→Bool
  | a::b::r=>!Kw a b && HD (b::r)
  | _=>true
theorem Ee (full:List Record) (hl:full.length≤1000000):∀ (n i:Nat),full.length-i<n→i≤full.length→fsheet_merged_l2 n full (full.length:Int) (i:Int)=some (bif HD (full.drop (i-1)) then .inl (full,()) else .inr ([],(6,())))
  | 0,_,h,_=>absurd h (Nat.not_lt_zero _)
  | n+1,i,h,hi=>by
    rw [fsheet_merged_l2]
    by_cases hx:i<full.length
    · rw [show decide ((i:Int)<(full.length:Int))=true by simp; omega,cond_true,AS hx,Option.bind_some,show((i:Nat):Int).toNat=i from rfl,Hz hx,Option.bind_some,wN i (by omega)]
      have ih:=Ee full hl n (i+1) (by omega) (by omega)
      rw [show i+1-1=i by omega] at ih
      by_cases h0:i=0
      · subst h0
        rw [show decide (((0:Nat):Int)>0)=false from rfl,cond_false,ih]
      · have hx1:i-1<full.length:=by omega
        have e:IntKind.i64.wrap ((i:Int)-1)=((i-1:Nat):Int):=by rw [D3 (by omega) (by omega)]; omega
        rw [show decide ((i:Int)>0)=true from decide_eq_true (by omega),cond_true,e,AS hx1,Option.bind_some,show((i-1:Nat):Int).toNat=i-1 from rfl,Hz hx1,Option.bind_some]
        simp only [Option.bind_some]
        have hd:full.drop (i-1)=full[i-1]::full[i]::full.drop (i+1):=by
          rw [List.drop_eq_getElem_cons hx1,show i-1+1=i by omega,List.drop_eq_getElem_cons hx]
        have hd2:full.drop i=full[i]::full.drop (i+1):=List.drop_eq_getElem_cons hx
        rw [hd2] at ih
        rw [hd,ih]
        simp only [HD,Kw]
        cases decide (full[i-1].machine=full[i].machine) <;> cases decide (full[i-1].minute>full[i].minute) <;> simp
    · have hi':i=full.length:=by omega
      rw [show decide ((i:Int)<(full.length:Int))=false by simp; omega,cond_false]
      have:HD (full.drop (i-1))=true:=by
        rcases Nat.eq_zero_or_pos full.length with h0 | h0
        · have:full=[]:=List.length_eq_zero_iff.1 h0
          subst this
          simp [HD]
        · have hx1:i-1<full.length:=by omega
          rw [List.drop_eq_getElem_cons hx1,show i-1+1=full.length by omega,List.drop_length]
          rfl
      rw [this]; rfl
theorem GX {α:Type} (eq:α→α→Bool) (x:α):∀ l,distB eq (l++[x])=(distB eq l && !l.any (fun a=>eq a x))
  | []=>by simp [distB]
  | y::r=>by
    rw [List.cons_append,distB,distB,GX eq x r,List.any_append,List.any_cons]
    simp only [List.any_cons,List.any_nil,Bool.or_false]
    cases r.any (eq y) <;> cases eq y x <;> cases distB eq r <;> cases r.any (fun a=>eq a x) <;> rfl
def Kt (a b:Record):Bool:=a.machine == b.machine && a.seq == b.seq
theorem JQ {a b:Record}:Kt a b=true↔B8 a=B8 b:=by simp [Kt,B8]
theorem FU:∀ (l:List Record)(m:List (Who×Record))(o o':List Record),Iy m o l=some o'→(∀ a∈o,mhas keq227 m (B8 a)=true)→distB Kt o=true→distB Kt o' = true
  | [],m,o,o',h,_,hd=>by cases h; exact hd
  | r::l,m,o,o',h,hm,hd=>by
    unfold Iy at h
    cases hr:mhas keq227 m (B8 r) with
    | true =>
      rw [hr,cond_true] at h
      cases hs:AD (mgetD keq227 m (B8 r) zR) r with
      | true=>rw [hs,cond_true] at h; exact FU l m o o' h hm hd
      | false=>rw [hs] at h; cases h
    | false =>
      rw [hr,cond_false] at h
      refine FU l _ _ o' h (fun a ha=>?_) ?_
      · rw [I9 HV]
        rcases List.mem_append.1 ha with ha | ha
        · exact .inr (hm a ha)
        · rw [List.mem_singleton.1 ha]; exact .inl rfl
      · rw [GX,hd,Bool.true_and]
        have:o.any (fun a=>Kt a r)=false:=by
          rw [List.any_eq_false]
          intro a ha he
          have:=hm a ha
          rw [JQ.1 he,hr] at this; cases this
        rw [this]; rfl
theorem Hp:∀ (l:List Record)(m:List (Who×Record))(o o':List Record),Iy m o l=some o'→∀ a∈o',a∈o∨a∈l
  | [],m,o,o',h=>by cases h; exact fun a ha=>.inl ha
  | r::l,m,o,o',h=>by
    unfold Iy at h
    cases hr:mhas keq227 m (B8 r) with
    | true =>
      rw [hr,cond_true] at h
      cases hs:AD (mgetD keq227 m (B8 r) zR) r with
      | true =>
        rw [hs,cond_true] at h
        intro a ha
        rcases Hp l m o o' h a ha with h' | h'
        · exact .inl h'
        · exact .inr (by simp [h'])
      | false=>rw [hs] at h; cases h
    | false =>
      rw [hr,cond_false] at h
      intro a ha
      rcases Hp l _ _ o' h a ha with h' | h'
      · rcases List.mem_append.1 h' with h' | h'
        · exact .inl h'
        · exact .inr (by rw [List.mem_singleton.1 h']; simp)
      · exact .inr (by simp [h'])
theorem Hq:∀ (l:List Record)(m:List (Who×Record))(o o':List Record),Iy m o l=some o'→o'.length≤o.length+l.length
  | [],m,o,o',h=>by cases h; simp
  | r::l,m,o,o',h=>by
    unfold Iy at h
    cases hr:mhas keq227 m (B8 r) with
    | true =>
      rw [hr,cond_true] at h
      cases hs:AD (mgetD keq227 m (B8 r) zR) r with
      | true =>
        rw [hs,cond_true] at h
        have:=Hq l m o o' h
        simp; omega
      | false=>rw [hs] at h; cases h
    | false =>
      rw [hr,cond_false] at h
      have:=Hq l _ _ o' h
      simp at this ⊢; omega
theorem Ef {α:Type}:∀ (l:List α),lenN l=l.length
  | []=>rfl
  | a::l=>by simp [lenN,Ef l]
theorem JR {o:List Record} (hl:o.length≤1000000) (hr:∀ a∈o,A5 a=true) (hd:distB Kt o=true):srtR o=some (srtB leR o):=by
  unfold srtR
  have h1:Nat.blt (lenN o) 4611686018427387904=true:=by rw [Ef]; exact Nat.ble_eq_true_of_le (by omega)
  have h2:o.all (fun a=>smI a.machine && smI a.seq)=true:=by
    rw [List.all_eq_true]
    intro a ha
    have:=hr a ha
    unfold A5 at this
    simp only [Bool.and_eq_true,Cs] at this
    simp [smI]; omega
  have h3:distB (fun a b:Record=>a.machine == b.machine && a.seq == b.seq) o=true:=hd
  rw [h1,h2,h3]; rfl
def Dz (lists:List (List Record)):Int ⊕ List Record :=
  if Fm lists≠0 then .inl (Fm lists) else match Iy [] [] lists.flatten with
    | none=>.inl 6
    | some o=>bif HD (srtB leR o) then .inr (srtB leR o) else .inl 6
theorem HE {lists:List (List Record)} {e:Int} (h:Dz lists=.inl e):e=1∨e=3∨e=6:=by
  unfold Dz at h
  have:=HW lists
  split at h
  · cases h; omega
  · split at h
    · cases h; simp
    · rename_i o _
      cases ho:HD (srtB leR o) with
      | true=>rw [ho] at h; cases h
      | false=>rw [ho] at h; cases h; simp
theorem IC {lists:List (List Record)} (h:Fm lists=0):lists.length≤6∧(∀ l∈lists,l.length≤60)∧∀ l∈lists,∀ r∈l,A5 r=true:=by
  unfold Fm at h
  split at h
  · omega
  · rename_i h6
    cases ha:lists.all (fun l=>decide (l.length≤60)) with
    | false=>rw [ha] at h; simp at h
    | true =>
      rw [ha,cond_true] at h
      cases hb:lists.all (fun l=>l.all A5) with
      | false=>rw [hb] at h; simp at h
      | true=>exact⟨by omega,fun l hl=>by simpa using List.all_eq_true.1 ha l hl,fun l hl=>List.all_eq_true.1 (List.all_eq_true.1 hb l hl)⟩
theorem ID {n:Nat} {lists:List (List Record)} (hk:∀ l∈lists,∀ r∈l,Ho r) (hl:lists.length≤1000) (hl2:∀ l∈lists,l.length≤1000) (h:1001+lists.length<n):fsheet_merged n lists=some (match Dz lists with | .inl e=>([],(e,())) | .inr s=>(s,(0,()))):=by
  unfold fsheet_merged Dz
  rw [HX hk hl hl2 h,Option.bind_some]
  simp only
  by_cases hc:Fm lists=0
  · rw [hc,show((0:Int) != 0)=false from rfl,cond_false,if_neg (by simp)]
    obtain⟨h6,h60,hR⟩:=IC hc
    have hs:DG lists≤360:=by
      have H:∀ (r:List (List Record)),(∀ l∈r,l.length≤60)→DG r≤r.length*60:=by
        intro r
        induction r with
        | nil=>intro _; simp [DG]
        | cons l r ih =>
          intro h
          have h1:=ih fun x hx=>h x (by simp [hx])
          have h2:=h l (by simp)
          simp only [DG,List.length_cons]
          omega
      have:=H lists h60
      omega
    have hfl:=HC lists
    rw [IB hl hl2 (by omega),Option.bind_some]
    simp only
    have h1:=Ed lists.flatten (by omega) n 0 [] [] (by omega) (by omega) (by simp)
    rw [show((0:Nat):Int)=0 from rfl,List.drop_zero] at h1
    cases hm:Iy [] [] lists.flatten with
    | none =>
      rw [hm] at h1
      obtain⟨m',e⟩:=h1
      rw [e]; rfl
    | some o =>
      rw [hm] at h1
      obtain⟨m',e⟩:=h1
      have hol:o.length≤360:=by
        have:=Hq _ _ _ _ hm
        rw [List.length_nil,Nat.zero_add] at this
        omega
      have hod:=FU _ _ _ _ hm (by simp) rfl
      have hos:=Hp _ _ _ _ hm
      have hor:∀ a∈o,A5 a=true:=fun a ha=>by
        rcases hos a ha with h' | h'
        · simp at h'
        · obtain⟨l,hl1,hl2⟩:=List.mem_flatten.1 h'
          exact hR l hl1 a hl2
      have hsl:(srtB leR o).length=o.length:=DZ _ _
      have h2:=Ee (srtB leR o) (by omega) n 0 (by omega) (by omega)
      rw [show((0:Nat):Int)=0 from rfl,List.drop_zero] at h2
      rw [e]
      simp only [Option.bind_some,Sum.elim_inl]
      rw [JR (by omega) hor hod]
      simp only [Option.bind_some]
      rw [h2]
      cases HD (srtB leR o) <;> rfl
  · rw [show(Fm lists != 0)=true by simpa using hc,cond_true,if_pos hc]
def DH (lists:List (List Record)):Int:=match Dz lists with
  | .inl e=>e
  | .inr s=>if 60<s.length then 3 else 0
theorem Jo {n:Nat} {lists:List (List Record)} (hk:∀ l∈lists,∀ r∈l,Ho r) (hl:lists.length≤1000) (hl2:∀ l∈lists,l.length≤1000) (h:1001+lists.length<n):∃ x,fsheet_Merge n lists=some (x,(DH lists,())):=by
  unfold fsheet_Merge DH
  rw [ID hk hl hl2 h,Option.bind_some]
  cases hm:Dz lists with
  | inl e =>
    have:=HE hm
    simp only
    rw [show(e != 0)=true by simp; omega]
    exact⟨_,rfl⟩
  | inr s =>
    simp only
    rw [show((0:Int) != 0)=false from rfl,cond_false]
    by_cases h60:60<s.length
    · rw [show decide ((s.length:Int)>60)=true from decide_eq_true (by omega),if_pos h60]; exact⟨_,rfl⟩
    · rw [show decide ((s.length:Int)>60)=false from decide_eq_false (by omega),if_neg h60]; exact⟨_,rfl⟩
end Go.Proofs.YtkpgggfibljflaaGreatDoor
namespace Go.Proofs.YtkpgggfibljflaaGreatDoor
open Go Go.RowKit Go.Proofs
def wkOk (w:Week):Prop:=w.days=7∧w.rest=600∧w.run=5∧w.hours=3000∧w.duties.length≤13∧w.drivers.length≤7∧∀ d∈w.drivers,∃ k off,d=Driver.mk [k] [] [] off 0 0
def EY (d:Duty):Bool:=Bg d.day 0 6 && (Bg d.on 0 1439 && (decide (d.on≤d.off.lo) && (decide (d.off.lo≤d.off.hi) && (decide (d.off.hi≤d.on+1440) && Bg d.route 0 15))))
def HF (d:Driver):Bool:=(d.knows.all fun k=>Bg k 0 15) && Bg d.off (-10080) 1440
theorem JS (n:Nat) (w:Week) (d:Duty) (hw:w.days=7):froster_Week_duty n w d=some (EY d,()):=by
  unfold froster_Week_duty EY Bg
  rw [hw,show IntKind.i64.wrap (7-1)=6 from rfl]
  cases decide (0≤d.day) with
  | false=>rfl
  | true =>
  cases decide (d.day≤6) with
  | false=>rfl
  | true =>
  by_cases h0:0≤d.on
  · by_cases h1:d.on≤1439
    · rw [decide_eq_true h0,decide_eq_true h1,D3 (x:=d.on+1440) (by omega) (by omega)]
      cases decide (d.on≤d.off.lo) <;> cases decide (d.off.lo≤d.off.hi) <;> cases decide (d.off.hi≤d.on+1440) <;> cases decide (0≤d.route) <;> simp
    · rw [decide_eq_true h0,decide_eq_false h1]; rfl
  · rw [decide_eq_false h0]; rfl
theorem IE (n:Nat) (k lo hi:Int):froster_rises (n+2) [k] lo hi=some (Bg k lo hi,()):=by
  show((bif decide (lo≤k) then(bif !!decide (k≤hi) then _ else some (.inr (false,()))) else some (.inr (false,()))):Option (Unit ⊕ ((Bool×Unit)))).bind _=_
  unfold Bg
  cases decide (lo≤k) <;> cases decide (k≤hi) <;> rfl
theorem IF (n:Nat) (lo hi:Int):froster_rises (n+1) [] lo hi=some (true,()):=rfl
theorem IG (n:Nat) (w:Week) (d:Driver) (hw:w.days=7) (hh:w.hours=3000) (hd:∃ k off,d=Driver.mk [k] [] [] off 0 0):froster_Week_driver (n+2) w d=some (HF d,()):=by
  obtain⟨k,off,rfl⟩:=hd
  unfold froster_Week_driver HF
  rw [hw,hh,IE]
  simp only [Option.bind_some,IF]
  simp only [List.all_cons,List.all_nil,Bool.and_true]
  unfold Bg
  cases (decide (0≤k) && decide (k≤15)) <;> cases decide (-10080≤off) <;> cases decide (off≤1440) <;> rfl
def AM (w:Week):Int:=if 12<w.duties.length then 3 else if 6<w.drivers.length then 3 else bif w.duties.all EY then(bif w.drivers.all HF then 0 else 1) else 1
theorem HY {n:Nat} {w:Week} (hw:wkOk w) (h:20<n) :
    (w.duties.all EY=true→froster_CheckWeek_i1 n w.duties w (w.duties.length:Int) 0=some (.inl ((((w,()),()),()),())))∧(w.duties.all EY=false→∃ k:Nat,froster_CheckWeek_i1 n w.duties w (w.duties.length:Int) 0=some (.inr ((((w,()),()),()),((k:Int),())))) :=
  C3 (F:=fun n i=>froster_CheckWeek_i1 n w.duties w (w.duties.length:Int) i) (G:=fun n i v0=>(froster_Week_duty n w v0).bind fun v1=>bif !v1.fst then(some (.inr ((((w,()),()),()),(i,())))) else froster_CheckWeek_i1 n w.duties w (w.duties.length:Int) (IntKind.i64.wrap (i+1))) w.duties EY ((((w,()),()),()),()) (fun i=>((((w,()),()),()),(i,()))) 0 (by have:=hw.2.2.2.2.1; omega) (fun _ _=>rfl) (fun n i hi _=>by
    rw [JS n w _ hw.1]
    cases EY w.duties[i] <;> rfl) (n:=n) (by have:=hw.2.2.2.2.1; omega)
theorem HZ {n:Nat} {w:Week} (hw:wkOk w) (h:20<n) :
    (w.drivers.all HF=true→froster_CheckWeek_i2 n w.drivers w (w.drivers.length:Int) 0=some (.inl ((((w,()),()),()),())))∧(w.drivers.all HF=false→∃ k:Nat,froster_CheckWeek_i2 n w.drivers w (w.drivers.length:Int) 0=some (.inr ((((w,()),()),()),((k:Int),())))) :=
  C3 (F:=fun n i=>froster_CheckWeek_i2 n w.drivers w (w.drivers.length:Int) i) (G:=fun n i v0=>(froster_Week_driver n w v0).bind fun v1=>bif !v1.fst then(some (.inr ((((w,()),()),()),(i,())))) else froster_CheckWeek_i2 n w.drivers w (w.drivers.length:Int) (IntKind.i64.wrap (i+1))) w.drivers HF ((((w,()),()),()),()) (fun i=>((((w,()),()),()),(i,()))) 2 (by have:=hw.2.2.2.2.2.1; omega) (fun _ _=>rfl) (fun n i hi hn=>by
    obtain⟨m,rfl⟩:∃ m,n=m+2:=⟨n-2,by omega⟩
    rw [IG m w _ hw.1 hw.2.2.2.1 (hw.2.2.2.2.2.2 _ (List.getElem_mem hi))]
    cases HF w.drivers[i] <;> rfl) (n:=n) (by have:=hw.2.2.2.2.2.1; omega)
theorem C4 {n:Nat} {w:Week} (hw:wkOk w) (h:20<n):froster_CheckWeek n w=some (AM w,()):=by
  unfold froster_CheckWeek AM
  have hw':=hw
  obtain⟨h1,h2,h3,h4,_⟩:=hw'
  rw [h1,h2,h3,h4]
  by_cases h12:12<w.duties.length
  · rw [show decide ((w.duties.length:Int)>12)=true from decide_eq_true (by omega),if_pos h12]; rfl
  · rw [show decide ((w.duties.length:Int)>12)=false from decide_eq_false (by omega),if_neg h12]
    by_cases h6:6<w.drivers.length
    · rw [show decide ((w.drivers.length:Int)>6)=true from decide_eq_true (by omega),if_pos h6]; rfl
    · rw [show decide ((w.drivers.length:Int)>6)=false from decide_eq_false (by omega),if_neg h6]
      obtain⟨a1,a2⟩:=HY hw h
      obtain⟨b1,b2⟩:=HZ hw h
      show(froster_CheckWeek_i1 n w.duties w (w.duties.length:Int) 0).bind _=_
      cases ha:w.duties.all EY with
      | false =>
        obtain⟨k,hk⟩:=a2 ha
        rw [hk]
        simp only [Option.bind_some,Sum.elim_inr]
        rw [show decide ((k:Int)≥0)=true by simp]
        rfl
      | true =>
        rw [a1 ha]
        simp only [Option.bind_some,Sum.elim_inl]
        cases hb:w.drivers.all HF with
        | false =>
          obtain⟨k,hk⟩:=b2 hb
          rw [hk]
          simp only [Option.bind_some,Sum.elim_inr]
          rw [show decide ((k:Int)≥0)=true by simp]
          rfl
        | true=>rw [b1 hb]; rfl
end Go.Proofs.YtkpgggfibljflaaGreatDoor
namespace Go.Proofs.YtkpgggfibljflaaGreatDoor
open Go Go.RowKit Go.Proofs
abbrev Hr (x:Int):Int:=IntKind.i64.wrap x
def Hy:Stand:=Stand.mk 0 0 0 0
def GY (s:Stand) (d:Duty) (e:Int):Stand :=
  bif decide (s.day=d.day) then Stand.mk s.free s.row (Hr (s.used+Hr (e-d.on))) s.day else
  bif s.day != Hr (d.day-1) then Stand.mk (Hr (Hr (d.day*1440)+e)) (Hr (0+1)) (Hr (s.used+Hr (e-d.on))) d.day else
  Stand.mk (Hr (Hr (d.day*1440)+e)) (Hr (s.row+1)) (Hr (s.used+Hr (e-d.on))) d.day
theorem Iz (n:Nat) (s:Stand) (d:Duty) (e:Int):froster_stand_take n s d e=some (GY s d e,()):=by
  unfold froster_stand_take GY
  cases decide (s.day=d.day)
  · cases s.day != IntKind.i64.wrap (d.day-1) <;> rfl
  · rfl
def D4 (w:Week) (k:Int) (d:Duty) (s:Stand):Nat→Bool
  | 0=>match idx w.drivers k with
    | some v=>v.knows.any fun x=>decide (d.route=x)
    | none=>true
  | 1=>true
  | 2=>s.day != d.day
  | 3=>bif !decide (s.day=d.day) then decide (Hr (Hr (Hr (d.day*1440)+d.on)-s.free)≥w.rest) else true
  | _=>bif !decide (s.day=d.day) then decide ((GY s d d.on).row≤w.run) else true
theorem Jp {n:Nat} {w:Week} {k:Int} {d:Duty} {s:Stand} {v:Driver} (hv:idx w.drivers k=some v) (hk:∃ x off,v=Driver.mk [x] [] [] off 0 0):froster_Week_knows (n+2) w k d s=some (D4 w k d s 0,()):=by
  obtain⟨x,off,rfl⟩:=hk
  unfold froster_Week_knows D4
  rw [hv]
  show((bif decide (d.route=x) then some (.inr (0,())) else some (.inl ()):Option (Unit ⊕ (Int×Unit))).bind _)=_
  simp only [List.any_cons,List.any_nil,Bool.or_false]
  cases decide (d.route=x) <;> rfl
theorem JT {n:Nat} {w:Week} {k:Int} {d:Duty} {s:Stand} {v:Driver} (hv:idx w.drivers k=some v) (hk:∃ x off,v=Driver.mk [x] [] [] off 0 0):froster_Week_here (n+1) w k d s=some (D4 w k d s 1,()):=by
  obtain⟨x,off,rfl⟩:=hk
  unfold froster_Week_here D4
  rw [hv]; rfl
theorem IH {n:Nat} {w:Week} {k:Int} {d:Duty} {s:Stand}:froster_Week_single n w k d s=some (D4 w k d s 2,()):=rfl
theorem II {n:Nat} {w:Week} {k:Int} {d:Duty} {s:Stand}:froster_Week_rested n w k d s=some (D4 w k d s 3,()):=by
  unfold froster_Week_rested
  show _=some ((bif !decide (s.day=d.day) then decide (Hr (Hr (Hr (d.day*1440)+d.on)-s.free)≥w.rest) else true),())
  cases decide (s.day=d.day) <;> rfl
theorem Jq {n:Nat} {w:Week} {k:Int} {d:Duty} {s:Stand}:froster_Week_fresh n w k d s=some (D4 w k d s 4,()):=by
  unfold froster_Week_fresh
  show _=some ((bif !decide (s.day=d.day) then decide ((GY s d d.on).row≤w.run) else true),())
  rw [Iz]
  cases decide (s.day=d.day) <;> rfl
def GB (w:Week) (k i:Int) (d:Duty) (s:Stand) (j:Nat):List Breach:=bif D4 w k d s j then [] else [Breach.mk (IK.mk (j:Int)) k i]
def GC (w:Week) (k i:Int) (d:Duty) (s:Stand):List Breach:=GB w k i d s 0++(GB w k i d s 1++(GB w k i d s 2++(GB w k i d s 3++GB w k i d s 4)))
abbrev GD:List Question:=[Question.mk (IK.mk 0) (Fp.mk (↑238:Int)),Question.mk (IK.mk 1) (Fp.mk (↑239:Int)),Question.mk (IK.mk 2) (Fp.mk (↑240:Int)),Question.mk (IK.mk 3) (Fp.mk (↑241:Int)),Question.mk (IK.mk 4) (Fp.mk (↑242:Int))]
section
variable {w:Week} {truth:List Int} {now:List Stand} {i k:Int} {d:Duty} {s:Stand} {v:Driver}
theorem Kx {n:Nat} {out:List Breach} (h6:now.length.beq 6=true) (hn:idx now k=some s) (hg:now.get?Internal k.toNat=some s) (hv:idx w.drivers k=some v) (hk:∃ x off,v=Driver.mk [x] [] [] off 0 0) (ho:out.length≤1000) :
    froster_Week_broken_l2 (n+3) w truth out now i d k GD 5 0=froster_Week_broken_l2 (n+2) w truth (out++GB w k i d s 0) now i d k GD 5 1:=by
  rw [froster_Week_broken_l2]
  show(bif now.length.beq 6 then((idx now k).bind fun v2=>(now.get?Internal k.toNat).bind fun v3=>((froster_Week_knows (n+2) w k d v3).bind fun v4=>bif !v4.fst then((app out [Breach.mk (IK.mk 0) k i]).bind fun v5=>froster_Week_broken_l2 (n+2) w truth v5 now i d k GD 5 1) else froster_Week_broken_l2 (n+2) w truth out now i d k GD 5 1)) else none)=_
  rw [h6,cond_true,hn,Option.bind_some,hg,Option.bind_some,Jp hv hk,Option.bind_some,Ad (by simp; omega)]
  unfold GB
  cases D4 w k d s 0 <;> simp
theorem Ky {n:Nat} {out:List Breach} (h6:now.length.beq 6=true) (hn:idx now k=some s) (hg:now.get?Internal k.toNat=some s) (hv:idx w.drivers k=some v) (hk:∃ x off,v=Driver.mk [x] [] [] off 0 0) (ho:out.length≤1000) :
    froster_Week_broken_l2 (n+3) w truth out now i d k GD 5 1=froster_Week_broken_l2 (n+2) w truth (out++GB w k i d s 1) now i d k GD 5 2:=by
  rw [froster_Week_broken_l2]
  show(bif now.length.beq 6 then((idx now k).bind fun v2=>(now.get?Internal k.toNat).bind fun v3=>((froster_Week_here (n+2) w k d v3).bind fun v4=>bif !v4.fst then((app out [Breach.mk (IK.mk 1) k i]).bind fun v5=>froster_Week_broken_l2 (n+2) w truth v5 now i d k GD 5 2) else froster_Week_broken_l2 (n+2) w truth out now i d k GD 5 2)) else none)=_
  rw [h6,cond_true,hn,Option.bind_some,hg,Option.bind_some,JT hv hk,Option.bind_some,Ad (by simp; omega)]
  unfold GB
  cases D4 w k d s 1 <;> simp
theorem Kz {n:Nat} {out:List Breach} (h6:now.length.beq 6=true) (hn:idx now k=some s) (hg:now.get?Internal k.toNat=some s) (hv:idx w.drivers k=some v) (hk:∃ x off,v=Driver.mk [x] [] [] off 0 0) (ho:out.length≤1000) :
    froster_Week_broken_l2 (n+3) w truth out now i d k GD 5 2=froster_Week_broken_l2 (n+2) w truth (out++GB w k i d s 2) now i d k GD 5 3:=by
  rw [froster_Week_broken_l2]
  show(bif now.length.beq 6 then((idx now k).bind fun v2=>(now.get?Internal k.toNat).bind fun v3=>((froster_Week_single (n+2) w k d v3).bind fun v4=>bif !v4.fst then((app out [Breach.mk (IK.mk 2) k i]).bind fun v5=>froster_Week_broken_l2 (n+2) w truth v5 now i d k GD 5 3) else froster_Week_broken_l2 (n+2) w truth out now i d k GD 5 3)) else none)=_
  rw [h6,cond_true,hn,Option.bind_some,hg,Option.bind_some,IH,Option.bind_some,Ad (by simp; omega)]
  unfold GB
  cases D4 w k d s 2 <;> simp
theorem K0 {n:Nat} {out:List Breach} (h6:now.length.beq 6=true) (hn:idx now k=some s) (hg:now.get?Internal k.toNat=some s) (hv:idx w.drivers k=some v) (hk:∃ x off,v=Driver.mk [x] [] [] off 0 0) (ho:out.length≤1000) :
    froster_Week_broken_l2 (n+3) w truth out now i d k GD 5 3=froster_Week_broken_l2 (n+2) w truth (out++GB w k i d s 3) now i d k GD 5 4:=by
  rw [froster_Week_broken_l2]
  show(bif now.length.beq 6 then((idx now k).bind fun v2=>(now.get?Internal k.toNat).bind fun v3=>((froster_Week_rested (n+2) w k d v3).bind fun v4=>bif !v4.fst then((app out [Breach.mk (IK.mk 3) k i]).bind fun v5=>froster_Week_broken_l2 (n+2) w truth v5 now i d k GD 5 4) else froster_Week_broken_l2 (n+2) w truth out now i d k GD 5 4)) else none)=_
  rw [h6,cond_true,hn,Option.bind_some,hg,Option.bind_some,II,Option.bind_some,Ad (by simp; omega)]
  unfold GB
  cases D4 w k d s 3 <;> simp
theorem K1 {n:Nat} {out:List Breach} (h6:now.length.beq 6=true) (hn:idx now k=some s) (hg:now.get?Internal k.toNat=some s) (hv:idx w.drivers k=some v) (hk:∃ x off,v=Driver.mk [x] [] [] off 0 0) (ho:out.length≤1000) :
    froster_Week_broken_l2 (n+3) w truth out now i d k GD 5 4=froster_Week_broken_l2 (n+2) w truth (out++GB w k i d s 4) now i d k GD 5 5:=by
  rw [froster_Week_broken_l2]
  show(bif now.length.beq 6 then((idx now k).bind fun v2=>(now.get?Internal k.toNat).bind fun v3=>((froster_Week_fresh (n+2) w k d v3).bind fun v4=>bif !v4.fst then((app out [Breach.mk (IK.mk 4) k i]).bind fun v5=>froster_Week_broken_l2 (n+2) w truth v5 now i d k GD 5 5) else froster_Week_broken_l2 (n+2) w truth out now i d k GD 5 5)) else none)=_
  rw [h6,cond_true,hn,Option.bind_some,hg,Option.bind_some,Jq,Option.bind_some,Ad (by simp; omega)]
  unfold GB
  cases D4 w k d s 4 <;> simp
theorem I0 (j:Nat):(GB w k i d s j).length≤1:=by
  unfold GB
  cases D4 w k d s j <;> simp
theorem K2 {n:Nat} {out:List Breach} (h6:now.length.beq 6=true) (hn:idx now k=some s) (hg:now.get?Internal k.toNat=some s) (hv:idx w.drivers k=some v) (hk:∃ x off,v=Driver.mk [x] [] [] off 0 0) (ho:out.length≤900) :
    froster_Week_broken_l2 (n+10) w truth out now i d k GD 5 0=some (w,((truth,()),((out++GC w k i d s,()),(now,(d,((),((),(i,((),(k,())))))))))):=by
  have b:=fun j=>I0 (w:=w) (i:=i) (k:=k) (d:=d) (s:=s) j
  have b0:=b 0; have b1:=b 1; have b2:=b 2; have b3:=b 3
  rw [show n+10=(n+7)+3 by omega,Kx h6 hn hg hv hk (by omega),show n+7+2=(n+6)+3 by omega,Ky h6 hn hg hv hk (by simp; omega),show n+6+2=(n+5)+3 by omega,Kz h6 hn hg hv hk (by simp; omega),show n+5+2=(n+4)+3 by omega,K0 h6 hn hg hv hk (by simp; omega),show n+4+2=(n+3)+3 by omega,K1 h6 hn hg hv hk (by simp; omega)]
  rw [froster_Week_broken_l2]
  simp only [GC,List.append_assoc]
  rfl
end
def EZ (w:Week) (roster:List Int) (day:Int) (st:List Breach×List Stand) (i:Nat) (d:Duty):List Breach×List Stand :=
  bif decide (d.day=day) then(bif decide (roster.getD i (-1)=-1) then st else
    (st.1++GC w (roster.getD i (-1)) (i:Int) d (st.2.getD (roster.getD i (-1)).toNat Hy),st.2.set (roster.getD i (-1)).toNat (GY (st.2.getD (roster.getD i (-1)).toNat Hy) d d.off.hi))) else st
def Eg (w:Week) (roster:List Int) (day:Int):Nat→List Breach×List Stand→List Duty→List Breach×List Stand
  | _,st,[]=>st
  | i,st,d::r=>Eg w roster day (i+1) (EZ w roster day st i d) r
def Fa (w:Week) (roster:List Int):Prop:=roster.length=w.duties.length∧∀ x∈roster,-1≤x∧x<(w.drivers.length:Int)
theorem HG (w:Week) (k i:Int) (d:Duty) (s:Stand):(GC w k i d s).length≤5:=by
  have b:=fun j=>I0 (w:=w) (i:=i) (k:=k) (d:=d) (s:=s) j
  have b0:=b 0; have b1:=b 1; have b2:=b 2; have b3:=b 3; have b4:=b 4
  simp only [GC,List.length_append]
  omega
theorem Ki {w:Week} {roster truth:List Int} (hw:wkOk w) (h6d:w.drivers.length≤6) (hro:Fa w roster) (htr:truth=w.duties.map fun d=>d.off.hi) (day:Int):∀ (n i:Nat)(st:List Breach×List Stand),100+(w.duties.length-i)<n→i≤w.duties.length→st.1.length≤500+i*5→st.2.length=6 →
    froster_Week_broken_i4 n w roster truth st.1 st.2 day w.duties (w.duties.length:Int) (i:Int)=some (.inl ((w,((roster,()),((truth,()),(((Eg w roster day i st (w.duties.drop i)).1,()),((Eg w roster day i st (w.duties.drop i)).2,()))))),((),((),((),((),((),((day,()),()))))))))
  | 0,_,_,h,_,_,_=>absurd h (Nat.not_lt_zero _)
  | n+1,i,st,h,hi,ho,hs=>by
    have hwl:=hw.2.2.2.2.1
    rw [froster_Week_broken_i4]
    by_cases hx:i<w.duties.length
    · have hd:w.duties.drop i=w.duties[i]::w.duties.drop (i+1):=List.drop_eq_getElem_cons hx
      have ih:=Ki hw h6d hro htr day n (i+1)
      rw [show decide ((i:Int)<(w.duties.length:Int))=true by simp; omega,cond_true,AS hx,Option.bind_some,hd,wN i (by omega)]
      simp only [Eg]
      generalize hst:EZ w roster day st i w.duties[i]=st'
      unfold EZ at hst
      cases hday:decide (w.duties[i].day=day) with
      | false =>
        rw [hday,cond_false] at hst
        subst hst
        exact ih st (by omega) (by omega) (by omega) hs
      | true =>
        rw [hday,cond_true] at hst
        have hxr:i<roster.length:=by rw [hro.1]; exact hx
        have hrg:roster.getD i (-1)=roster[i]:=by simp [List.getD,List.getElem?_eq_getElem hxr]
        rw [cond_true,AS hxr,Option.bind_some]
        rw [hrg] at hst
        have hb:=hro.2 _ (List.getElem_mem hxr)
        generalize hk:roster[i]=k at *
        by_cases h1:k=-1
        · rw [decide_eq_true h1] at hst ⊢
          simp only [cond_true] at hst ⊢
          subst hst
          exact ih st (by omega) (by omega) (by omega) hs
        · rw [decide_eq_false h1] at hst ⊢
          simp only [cond_false] at hst ⊢
          obtain⟨j,rfl⟩:∃ j:Nat,k=j:=⟨k.toNat,by omega⟩
          have hj:j<w.drivers.length:=by omega
          have hj6:j<st.2.length:=by omega
          have hg:st.2.getD ((j:Int)).toNat Hy=st.2[j]:=by simp [List.getD,List.getElem?_eq_getElem hj6]
          rw [hg] at hst
          have h6:st.2.length.beq 6=true:=by rw [hs]; rfl
          obtain⟨m,rfl⟩:∃ m,n=m+10:=⟨n-10,by omega⟩
          have hl2:=K2 (n:=m) (w:=w) (truth:=truth) (now:=st.2) (i:=(i:Int)) (k:=(j:Int)) (d:=w.duties[i]) (s:=st.2[j]) (v:=w.drivers[j]) (out:=st.1) h6 (AS hj6) (Hz hj6) (AS hj) (hw.2.2.2.2.2.2 _ (List.getElem_mem hj)) (by omega)
          have hl5:(([Question.mk (IK.mk 0) (Fp.mk (↑238:Int)),Question.mk (IK.mk 1) (Fp.mk (↑239:Int)),Question.mk (IK.mk 2) (Fp.mk (↑240:Int)),Question.mk (IK.mk 3) (Fp.mk (↑241:Int)),Question.mk (IK.mk 4) (Fp.mk (↑242:Int))]:List Question).length:Int)=5:=rfl
          rw [hl5,hl2]
          simp only [Option.bind_some]
          have htl:i<truth.length:=by rw [htr,List.length_map]; exact hx
          have hti:truth[i]=w.duties[i].off.hi:=by subst htr; simp
          rw [h6,cond_true,AS hj6,Option.bind_some,show((j:Nat):Int).toNat=j from rfl,Hz hj6,Option.bind_some,AS htl,Option.bind_some,Iz,Option.bind_some,cond_true,Option.bind_some,Option.bind_some,hti]
          rw [show((j:Nat):Int).toNat=j from rfl] at hst
          have hbl:=HG w (j:Int) (i:Int) w.duties[i] st.2[j]
          rw [← hst]
          have:=ih (st.1++GC w (j:Int) (i:Int) w.duties[i] st.2[j],st.2.set j (GY st.2[j] w.duties[i] w.duties[i].off.hi)) (by omega) (by omega) (by simp; omega) (by simp [hs])
          exact this
    · have hd:w.duties.drop i=[]:=by simp; omega
      rw [show decide ((i:Int)<(w.duties.length:Int))=false by simp; omega,hd]
      rfl
end Go.Proofs.YtkpgggfibljflaaGreatDoor
namespace Go.Proofs.YtkpgggfibljflaaGreatDoor
open Go Go.RowKit Go.Proofs
theorem IJ (w:Week) (roster:List Int) (day:Int) (st:List Breach×List Stand) (i:Nat) (d:Duty):(EZ w roster day st i d).1.length≤st.1.length+5∧(EZ w roster day st i d).2.length=st.2.length:=by
  unfold EZ
  have:=HG w (roster.getD i (-1)) (i:Int) d (st.2.getD (roster.getD i (-1)).toNat Hy)
  cases decide (d.day=day)
  · exact⟨by simp,rfl⟩
  · cases decide (roster.getD i (-1)=-1)
    · exact⟨by simp only [cond_true,cond_false,List.length_append]; omega,by simp⟩
    · exact⟨by simp,rfl⟩
theorem FV (w:Week) (roster:List Int) (day:Int):∀ (l:List Duty)(i:Nat)(st:List Breach×List Stand),(Eg w roster day i st l).1.length≤st.1.length+5*l.length∧(Eg w roster day i st l).2.length=st.2.length
  | [],_,st=>⟨by simp [Eg],rfl⟩
  | d::l,i,st=>by
    obtain⟨h1,h2⟩:=FV w roster day l (i+1) (EZ w roster day st i d)
    obtain⟨h3,h4⟩:=IJ w roster day st i d
    simp only [Eg,List.length_cons]
    exact⟨by omega,by rw [h2,h4]⟩
def Ch (w:Week) (roster:List Int):Nat→Nat→List Breach×List Stand→List Breach×List Stand
  | 0,_,st=>st
  | k+1,day,st=>Ch w roster k (day+1) (Eg w roster (day:Int) 0 st w.duties)
theorem Kj {w:Week} {roster truth:List Int} (hw:wkOk w) (h6d:w.drivers.length≤6) (hro:Fa w roster) (htr:truth=w.duties.map fun d=>d.off.hi):∀ (k day n:Nat)(st:List Breach×List Stand),day+k=7→200+k<n→st.1.length≤day*65→st.2.length=6 →
    froster_Week_broken_l1 n w roster truth st.1 st.2 7 (day:Int)=some (w,((roster,()),((truth,()),(((Ch w roster k day st).1,()),((Ch w roster k day st).2,((),((),((),()))))))))
  | _,_,0,_,_,h,_,_=>absurd h (Nat.not_lt_zero _)
  | 0,day,n+1,st,hd,h,ho,hs=>by
    rw [froster_Week_broken_l1,show decide ((day:Int)<7)=false from decide_eq_false (by omega)]
    rfl
  | k+1,day,n+1,st,hd,h,ho,hs=>by
    have hwl:=hw.2.2.2.2.1
    have h4:=Ki hw h6d hro htr (day:Int) n 0 st (by omega) (by omega) (by omega) hs
    rw [show((0:Nat):Int)=0 from rfl,List.drop_zero] at h4
    obtain⟨a1,a2⟩:=FV w roster (day:Int) w.duties 0 st
    rw [froster_Week_broken_l1,show decide ((day:Int)<7)=true from decide_eq_true (by omega),cond_true,h4,wN day (by omega)]
    simp only [Option.bind_some,Sum.elim_inl]
    have:=Kj hw h6d hro htr k (day+1) n (Eg w roster (day:Int) 0 st w.duties) (by omega) (by omega) (by omega) (by omega)
    exact this
def BC (w:Week) (now:List Stand):Nat→Nat→List Breach
  | 0,_=>[]
  | k+1,i=>(bif decide ((now.getD i Hy).used>w.hours) then [Breach.mk (IK.mk 5) (i:Int) 0] else [])++BC w now k (i+1)
theorem Jr {w:Week} {now:List Stand} (h6d:w.drivers.length≤6) (hs:now.length=6):∀ (k i n:Nat)(out:List Breach),i+k=w.drivers.length→k<n→out.length≤900+i→froster_Week_broken_l3 n w out now (w.drivers.length:Int) (i:Int)=some (w,((out++BC w now k i,()),(now,((),()))))
  | _,_,0,_,_,h,_=>absurd h (Nat.not_lt_zero _)
  | 0,i,n+1,out,hk,h,ho=>by
    rw [froster_Week_broken_l3,show decide ((i:Int)<(w.drivers.length:Int))=false from decide_eq_false (by omega)]
    simp [BC]
  | k+1,i,n+1,out,hk,h,ho=>by
    have hi:i<now.length:=by omega
    have h6:now.length.beq 6=true:=by rw [hs]; rfl
    have hg:now.getD i Hy=now[i]:=by simp [List.getD,List.getElem?_eq_getElem hi]
    rw [froster_Week_broken_l3,show decide ((i:Int)<(w.drivers.length:Int))=true from decide_eq_true (by omega),cond_true,h6,cond_true,AS hi,Option.bind_some,show((i:Nat):Int).toNat=i from rfl,Hz hi,Option.bind_some,wN i (by omega),Ad (by simp; omega)]
    simp only [BC,hg,Option.bind_some]
    cases decide (now[i].used>w.hours) with
    | true =>
      have:=Jr h6d hs k (i+1) n (out++[Breach.mk (IK.mk 5) (i:Int) 0]) (by omega) (by omega) (by simp; omega)
      simpa using this
    | false =>
      have:=Jr h6d hs k (i+1) n out (by omega) (by omega) (by omega)
      simpa using this
def Bj (w:Week):List Stand:=(w.drivers.map fun d=>Stand.mk d.off d.row d.used (-1))++List.replicate (6-w.drivers.length) Hy
theorem Fb (full:List Driver) (h6:full.length≤6):∀ (n i:Nat),full.length-i<n→i≤full.length→froster_Week_before_l1 n ((full.take i).map (fun d=>Stand.mk d.off d.row d.used (-1))++List.replicate (6-i) Hy) full (full.length:Int) (i:Int)=some ((full.map fun d=>Stand.mk d.off d.row d.used (-1))++List.replicate (6-full.length) Hy,((),()))
  | 0,_,h,_=>absurd h (Nat.not_lt_zero _)
  | n+1,i,h,hi=>by
    have hlen:((full.take i).map (fun d=>Stand.mk d.off d.row d.used (-1))++List.replicate (6-i) Hy).length=6:=by
      rw [List.length_append,List.length_map,List.length_take,List.length_replicate]; omega
    rw [froster_Week_before_l1]
    by_cases hx:i<full.length
    · rw [show decide ((i:Int)<(full.length:Int))=true by simp; omega,cond_true,AS hx,Option.bind_some,hlen,show Nat.beq 6 6=true from rfl,cond_true,AS (by omega),Option.bind_some,show((i:Nat):Int).toNat=i from rfl,Hz (by omega),Option.bind_some,wN i (by omega)]
      have:((full.take i).map (fun d=>Stand.mk d.off d.row d.used (-1))++List.replicate (6-i) Hy).set i (Stand.mk full[i].off full[i].row full[i].used (-1))=(full.take (i+1)).map (fun d=>Stand.mk d.off d.row d.used (-1))++List.replicate (6-(i+1)) Hy:=by
        rw [List.take_succ_eq_append_getElem hx,List.map_append,List.append_assoc,List.set_append_right _ _ (by rw [List.length_map,List.length_take]; omega)]
        congr 1
        rw [List.length_map,List.length_take,Nat.min_eq_left hi,Nat.sub_self,show 6-i=(6-(i+1))+1 by omega,List.replicate_succ]
        rfl
      rw [this]
      exact Fb full h6 n (i+1) (by omega) (by omega)
    · have:i=full.length:=by omega
      subst this
      rw [show decide ((full.length:Int)<(full.length:Int))=false by simp,cond_false,List.take_of_length_le (Nat.le_refl _)]
theorem IL {n:Nat} {w:Week} (h6:w.drivers.length≤6) (hn:10<n):froster_Week_before n w=some (Bj w,()):=by
  unfold froster_Week_before
  have h:=Fb w.drivers h6 n 0 (by omega) (by omega)
  rw [show((0:Nat):Int)=0 from rfl] at h
  have e:([Stand.mk 0 0 0 0,Stand.mk 0 0 0 0,Stand.mk 0 0 0 0,Stand.mk 0 0 0 0,Stand.mk 0 0 0 0,Stand.mk 0 0 0 0]:List Stand)=(w.drivers.take 0).map (fun d=>Stand.mk d.off d.row d.used (-1))++List.replicate (6-0) Hy:=rfl
  rw [e,h]
  have hl:((w.drivers.map fun d=>Stand.mk d.off d.row d.used (-1))++List.replicate (6-w.drivers.length) Hy).length=6:=by
    rw [List.length_append,List.length_map,List.length_replicate]; omega
  simp only [Option.bind_some,hl]
  rfl
theorem HH {w:Week} (h6:w.drivers.length≤6):(Bj w).length=6:=by
  unfold Bj
  rw [List.length_append,List.length_map,List.length_replicate]; omega
theorem GZ (full:List Duty) (hl:full.length≤1000):∀ (n i:Nat),full.length-i<n→i≤full.length→froster_Week_ends_l1 n ((full.take i).map fun d=>d.off.hi) full (full.length:Int) (i:Int)=some (full.map fun d=>d.off.hi,())
  | 0,_,h,_=>absurd h (Nat.not_lt_zero _)
  | n+1,i,h,hi=>by
    rw [froster_Week_ends_l1]
    by_cases hx:i<full.length
    · rw [show decide ((i:Int)<(full.length:Int))=true by simp; omega,cond_true,AS hx,Option.bind_some,Ad (by rw [List.length_map,List.length_take]; simp; omega),Option.bind_some,wN i (by omega)]
      have:(full.take i).map (fun d=>d.off.hi)++[full[i].off.hi]=(full.take (i+1)).map fun d=>d.off.hi:=by
        rw [List.take_succ_eq_append_getElem hx,List.map_append]; rfl
      rw [this]
      exact GZ full hl n (i+1) (by omega) (by omega)
    · have:i=full.length:=by omega
      subst this
      rw [show decide ((full.length:Int)<(full.length:Int))=false by simp,cond_false,List.take_of_length_le (Nat.le_refl _)]
theorem JU {n:Nat} {w:Week} (h:w.duties.length≤1000) (hn:w.duties.length<n):froster_Week_ends n w=some (w.duties.map fun d=>d.off.hi,()):=by
  unfold froster_Week_ends
  have h:=GZ w.duties h n 0 (by omega) (by omega)
  rw [show((0:Nat):Int)=0 from rfl,List.take_zero,List.map_nil] at h
  rw [h]; rfl
def GF (a b:Breach):Bool:=a.driver == b.driver && a.kind.n == b.kind.n && a.duty == b.duty
theorem Aq {α:Type} (eq:α→α→Bool):∀ (a b:List α),distB eq a=true→distB eq b=true→(∀ x∈a,∀ y∈b,eq x y=false)→distB eq (a++b)=true
  | [],b,_,hb,_=>hb
  | x::a,b,ha,hb,h=>by
    unfold distB at ha
    obtain⟨h1,h2⟩:=band ha
    rw [List.cons_append]
    unfold distB
    rw [List.any_append,Aq eq a b h2 hb fun x' hx'=>h x' (by simp [hx'])]
    have:b.any (eq x)=false:=by
      rw [List.any_eq_false]
      intro y hy he
      rw [h x (by simp) y hy] at he; cases he
    rw [this,Bool.or_false,h1]; rfl
theorem Al {w:Week} {k i:Int} {d:Duty} {s:Stand} {j:Nat} {b:Breach} (h:b∈GB w k i d s j):b=Breach.mk (IK.mk (j:Int)) k i:=by
  unfold GB at h
  cases hr:D4 w k d s j with
  | true=>rw [hr] at h; cases h
  | false=>rw [hr] at h; simpa using h
theorem HI {w:Week} {k i:Int} {d:Duty} {s:Stand} {b:Breach} (h:b∈GC w k i d s):∃ j:Nat,j≤4∧b=Breach.mk (IK.mk (j:Int)) k i:=by
  unfold GC at h
  rcases List.mem_append.1 h with h | h
  · exact⟨0,by omega,Al h⟩
  rcases List.mem_append.1 h with h | h
  · exact⟨1,by omega,Al h⟩
  rcases List.mem_append.1 h with h | h
  · exact⟨2,by omega,Al h⟩
  rcases List.mem_append.1 h with h | h
  · exact⟨3,by omega,Al h⟩
  · exact⟨4,by omega,Al h⟩
theorem Dd (w:Week) (k i:Int) (d:Duty) (s:Stand) (j:Nat):distB GF (GB w k i d s j)=true:=by
  unfold GB
  cases D4 w k d s j <;> rfl
theorem IM (w:Week) (k i:Int) (d:Duty) (s:Stand):distB GF (GC w k i d s)=true:=by
  have hne:∀ (a b:Nat),a≠b→GF (Breach.mk (IK.mk (a:Int)) k i) (Breach.mk (IK.mk (b:Int)) k i)=false:=fun a b h=>by
    simp only [GF,beq_self_eq_true,Bool.true_and,Bool.and_true,beq_eq_false_iff_ne,ne_eq]; omega
  unfold GC
  refine Aq _ _ _ (Dd ..) (Aq _ _ _ (Dd ..) (Aq _ _ _ (Dd ..) (Aq _ _ _ (Dd ..) (Dd ..) ?_) ?_) ?_) ?_
  · intro x hx y hy
    rw [Al hx,Al hy]; exact hne 3 4 (by omega)
  · intro x hx y hy
    rw [Al hx]
    rcases List.mem_append.1 hy with hy | hy
    · rw [Al hy]; exact hne 2 3 (by omega)
    · rw [Al hy]; exact hne 2 4 (by omega)
  · intro x hx y hy
    rw [Al hx]
    rcases List.mem_append.1 hy with hy | hy
    · rw [Al hy]; exact hne 1 2 (by omega)
    rcases List.mem_append.1 hy with hy | hy
    · rw [Al hy]; exact hne 1 3 (by omega)
    · rw [Al hy]; exact hne 1 4 (by omega)
  · intro x hx y hy
    rw [Al hx]
    rcases List.mem_append.1 hy with hy | hy
    · rw [Al hy]; exact hne 0 1 (by omega)
    rcases List.mem_append.1 hy with hy | hy
    · rw [Al hy]; exact hne 0 2 (by omega)
    rcases List.mem_append.1 hy with hy | hy
    · rw [Al hy]; exact hne 0 3 (by omega)
    · rw [Al hy]; exact hne 0 4 (by omega)
def Ia (w:Week) (day:Int) (i:Nat) (out:List Breach):Prop:=distB GF out=true∧∀ b∈out,∃ (j:Nat)(hj:j<w.duties.length),b.duty=(j:Int)∧(w.duties[j].day<day∨(w.duties[j].day=day∧j<i))∧0≤b.kind.n∧b.kind.n≤4∧0≤b.driver∧b.driver≤10
theorem I1 {w:Week} {roster:List Int} (h6d:w.drivers.length≤6) (hro:Fa w roster) (day:Int):∀ (l:List Duty)(i:Nat)(st:List Breach×List Stand),w.duties.drop i=l→Ia w day i st.1→Ia w day w.duties.length (Eg w roster day i st l).1
  | [],i,st,hd,h=>by
    refine⟨h.1,fun b hb=>?_⟩
    obtain⟨j,hj,e1,e2,e3⟩:=h.2 b hb
    exact⟨j,hj,e1,e2.imp id (fun h=>⟨h.1,hj⟩),e3⟩
  | d::l,i,st,hd,h=>by
    have hx:i<w.duties.length:=by
      rcases Nat.lt_or_ge i w.duties.length with h' | h'
      · exact h'
      · rw [List.drop_eq_nil_of_le h'] at hd; cases hd
    have hd2:=List.drop_eq_getElem_cons hx
    rw [hd] at hd2
    obtain⟨e1,e2⟩:=List.cons.inj hd2
    simp only [Eg]
    refine I1 h6d hro day l (i+1) _ e2.symm ?_
    have mono:∀ out,Ia w day i out→Ia w day (i+1) out:=fun out h=>⟨h.1,fun b hb=>by
      obtain⟨j,hj,e1,e2,e3⟩:=h.2 b hb
      exact⟨j,hj,e1,e2.imp id (fun h=>⟨h.1,by omega⟩),e3⟩⟩
    unfold EZ
    by_cases hday:d.day=day
    · rw [decide_eq_true hday,cond_true]
      have hxr:i<roster.length:=by rw [hro.1]; exact hx
      have hrg:roster.getD i (-1)=roster[i]:=by simp [List.getD,List.getElem?_eq_getElem hxr]
      rw [hrg]
      have hb:=hro.2 _ (List.getElem_mem hxr)
      generalize roster[i]=k at *
      by_cases h1:k=-1
      · rw [decide_eq_true h1,cond_true]; exact mono _ h
      · rw [decide_eq_false h1,cond_false]
        have m:=mono _ h
        refine⟨Aq _ _ _ h.1 (IM ..) fun x hx' y hy=>?_,fun b hb'=>?_⟩
        · obtain⟨j,hj,q1,q2,_⟩:=h.2 x hx'
          obtain⟨j',_,q4⟩:=HI hy
          have hne:x.duty≠y.duty:=by
            rw [q1,q4]
            intro hc
            have hc:(j:Int)=(i:Int):=hc
            have:j=i:=by omega
            subst this
            rcases q2 with q2 | q2
            · rw [← e1,hday] at q2; omega
            · omega
          simp [GF,hne]
        · rcases List.mem_append.1 hb' with hb' | hb'
          · exact m.2 b hb'
          · obtain⟨j',q3,q4⟩:=HI hb'
            subst q4
            exact⟨i,hx,rfl,.inr ⟨by rw [← e1]; exact hday,by omega⟩,by simp,by show(j':Int)≤4; omega,by show 0≤k; omega,by show k≤10; omega⟩
    · rw [decide_eq_false hday,cond_false]; exact mono _ h
theorem HJ {w:Week} {roster:List Int} (h6d:w.drivers.length≤6) (hro:Fa w roster):∀ (k day:Nat)(st:List Breach×List Stand),Ia w (day:Int) 0 st.1→Ia w ((day+k:Nat):Int) 0 (Ch w roster k day st).1
  | 0,day,st,h=>h
  | k+1,day,st,h=>by
    simp only [Ch]
    have h1:=I1 h6d hro (day:Int) w.duties 0 st rfl h
    have h2:Ia w ((day+1:Nat):Int) 0 (Eg w roster (day:Int) 0 st w.duties).1:=⟨h1.1,fun b hb=>by
      obtain⟨j,hj,e1,e2,e3⟩:=h1.2 b hb
      exact⟨j,hj,e1,.inl (by rcases e2 with e2 | e2 <;> omega),e3⟩⟩
    have:=HJ h6d hro k (day+1) _ h2
    rw [show day+1+k=day+(k+1) by omega] at this
    exact this
theorem C5 {w:Week} {now:List Stand}:∀ (k i:Nat)(b:Breach),b∈BC w now k i→∃ j:Nat,i≤j∧j<i+k∧b=Breach.mk (IK.mk 5) (j:Int) 0
  | 0,_,b,h=>by cases h
  | k+1,i,b,h=>by
    simp only [BC] at h
    rcases List.mem_append.1 h with h | h
    · cases hd:decide ((now.getD i Hy).used>w.hours) with
      | false=>rw [hd] at h; cases h
      | true =>
        rw [hd] at h
        exact⟨i,by omega,by omega,by simpa using h⟩
    · obtain⟨j,h1,h2,h3⟩:=C5 k (i+1) b h
      exact⟨j,by omega,by omega,h3⟩
theorem Fc (w:Week) (now:List Stand):∀ (k i:Nat),distB GF (BC w now k i)=true
  | 0,_=>rfl
  | k+1,i=>by
    simp only [BC]
    refine Aq _ _ _ ?_ (Fc w now k (i+1)) fun x hx y hy=>?_
    · cases decide ((now.getD i Hy).used>w.hours) <;> rfl
    · obtain⟨j,h1,h2,h3⟩:=C5 _ _ _ hy
      have hx':x=Breach.mk (IK.mk 5) (i:Int) 0:=by
        cases hd:decide ((now.getD i Hy).used>w.hours) with
        | false=>rw [hd] at hx; cases hx
        | true=>rw [hd] at hx; simpa using hx
      rw [hx',h3]
      have:(i:Int)≠(j:Int):=by omega
      simp [GF,this]
def Cp (w:Week) (roster:List Int):List Breach:=(Ch w roster 7 0 ([],Bj w)).1++BC w (Ch w roster 7 0 ([],Bj w)).2 w.drivers.length 0
theorem Ha {w:Week} {roster:List Int}:∀ (k day:Nat)(st:List Breach×List Stand),(Ch w roster k day st).1.length≤st.1.length+k*(5*w.duties.length)∧(Ch w roster k day st).2.length=st.2.length
  | 0,_,st=>⟨by simp [Ch],rfl⟩
  | k+1,day,st=>by
    obtain⟨h1,h2⟩:=FV w roster (day:Int) w.duties 0 st
    obtain⟨h3,h4⟩:=Ha (w:=w) (roster:=roster) k (day+1) (Eg w roster (day:Int) 0 st w.duties)
    simp only [Ch]
    rw [Nat.succ_mul]
    exact⟨by omega,by rw [h4,h2]⟩
theorem FW (w:Week) (now:List Stand):∀ (k i:Nat),(BC w now k i).length≤k
  | 0,_=>by simp [BC]
  | k+1,i=>by
    have:=FW w now k (i+1)
    simp only [BC,List.length_append]
    cases decide ((now.getD i Hy).used>w.hours)
    · simp; omega
    · simp; omega
theorem Js {out:List Breach} (hl:out.length≤1000000) (hs:∀ b∈out,0≤b.driver∧b.driver≤10∧0≤b.duty∧b.duty≤100∧0≤b.kind.n∧b.kind.n≤5) (hd:distB GF out=true):srtBr out=some (srtB leB out):=by
  unfold srtBr
  have h1:Nat.blt (lenN out) 4611686018427387904=true:=by rw [Ef]; exact Nat.ble_eq_true_of_le (by omega)
  have h2:out.all (fun a=>smI a.driver && smI a.duty && (decide (0≤a.kind.n) && decide (a.kind.n≤255)))=true:=by
    rw [List.all_eq_true]
    intro a ha
    have:=hs a ha
    simp [smI]; omega
  have h3:distB (fun a b:Breach=>a.driver == b.driver && a.kind.n == b.kind.n && a.duty == b.duty) out=true:=hd
  rw [h1,h2,h3]; rfl
theorem IN {n:Nat} {w:Week} {roster:List Int} (hw:wkOk w) (h6d:w.drivers.length≤6) (hro:Fa w roster) (hn:300<n):froster_Week_broken n w roster (w.duties.map fun d=>d.off.hi)=some (srtB leB (Cp w roster),()):=by
  unfold froster_Week_broken
  have hsl:=HH h6d
  have hwl:=hw.2.2.2.2.1
  rw [IL h6d (by omega)]
  simp only [Option.bind_some,hsl,hw.1]
  rw [show(([Stand.mk 0 0 0 0,Stand.mk 0 0 0 0,Stand.mk 0 0 0 0,Stand.mk 0 0 0 0,Stand.mk 0 0 0 0,Stand.mk 0 0 0 0]:List Stand).length.beq 6 && Nat.beq 6 6)=true from rfl,cond_true]
  have h1:=Kj hw h6d hro rfl 7 0 n ([],Bj w) (by omega) (by omega) (by simp) hsl
  rw [show((0:Nat):Int)=0 from rfl] at h1
  rw [h1]
  simp only [Option.bind_some]
  obtain⟨d1,d2⟩:=Ha (w:=w) (roster:=roster) 7 0 ([],Bj w)
  simp only [List.length_nil,Nat.zero_add] at d1
  have h3:=Jr (w:=w) (now:=(Ch w roster 7 0 ([],Bj w)).2) h6d (by rw [d2]; exact hsl) w.drivers.length 0 n (Ch w roster 7 0 ([],Bj w)).1 (by omega) (by omega) (by omega)
  rw [show((0:Nat):Int)=0 from rfl] at h3
  rw [h3]
  simp only [Option.bind_some]
  have ok:=HJ h6d hro 7 0 ([],Bj w) ⟨rfl,fun b hb=>by cases hb⟩
  have hh:=FW w (Ch w roster 7 0 ([],Bj w)).2 w.drivers.length 0
  have:=Js (out:=Cp w roster) (by unfold Cp; rw [List.length_append]; omega) (fun b hb=>by
    unfold Cp at hb
    rcases List.mem_append.1 hb with hb | hb
    · obtain⟨j,hj,e1,_,e3,e4,e5,e6⟩:=ok.2 b hb
      omega
    · obtain⟨j,e1,e2,e3⟩:=C5 _ _ _ hb
      subst e3
      simp only
      omega) (by
    unfold Cp
    refine Aq _ _ _ ok.1 (Fc ..) fun x hx y hy=>?_
    obtain⟨j,hj,e1,_,e3,e4,_⟩:=ok.2 x hx
    obtain⟨j',f1,f2,f3⟩:=C5 _ _ _ hy
    subst f3
    have:x.kind.n≠5:=by omega
    simp [GF,this])
  unfold Cp at this ⊢
  rw [this]; rfl
theorem Jt {n:Nat} {w:Week} {roster:List Int} (hw:wkOk w) (h6d:w.drivers.length≤6) (hro:Fa w roster) (hn:300<n):froster_Week_legal n w roster=some (decide (Cp w roster=[]),()):=by
  unfold froster_Week_legal
  have hwl:=hw.2.2.2.2.1
  rw [JU (by omega) (by omega),Option.bind_some]
  simp only
  rw [IN hw h6d hro hn,Option.bind_some]
  simp only [DZ]
  congr 2
  cases h:Cp w roster with
  | nil=>rfl
  | cons a l=>simp; omega
def IP (w:Week) (roster:List Int):Bool:=decide (roster.length=w.duties.length) && roster.all fun x=>Bg x (-1) ((w.drivers.length:Int)-1)
theorem Ju {w:Week} {roster:List Int}:IP w roster=true↔Fa w roster:=by
  unfold IP Fa
  rw [Bool.and_eq_true,decide_eq_true_eq,List.all_eq_true]
  constructor
  · rintro⟨h1,h2⟩
    exact⟨h1,fun x hx=>by have:=Cs.1 (h2 x hx); omega⟩
  · rintro⟨h1,h2⟩
    exact⟨h1,fun x hx=>Cs.2 (by have:=h2 x hx; omega)⟩
end Go.Proofs.YtkpgggfibljflaaGreatDoor
namespace Go.Proofs.YtkpgggfibljflaaGreatDoor
open Go Go.RowKit Go.Proofs
theorem Hs {n:Nat} {w:Week} {l:List Int} (hl:l.length≤1000) (hd:w.drivers.length≤7) (h:l.length<n) :
    (l.all (fun x=>Bg x (-1) ((w.drivers.length:Int)-1))=true→froster_Week_roster_i1 n l w (l.length:Int) 0=some (.inl ((((),(w,())),()),((),()))))∧(l.all (fun x=>Bg x (-1) ((w.drivers.length:Int)-1))=false→∃ k:Nat,froster_Week_roster_i1 n l w (l.length:Int) 0=some (.inr ((((),(w,())),()),((),((k:Int),()))))) :=
  C3 (F:=fun n i=>froster_Week_roster_i1 n l w (l.length:Int) i) (G:=fun n i v0=>bif decide (-1≤v0) then(bif !decide (v0≤IntKind.i64.wrap ((↑w.drivers.length:Int)-1)) then(some (.inr ((((),(w,())),()),((),(i,()))))) else froster_Week_roster_i1 n l w (l.length:Int) (IntKind.i64.wrap (i+1))) else some (.inr ((((),(w,())),()),((),(i,()))))) l (fun x=>Bg x (-1) ((w.drivers.length:Int)-1)) ((((),(w,())),()),((),())) (fun i=>((((),(w,())),()),((),(i,())))) 0 (by omega) (fun _ _=>rfl) (fun n i hi _=>by
    rw [D3 (x:=(w.drivers.length:Int)-1) (by omega) (by omega)]
    unfold Bg
    cases decide (-1≤l[i]) <;> cases decide (l[i]≤(w.drivers.length:Int)-1) <;> rfl) (n:=n) (by omega)
theorem FX {n:Nat} {w:Week} {l:List Int} (hl:l.length≤1000) (hd:w.drivers.length≤7) (h:l.length<n):froster_Week_roster n w l=some (IP w l,()):=by
  unfold froster_Week_roster IP
  obtain⟨a1,a2⟩:=Hs (n:=n) (w:=w) (l:=l) hl hd h
  by_cases he:l.length=w.duties.length
  · rw [show decide ((l.length:Int)=(w.duties.length:Int))=true from decide_eq_true (by omega),decide_eq_true he,cond_true,Bool.true_and]
    cases ha:l.all fun x=>Bg x (-1) ((w.drivers.length:Int)-1) with
    | true=>rw [a1 ha]; rfl
    | false =>
      obtain⟨k,hk⟩:=a2 ha
      rw [hk]
      simp only [Option.bind_some,Sum.elim_inr]
      rw [show decide ((k:Int)≥0)=true by simp]; rfl
  · rw [show decide ((l.length:Int)=(w.duties.length:Int))=false from decide_eq_false (by omega),decide_eq_false he]; rfl
theorem IQ {n:Nat} {l:List Int} (hl:l.length≤1000) (h:l.length<n):∃ k:Nat,froster_covers n l=some ((k:Int),()):=by
  have H:∀ (n i k:Nat),l.length-i<n→i≤l.length→k≤i→∃ k':Nat,froster_covers_l1 n (k:Int) l (l.length:Int) (i:Int)=some ((k':Int),()):=by
    intro n
    induction n with
    | zero=>intro i k h; exact absurd h (Nat.not_lt_zero _)
    | succ n ih =>
      intro i k h hi hk
      rw [froster_covers_l1]
      by_cases hx:i<l.length
      · rw [show decide ((i:Int)<(l.length:Int))=true by simp; omega,cond_true,AS hx,Option.bind_some,wN i (by omega),wN k (by omega)]
        cases l[i] != -1
        · exact ih (i+1) k (by omega) (by omega) (by omega)
        · exact ih (i+1) (k+1) (by omega) (by omega) (by omega)
      · rw [show decide ((i:Int)<(l.length:Int))=false by simp; omega]
        exact⟨k,rfl⟩
  obtain⟨k,hk⟩:=H n 0 0 (by omega) (by omega) (by omega)
  rw [show((0:Nat):Int)=0 from rfl] at hk
  unfold froster_covers
  exact⟨k,by rw [hk]; rfl⟩
def FY (w:Week) (roster:List Int):Bool:=decide (AM w=0) && (IP w roster && decide (Cp w roster=[]))
theorem Jv {n:Nat} {w:Week} {roster:List Int} (hw:wkOk w) (hl:roster.length≤1000) (hn:1100<n):froster_ProveRoster n w roster 0=some (FY w roster,()):=by
  unfold froster_ProveRoster FY
  rw [C4 hw (by omega),Option.bind_some]
  simp only
  by_cases h0:AM w=0
  · rw [decide_eq_true h0,cond_true,FX hl hw.2.2.2.2.2.1 (by omega),Option.bind_some]
    simp only [Bool.true_and]
    cases hr:IP w roster with
    | false=>rfl
    | true =>
      have h6:w.drivers.length≤6:=by
        unfold AM at h0
        split at h0
        · cases h0
        · split at h0
          · cases h0
          · omega
      rw [cond_true,Jt hw h6 (Ju.1 hr) (by omega),Option.bind_some]
      simp only [Bool.true_and]
      cases decide (Cp w roster=[]) with
      | false=>rfl
      | true =>
        obtain⟨k,hk⟩:=IQ (n:=n) hl (by omega)
        rw [cond_true,hk,Option.bind_some]
        simp
  · rw [decide_eq_false h0]; rfl
structure AP (s:State):Prop where
  kind:∀ c∈s.cards,DF c
  cards:s.cards.length≤40
  outs:s.outs.length≤200
  runs:s.runs.length≤200
  rk:∀ r∈s.records,Ho r
  recs:s.records.length≤200
  days:s.week.days=7
  rest:s.week.rest=600
  run:s.week.run=5
  hours:s.week.hours=3000
  duties:s.week.duties.length≤12
  drivers:s.week.drivers.length≤6
  drv:∀ d∈s.week.drivers,∃ k off,d=Driver.mk [k] [] [] off 0 0
  ros:s.roster.length=s.week.duties.length
  wk:AM s.week=0
  chk:Kh s.cards=0
theorem AP.wkOk {s:State} (h:AP s):wkOk s.week:=⟨h.days,h.rest,h.run,h.hours,by have:=h.duties; omega,by have:=h.drivers; omega,h.drv⟩
def Cu (s:State) (c:Card):State×Int:=if s.cards.any (fun a=>BW a c) then(s,6) else if Kh (s.cards++[c])=0 then({ s with cards:=s.cards++[c] },0) else(s,Kh (s.cards++[c]))
def An (s:State) (y:State×Int):(Session×Unit) ⊕ (Session×Refused×Unit):=if y.2=0 then .inl (Session.mk y.1,()) else .inr (Session.mk s,(Refused.mk y.2,()))
theorem F5 {n:Nat} {s:State} (hg:AP s) {c:Card} (hk:DF c) (hn:200<n):fgarage_session_card n (Session.mk s) c=some (An s (Cu s c)):=by
  have h40:=hg.cards
  unfold fgarage_session_card Cu
  rw [HS _ c s.cards (by omega) (by omega)]
  cases hs:s.cards.any (fun a=>BW a c) with
  | true=>simp [An]
  | false =>
    simp only [Option.bind_some,Sum.elim_inl,cond_false]
    rw [H8 (by omega)]
    simp only [Option.bind_some]
    rw [G6 (fun a ha=>by
      rcases List.mem_append.1 ha with ha | ha
      · exact hg.kind a ha
      · rw [List.mem_singleton.1 ha]; exact hk) (by simp; omega) (by simp; omega)]
    simp only [Option.bind_some,DY]
    by_cases h0:Kh (s.cards++[c])=0
    · simp [An,AH,h0]
    · simp [An,AH,h0]
def Fd (l:List Out) (bus:Int):Option Nat:=l.findIdx? fun o=>decide (o.bus=bus)
theorem FZ (l:List Out) (bus:Int) (hl:l.length≤1000):∀ (n i:Nat),l.length-i<n→i≤l.length→gone_l1 n bus (-1) l (l.length:Int) (i:Int)=some ((match (l.drop i).findIdx? (fun o=>decide (o.bus=bus)) with | some k=>((i+k:Nat):Int) | none=>-1),())
  | 0,_,h,_=>absurd h (Nat.not_lt_zero _)
  | n+1,i,h,hi=>by
    rw [gone_l1]
    by_cases hx:i<l.length
    · have hd:l.drop i=l[i]::l.drop (i+1):=List.drop_eq_getElem_cons hx
      rw [show decide ((i:Int)<(l.length:Int))=true by simp; omega,cond_true,AS hx,Option.bind_some,hd,wN i (by omega),List.findIdx?_cons]
      cases decide (l[i].bus=bus) with
      | true=>simp
      | false =>
        rw [cond_false,FZ l bus hl n (i+1) (by omega) (by omega)]
        cases (l.drop (i+1)).findIdx? (fun o=>decide (o.bus=bus)) with
        | none=>rfl
        | some k =>
          show some (((i+1+k:Nat):Int),())=some (((i+(k+1):Nat):Int),())
          rw [show i+1+k=i+(k+1) by omega]
    · have hd:l.drop i=[]:=by simp; omega
      rw [show decide ((i:Int)<(l.length:Int))=false by simp; omega,hd]
      rfl
def Ga (l:List Out) (bus:Int):Int:=match Fd l bus with
  | some k=>(k:Int)
  | none=>-1
theorem I2 {n:Nat} {s:State} (hg:AP s) (bus:Int) (hn:250<n):gone n (Session.mk s) bus=some (Session.mk s,(Ga s.outs bus,())):=by
  unfold gone Ga Fd
  have:=hg.outs
  have h:=FZ s.outs bus (by omega) n 0 (by omega) (by omega)
  rw [show((0:Nat):Int)=0 from rfl,List.drop_zero] at h
  simp only [h,Option.bind_some]
  cases s.outs.findIdx? (fun o=>decide (o.bus=bus)) <;> simp
end Go.Proofs.YtkpgggfibljflaaGreatDoor
namespace Go.Proofs.YtkpgggfibljflaaGreatDoor
open Go Go.RowKit Go.Proofs
theorem B2 (x:Option ((Session×Unit) ⊕ (Session×Refused×Unit))) (s:State) (y:State×Int) (h:x=some (An s y)):(x.bind fun v8=>Sum.elim (fun v9=>some (.inl (v9.fst,()))) (fun v9=>some (.inr (v9.fst,(v9.snd.fst,())))) v8:Option ((Session×Unit) ⊕ (Session×Refused×Unit)))=some (An s y):=by
  rw [h]
  unfold An
  split <;> rfl
section
variable {n:Nat} {s:State} {a b c d e:Int}
theorem Jw (hg:AP s) (hn:200<n):fgarage_session_found n (Session.mk s) [a,b,c,d,e]=some (An s (Cu s (Card.mk a b c (IK.mk 0) d 0))):=B2 _ _ _ (F5 hg ⟨by simp,by simp⟩ hn)
theorem JV (hg:AP s) (hn:200<n):fgarage_session_held n (Session.mk s) [a,b,c,d,e]=some (An s (Cu s (Card.mk a b c (IK.mk 1) d 0))):=B2 _ _ _ (F5 hg ⟨by simp,by simp⟩ hn)
theorem IS (hg:AP s) (hn:200<n):fgarage_session_signed n (Session.mk s) [a,b,c,d,e]=some (An s (Cu s (Card.mk a b c (IK.mk 2) 0 d))):=B2 _ _ _ (F5 hg ⟨by simp,by simp⟩ hn)
theorem HK (hg:AP s) (hn:200<n):fgarage_session_checked n (Session.mk s) [a,b,c,d,e]=some (An s (Cu s (Card.mk a b c (IK.mk 3) 0 0))):=B2 _ _ _ (F5 hg ⟨by simp,by simp⟩ hn)
theorem K3:([a,b,c,d,e]:List Int).length.beq 5=true:=rfl
theorem K4:idx [a,b,c,d,e] 0=some a:=rfl
theorem K5:idx [a,b,c,d,e] 1=some b:=rfl
theorem KA:idx [a,b,c,d,e] 2=some c:=rfl
theorem KC:idx [a,b,c,d,e] 3=some d:=rfl
theorem KD:idx [a,b,c,d,e] 4=some e:=rfl
theorem K6:([a,b,c,d,e]:List Int).get?Internal (Int.toNat 0)=some a:=rfl
theorem K7:([a,b,c,d,e]:List Int).get?Internal (Int.toNat 1)=some b:=rfl
theorem KB:([a,b,c,d,e]:List Int).get?Internal (Int.toNat 2)=some c:=rfl
theorem KE:([a,b,c,d,e]:List Int).get?Internal (Int.toNat 3)=some d:=rfl
theorem KF:([a,b,c,d,e]:List Int).get?Internal (Int.toNat 4)=some e:=rfl
def Hb (l:List Run) (bus at_:Int):Bool:=l.all fun r=>!decide (r.bus=bus) || decide (r.to_≤at_)
theorem IT (g:Session) (bus at_:Int) (l:List Run) (hl:l.length≤1000) (hn:l.length<n):fgarage_session_out_l1 n g bus at_ l (l.length:Int) 0=some (bif Hb l bus at_ then .inl (g,((),(bus,(at_,())))) else .inr (g,(Refused.mk 8,()))):=by
  obtain⟨h1,h2⟩:=C3 (F:=fun n i=>fgarage_session_out_l1 n g bus at_ l (l.length:Int) i) (G:=fun n i v0=>bif !v0.bus != bus then((fgarage_ask n (decide (v0.to_≤at_)) 8).bind fun v1=>Sum.elim (fun v2=>fgarage_session_out_l1 n g bus at_ l (l.length:Int) (IntKind.i64.wrap (i+1))) (fun v2=>some (.inr (g,(v2.fst,())))) (v1)) else(fgarage_ask n true 8).bind fun v1=>Sum.elim (fun v2=>fgarage_session_out_l1 n g bus at_ l (l.length:Int) (IntKind.i64.wrap (i+1))) (fun v2=>some (.inr (g,(v2.fst,())))) (v1)) l (fun r=>!decide (r.bus=bus) || decide (r.to_≤at_)) (g,((),(bus,(at_,())))) (fun _=>(g,(Refused.mk 8,()))) 0 (by omega) (fun _ _=>rfl) (fun n i hi _=>by
    rw [AC,AC]
    by_cases hb:l[i].bus=bus
    · rw [show(!l[i].bus != bus)=true by simp [hb],decide_eq_true hb]
      cases decide (l[i].to_≤at_) <;> rfl
    · rw [show(!l[i].bus != bus)=false by simp [hb],decide_eq_false hb]
      rfl) (n:=n) (by omega)
  unfold Hb
  cases hc:l.all fun r=>!decide (r.bus=bus) || decide (r.to_≤at_) with
  | true=>exact h1 hc
  | false=>obtain⟨k,hk⟩:=h2 hc; exact hk
def Ht (s:State) (bus at_:Int):State×Int :=
  if Bg bus 0 99 && Bg at_ 0 1000000 then
    if Ga s.outs bus<0 then
      if Hb s.runs bus at_ then
        if (Cg s.cards bus at_).2=0 then
          if (Cg s.cards bus at_).1=[] then({ s with outs:=s.outs++[Out.mk bus at_] },0) else(s,11)
        else(s,(Cg s.cards bus at_).2)
      else(s,8)
    else(s,8)
  else(s,2)
theorem JW (hg:AP s) (hn:300<n):fgarage_session_out n (Session.mk s) [a,b,c,d,e]=some (An s (Ht s a b)):=by
  have h1:=hg.outs
  have h2:=hg.runs
  have h3:=hg.cards
  unfold fgarage_session_out
  simp only [K3,K4,K6,K5,K7,cond_true,Option.bind_some]
  unfold Ht
  rw [BT,BT]
  simp only [Option.bind_some]
  cases hb1:Bg a 0 99 with
  | false =>
    simp [AC,AH,An]
  | true =>
    rw [cond_true,AC,Option.bind_some]
    cases hb2:Bg b 0 1000000 with
    | false=>simp [AH,An]
    | true =>
      simp only [AH,cond_true,Sum.elim_inl,Bool.and_self,if_true]
      rw [I2 hg a (by omega),Option.bind_some]
      simp only [AC,Option.bind_some]
      by_cases hgo:Ga s.outs a<0
      · rw [decide_eq_true hgo,if_pos hgo]
        simp only [AH,cond_true,Sum.elim_inl]
        rw [IT _ a b s.runs (by omega) (by omega),Option.bind_some]
        cases hr:Hb s.runs a b with
        | false=>simp [An]
        | true =>
          simp only [cond_true,Sum.elim_inl,if_true]
          rw [Iw hg.kind (by omega) (by omega)]
          simp only [Option.bind_some,DY]
          by_cases h0:(Cg s.cards a b).2=0
          · rw [if_pos h0,h0]
            simp only [AH,decide_true,cond_true,Sum.elim_inl]
            by_cases hl:(Cg s.cards a b).1=[]
            · rw [if_pos hl,hl]
              simp only [List.length_nil]
              rw [show decide (((0:Nat):Int)=0)=true from rfl]
              simp only [cond_true,Option.bind_some,Sum.elim_inl]
              rw [HP (by omega)]
              simp [An]
            · rw [if_neg hl]
              have : ¬ (((Cg s.cards a b).1.length:Int)=0):=fun h=>hl (List.length_eq_zero_iff.1 (by omega))
              rw [decide_eq_false this]
              simp [An]
          · rw [if_neg h0,decide_eq_false h0]
            simp [An,h0,AH]
      · rw [decide_eq_false hgo,if_neg hgo]
        simp [AH,An]
def Kk (s:State) (bus to_ miles:Int):State×Int :=
  match Fd s.outs bus with
  | none=>(s,8)
  | some k=>match s.outs[k]? with
    | none=>(s,8)
    | some o=>if Bg to_ o.fr 1000000 && Bg miles 0 1000 then({ s with outs:=s.outs.eraseIdx k,runs:=s.runs++[Run.mk o.bus o.fr to_ miles] },0) else(s,2)
theorem HL {l:List Out} {bus:Int} {k:Nat} (h:Fd l bus=some k):∃ hk:k<l.length,l[k].bus=bus:=by
  unfold Fd at h
  obtain⟨hk,h1,_⟩:=List.findIdx?_eq_some_iff_getElem.1 h
  exact⟨hk,by simpa using h1⟩
theorem Kp (hg:AP s) (hn:300<n):fgarage_session_in n (Session.mk s) [a,b,c,d,e]=some (An s (Kk s a b c)):=by
  have h1:=hg.outs
  have h2:=hg.runs
  unfold fgarage_session_in
  simp only [K3,K4,K6,K5,K7,KA,KB,cond_true,Option.bind_some]
  rw [I2 hg a (by omega),Option.bind_some]
  simp only [AC,Option.bind_some]
  unfold Kk Ga
  cases hgo:Fd s.outs a with
  | none =>
    simp only
    rw [show decide ((-1:Int)≥0)=false from rfl]
    simp [AH,An]
  | some k =>
    obtain⟨hk,_⟩:=HL hgo
    simp only
    rw [show decide ((k:Int)≥0)=true by simp]
    simp only [AH,cond_true,Sum.elim_inl]
    rw [AS hk,Option.bind_some,List.getElem?_eq_getElem hk]
    simp only [BT,Option.bind_some]
    have hw:IntKind.i64.wrap ((k:Int)+1)=((k+1:Nat):Int):=wN k (by omega)
    have hdel:delOut n s.outs (k:Int) ((k+1:Nat):Int)=some (s.outs.eraseIdx k,()):=by
      show(bif Nat.blt k (k+1) && Nat.ble (k+1) (lenN s.outs) then some (s.outs.take k++s.outs.drop (k+1),()) else none)=_
      rw [show Nat.blt k (k+1)=true from Nat.ble_eq_true_of_le (by omega),Ef,show Nat.ble (k+1) s.outs.length=true from Nat.ble_eq_true_of_le (by omega)]
      rw [List.eraseIdx_eq_take_drop_succ]; rfl
    have hcl:clone60 n s.outs=some (s.outs,()):=by unfold clone60; rw [Bi (by omega)]; rfl
    cases hb1:Bg b s.outs[k].fr 1000000 with
    | false=>simp [AH,An]
    | true =>
      cases hb2:Bg c 0 1000 with
      | false=>simp [AH,An]
      | true =>
        simp only [cond_true,Sum.elim_inl,Bool.and_self,if_true]
        rw [hcl,Option.bind_some,hw,hdel,Option.bind_some,HQ (by omega)]
        simp [An]
def E2 (s:State) (r:Record):State×Int:=if s.records.any (AD r) then(s,6) else if DH [s.records,[r]]=0 then({ s with records:=s.records++[r] },0) else(s,DH [s.records,[r]])
theorem Ib (hg:AP s) {r:Record} (hk:Ho r) (hn:1200<n):fgarage_session_record n (Session.mk s) r=some (An s (E2 s r)):=by
  have h60:=hg.recs
  unfold fgarage_session_record E2
  rw [HB (by show s.records.length≤1000; omega) (by show s.records.length<n; omega),Option.bind_some]
  simp only [AC,Option.bind_some]
  cases hs:s.records.any (AD r) with
  | true=>simp [An,AH]
  | false =>
    simp only [Bool.not_false,AH,cond_true,Sum.elim_inl]
    obtain⟨x,hx⟩:=Jo (n:=n) (lists:=[s.records,[r]]) (fun l hl=>by
      rcases List.mem_cons.1 hl with rfl | hl
      · exact hg.rk
      · rw [List.mem_singleton.1 hl]
        intro r' hr'
        rw [List.mem_singleton.1 hr']; exact hk) (by simp) (fun l hl=>by
      rcases List.mem_cons.1 hl with rfl | hl
      · omega
      · rw [List.mem_singleton.1 hl]; simp) (by simp; omega)
    rw [hx,Option.bind_some]
    simp only [DY,Option.bind_some]
    by_cases h0:DH [s.records,[r]]=0
    · rw [h0]
      simp only [AH,decide_true,cond_true,Sum.elim_inl]
      rw [G4 (by omega)]
      simp [An]
    · rw [decide_eq_false h0]
      simp [AH,An,h0]
theorem JX (hg:AP s) (hn:1200<n):fgarage_session_sale n (Session.mk s) [a,b,c,d,e]=some (An s (E2 s (Record.mk a b c (IK.mk 0) d e))):=B2 _ _ _ (Ib hg ⟨by simp,by simp⟩ hn)
theorem JY (hg:AP s) (hn:1200<n):fgarage_session_sync n (Session.mk s) [a,b,c,d,e]=some (An s (E2 s (Record.mk a b c (IK.mk 1) d 0))):=B2 _ _ _ (Ib hg ⟨by simp,by simp⟩ hn)
theorem Jx (hg:AP s) (hn:1200<n):fgarage_session_close n (Session.mk s) [a,b,c,d,e]=some (An s (E2 s (Record.mk a b c (IK.mk 2) d e))):=B2 _ _ _ (Ib hg ⟨by simp,by simp⟩ hn)
def Fo (w:Week) (k off:Int):Week:={ w with drivers:=w.drivers++[Driver.mk [k] [] [] off 0 0] }
def E3 (w:Week) (d:Duty):Week:={ w with duties:=w.duties++[d] }
def Ic (s:State) (k off:Int):State×Int:=if AM (Fo s.week k off)=0 then({ s with week:=Fo s.week k off },0) else(s,AM (Fo s.week k off))
def Ie (s:State) (d:Duty):State×Int:=if AM (E3 s.week d)=0 then({ s with week:=E3 s.week d,roster:=s.roster++[-1] },0) else(s,AM (E3 s.week d))
theorem Ig (hg:AP s) (hn:100<n):fgarage_session_driver n (Session.mk s) [a,b,c,d,e]=some (An s (Ic s a b)):=by
  have h6:=hg.drivers
  have h12:=hg.duties
  unfold fgarage_session_driver Ic
  simp only [K3,K4,K6,K5,K7,cond_true,Option.bind_some]
  rw [G5 (by omega),Option.bind_some]
  have hw:wkOk (Fo s.week a b):=⟨hg.days,hg.rest,hg.run,hg.hours,by show s.week.duties.length≤13; omega,by simp [Fo]; omega,fun d hd=>by
    rcases List.mem_append.1 hd with hd | hd
    · exact hg.drv d hd
    · rw [List.mem_singleton.1 hd]; exact⟨a,b,rfl⟩⟩
  have hc:=C4 (n:=n) hw (by omega)
  unfold Fo at hc
  simp only at hc ⊢
  rw [hc,Option.bind_some]
  simp only [DY,Option.bind_some]
  show _=some (An s (if AM (Fo s.week a b)=0 then _ else _))
  change (Sum.elim _ _ (AH (decide (AM (Fo s.week a b)=0)) (AM (Fo s.week a b))))=_
  by_cases h0:AM (Fo s.week a b)=0
  · rw [h0]; simp [AH,An,Fo]
  · rw [decide_eq_false h0,if_neg h0]
    simp [AH,An,h0]
theorem Jy (hg:AP s) (hn:100<n):fgarage_session_duty n (Session.mk s) [a,b,c,d,e]=some (An s (Ie s (Duty.mk a b (Rg.mk c d) e))):=by
  have h6:=hg.drivers
  have h12:=hg.duties
  have hr:=hg.ros
  unfold fgarage_session_duty Ie
  simp only [K3,K4,K6,K5,K7,KA,KB,KC,KE,KD,KF,cond_true,Option.bind_some]
  rw [H9 (by omega),Option.bind_some]
  have hw:wkOk (E3 s.week (Duty.mk a b (Rg.mk c d) e)):=⟨hg.days,hg.rest,hg.run,hg.hours,by simp [E3]; omega,by show s.week.drivers.length≤7; omega,hg.drv⟩
  have hc:=C4 (n:=n) hw (by omega)
  unfold E3 at hc
  simp only at hc ⊢
  rw [hc,Option.bind_some]
  simp only [DY,Option.bind_some]
  show _=some (An s (if AM (E3 s.week (Duty.mk a b (Rg.mk c d) e))=0 then _ else _))
  change (Sum.elim _ _ (AH (decide (AM (E3 s.week (Duty.mk a b (Rg.mk c d) e))=0)) (AM (E3 s.week (Duty.mk a b (Rg.mk c d) e)))))=_
  by_cases h0:AM (E3 s.week (Duty.mk a b (Rg.mk c d) e))=0
  · rw [h0]
    simp only [AH,decide_true,cond_true,Sum.elim_inl]
    rw [HR (by omega)]
    simp [An,E3]
  · rw [decide_eq_false h0,if_neg h0]
    simp [AH,An,h0]
def Ih (s:State) (i k:Int):State×Int :=
  if Bg i 0 ((s.roster.length:Int)-1) && Bg k (-1) ((s.week.drivers.length:Int)-1) then
    if FY s.week (s.roster.set i.toNat k) then({ s with roster:=s.roster.set i.toNat k },0) else(s,10)
  else(s,2)
theorem Jz (hg:AP s) (hn:1200<n):fgarage_session_give n (Session.mk s) [a,b,c,d,e]=some (An s (Ih s a b)):=by
  have h6:=hg.drivers
  have h12:=hg.duties
  have hr:=hg.ros
  unfold fgarage_session_give Ih
  simp only [K3,K4,K6,K5,K7,cond_true,Option.bind_some]
  rw [D3 (x:=(s.roster.length:Int)-1) (by omega) (by omega),D3 (x:=(s.week.drivers.length:Int)-1) (by omega) (by omega)]
  simp only [BT,Option.bind_some,AC]
  cases hb1:Bg a 0 ((s.roster.length:Int)-1) with
  | false=>simp [AH,An]
  | true =>
    cases hb2:Bg b (-1) ((s.week.drivers.length:Int)-1) with
    | false=>simp [AH,An]
    | true =>
      simp only [AH,cond_true,Sum.elim_inl,Bool.and_self,if_true]
      obtain⟨a1,a2⟩:=Cs.1 hb1
      obtain⟨i,rfl⟩:∃ i:Nat,a=i:=⟨a.toNat,by omega⟩
      have hi:i<s.roster.length:=by omega
      have hcl:clone3 n s.roster=some (s.roster,()):=by unfold clone3; rw [Bi (by omega)]; rfl
      rw [hcl]
      simp only [Option.bind_some]
      rw [AS hi,Option.bind_some,show((i:Nat):Int).toNat=i from rfl,Hz hi,Option.bind_some,Jv hg.wkOk (by rw [List.length_set]; omega) (by omega),Option.bind_some]
      simp only
      cases FY s.week (s.roster.set i b) with
      | true=>simp [An]
      | false=>simp [An]
end
end Go.Proofs.YtkpgggfibljflaaGreatDoor
namespace Go.Proofs.YtkpgggfibljflaaGreatDoor
open Go Go.RowKit Go.Proofs
theorem Ii {l:List UInt8} {v:Int} (h:Lib.atoiAll l=.ok v) : -9223372036854775808≤v∧v≤9223372036854775807:=by
  unfold Lib.atoiAll at h
  simp only at h
  split at h
  · cases h
  · split at h
    · cases h
    · cases h
    · rename_i u _
      split at h
      · cases h
      · split at h
        · cases h
        · rename_i h1 h2
          cases h
          split <;> rename_i hn <;> simp only [hn,true_and,not_true,false_and,not_false_iff] at h1 h2 <;> omega
def GG (s:ByteArray):Option Int:=BU s.data.toList
theorem IU {n:Nat} {s:ByteArray} (hs:s.size≤1000000):fgarage_number n s=some (match GG s with | some v=>.inl (v,()) | none=>.inr (Refused.mk 4,())):=by
  unfold fgarage_number atoiP
  rw [if_pos (by omega)]
  simp only [Option.bind_some]
  cases hw:GG s with
  | some v =>
    obtain⟨h1,h2,h3,h4⟩:=GT hw
    rw [h2]
    simp only [Sum.elim_inl]
    have hi:itoaS n v=some (itoaP v,()):=by
      unfold itoaS
      rw [show(decide (-9223372036854775808≤v) && decide (v≤9223372036854775807))=true by simp; omega]; rfl
    rw [hi,Option.bind_some]
    have hb:(itoaP v).beq s=true:=by
      unfold itoaP
      rw [h1,← mkB_data s]
      show((mkB s.data.toList).data == (mkB (mkB s.data.toList).data.toList).data)=true
      simp [mkB]
    simp only [hb,cond_true]
    rw [BT,Option.bind_some,show Bg v (-999999999) 999999999=true from Cs.2 ⟨h3,h4⟩,AC]
    rfl
  | none =>
    rcases ha:Lib.atoiAll s.data.toList with v | _ | _
    · skip
      obtain⟨b1,b2⟩:=Ii ha
      have hi:itoaS n v=some (itoaP v,()):=by
        unfold itoaS
        rw [show(decide (-9223372036854775808≤v) && decide (v≤9223372036854775807))=true by simp; omega]; rfl
      simp only [Sum.elim_inl]
      rw [hi,Option.bind_some]
      simp only
      cases hb:(itoaP v).beq s with
      | false=>simp [AC,AH]
      | true =>
        have he:itoaL v=s.data.toList:=by
          have:((mkB (itoaL v)).data == s.data)=true:=hb
          have:=eq_of_beq this
          have:=congrArg Array.toList this
          simpa [mkB] using this
        simp only [cond_true,BT,Option.bind_some,AC]
        by_cases hr : -999999999≤v∧v≤999999999
        · have:=H7 hr.1 hr.2
          rw [he] at this
          unfold GG at hw
          rw [this] at hw; cases hw
        · rw [I6.2 hr]; rfl
    · simp [AC,AH]
    · simp [AC,AH]
end Go.Proofs.YtkpgggfibljflaaGreatDoor
namespace Go.Proofs.YtkpgggfibljflaaGreatDoor
open Go Go.RowKit Go.Proofs
def A6:List (ByteArray×Word):=[(B [102,111,117,110,100],Word.mk 4 (Fp.mk 189)),(B [104,101,108,100],Word.mk 4 (Fp.mk 190)),(B [115,105,103,110,101,100],Word.mk 4 (Fp.mk 191)),(B [99,104,101,99,107,101,100],Word.mk 3 (Fp.mk 192)),(B [111,117,116],Word.mk 2 (Fp.mk 193)),(B [105,110],Word.mk 3 (Fp.mk 194)),(B [115,97,108,101],Word.mk 5 (Fp.mk 195)),(B [115,121,110,99],Word.mk 4 (Fp.mk 196)),(B [99,108,111,115,101],Word.mk 5 (Fp.mk 197)),(B [100,114,105,118,101,114],Word.mk 2 (Fp.mk 198)),(B [100,117,116,121],Word.mk 5 (Fp.mk 199)),(B [103,105,118,101],Word.mk 2 (Fp.mk 200))]
theorem J0 (n:Nat):words n=some (A6,()):=by kernel_rfl
theorem Eh {α β:Type} (q:α→α→Bool) (hq:∀ a b,q a b=true→a=b):∀ (l:List (α×β))(k:α)(v:β),mget q l k=some v→(k,v)∈l
  | [],_,_,h=>by cases h
  | p::r,k,v,h=>by
    unfold mget at h
    cases hp:q p.1 k with
    | true =>
      rw [hp,cond_true] at h
      cases h
      have:=hq _ _ hp
      subst this
      simp
    | false =>
      rw [hp,cond_false] at h
      exact List.mem_cons_of_mem _ (Eh q hq r k v h)
theorem Gb {w:ByteArray} {x:Word} (h:mget keq9 A6 w=some x):2≤x.many∧x.many≤5∧189≤x.do_.f∧x.do_.f≤200:=by
  have:=Eh keq9 (fun a b h=>(Ea a b).1 h) _ _ _ h
  simp only [A6,List.mem_cons,Prod.mk.injEq,List.not_mem_nil,or_false] at this
  rcases this with⟨_,rfl⟩ | ⟨_,rfl⟩ | ⟨_,rfl⟩ | ⟨_,rfl⟩ | ⟨_,rfl⟩ | ⟨_,rfl⟩ | ⟨_,rfl⟩ | ⟨_,rfl⟩ | ⟨_,rfl⟩ | ⟨_,rfl⟩ | ⟨_,rfl⟩ | ⟨_,rfl⟩ <;> simp
def AN:List ByteArray→Option (List Int)
  | []=>some []
  | s::r=>match GG s with
    | none=>none
    | some v=>match AN r with
      | none=>none
      | some vs=>some (v::vs)
theorem E4:∀ {l:List ByteArray} {vs:List Int},AN l=some vs→vs.length=l.length
  | [],vs,h=>by cases h; rfl
  | s::r,vs,h=>by
    unfold AN at h
    split at h
    · cases h
    · split at h
      · cases h
      · rename_i vs' hv
        cases h
        simp [E4 hv]
def Gc (i:Nat) (z vs:List Int):List Int:=z.take i++vs++z.drop (i+vs.length)
theorem J1 {z:List Int} {i:Nat} (hi:i<z.length) (v:Int) (vs:List Int):Gc (i+1) (z.set i v) vs=Gc i z (v::vs):=by
  unfold Gc
  rw [List.take_set,List.drop_set,if_pos (by omega),List.take_succ_eq_append_getElem hi,List.set_append_right _ _ (by rw [List.length_take]; omega),List.length_take,Nat.min_eq_left (by omega),Nat.sub_self]
  simp only [List.set_cons_zero,List.length_cons,List.append_assoc,List.singleton_append,List.cons_append,List.nil_append]
  rw [show i+1+vs.length=i+(vs.length+1) by omega]
theorem Hc (g:Session) (e:Int) (x:Word) (full:List ByteArray) (hs:∀ s∈full,s.size≤1000000) (hl:full.length≤5):∀ (n i:Nat)(z:List Int),full.length-i<n→i≤full.length→z.length=5→match AN (full.drop i) with
    | some vs=>nextB_l1 n g e x z full (full.length:Int) (i:Int)=some (.inl (g,((e,()),(x,(Gc i z vs,((),((),((),((),()))))))) ))
    | none=>∃ z',nextB_l1 n g e x z full (full.length:Int) (i:Int)=some (.inr (g,((e,()),(x,(z',((),(Refused.mk 4,())))))))
  | 0,_,_,h,_,_=>absurd h (Nat.not_lt_zero _)
  | n+1,i,z,h,hi,hz=>by
    rw [nextB_l1]
    by_cases hx:i<full.length
    · have hd:full.drop i=full[i]::full.drop (i+1):=List.drop_eq_getElem_cons hx
      have ih:=fun z=>Hc g e x full hs hl n (i+1) z (by omega) (by omega)
      rw [show decide ((i:Int)<(full.length:Int))=true by simp; omega,cond_true,AS hx,Option.bind_some,IU (hs _ (List.getElem_mem hx)),Option.bind_some,hd,wN i (by omega)]
      unfold AN
      cases hv:GG full[i] with
      | none=>exact⟨z,rfl⟩
      | some v =>
        simp only [Sum.elim_inl]
        have h5:z.length.beq 5=true:=by rw [hz]; rfl
        rw [h5,cond_true,AS (by omega),Option.bind_some,show((i:Nat):Int).toNat=i from rfl,Hz (by omega),Option.bind_some]
        have:=ih (z.set i v) (by simp [hz])
        cases hr:AN (full.drop (i+1)) with
        | none =>
          rw [hr] at this
          exact this
        | some vs =>
          rw [hr] at this
          simp only
          simp only at this
          rw [this,J1 (by omega)]
    · have hd:full.drop i=[]:=by simp; omega
      rw [show decide ((i:Int)<(full.length:Int))=false by simp; omega,hd]
      simp [AN,Gc]
def Bk (text:ByteArray):Option (Int×List Int) :=
  match splitP text with
  | []=>none
  | p::r=>match mget keq9 A6 p with
    | none=>none
    | some x=>if ((r.length+1:Nat):Int)=x.many+1 then match AN r with
        | none=>none
        | some vs=>some (x.do_.f,vs++List.replicate (5-vs.length) 0)
      else none
def Aw (s:State) (f:Int):List Int→State×Int
  | [a,b,c,d,e] =>
    if f=189 then Cu s (Card.mk a b c (IK.mk 0) d 0) else
    if f=190 then Cu s (Card.mk a b c (IK.mk 1) d 0) else
    if f=191 then Cu s (Card.mk a b c (IK.mk 2) 0 d) else
    if f=192 then Cu s (Card.mk a b c (IK.mk 3) 0 0) else
    if f=193 then Ht s a b else
    if f=194 then Kk s a b c else
    if f=195 then E2 s (Record.mk a b c (IK.mk 0) d e) else
    if f=196 then E2 s (Record.mk a b c (IK.mk 1) d 0) else
    if f=197 then E2 s (Record.mk a b c (IK.mk 2) d e) else
    if f=198 then Ic s a b else
    if f=199 then Ie s (Duty.mk a b (Rg.mk c d) e) else
    Ih s a b
  | _=>(s,4)
def AO (s:State) (text:ByteArray):State×Int:=match Bk text with
  | none=>(s,4)
  | some (f,l)=>if (Aw s f l).2=0 then Aw s f l else(s,(Aw s f l).2)
theorem Bl (c:UInt8):∀ (l:List UInt8),∀ p∈splitC c l,p.length≤l.length
  | [],p,h=>by simp [splitC] at h; subst h; simp
  | b::l,p,h=>by
    unfold splitC at h
    cases hb:b == c with
    | true =>
      rw [hb,cond_true] at h
      rcases List.mem_cons.1 h with rfl | h
      · simp
      · have:=Bl c l p h; simp; omega
    | false =>
      rw [hb,cond_false] at h
      split at h
      · rename_i hn; exact absurd hn (Ct c l)
      · rename_i q r hq
        have h1:=Bl c l q (by rw [hq]; simp)
        rcases List.mem_cons.1 h with rfl | h
        · simp; omega
        · have:=Bl c l p (by rw [hq]; simp [h]); simp; omega
theorem Fe {s p:ByteArray} (h:p∈splitP s):p.size≤s.size:=by
  unfold splitP at h
  obtain⟨l,hl,rfl⟩:=List.mem_map.1 h
  rw [Bh,Db]
  exact Bl _ _ _ hl
theorem Ij {α:Type} {l:List α} {a b:Nat} (h:a≤b) (h2:b≤l.length):lstSub l (a:Int) (b:Int)=some ((l.drop a).take (b-a)):=by
  unfold lstSub
  rw [if_pos ⟨by omega,by omega,by omega⟩]
  simp
def IV (y:(Session×(Int×Unit)×Unit×Unit) ⊕ (Session×(Int×Unit)×Unit×Refused×Unit)):Option (Session×Int×Unit):=match y with
  | .inl a=>some (a.1,a.2.1.1,())
  | .inr a=>some (a.1,a.2.2.2.1.errno,())
theorem Kq {x:Option ((Session×Unit) ⊕ (Session×Refused×Unit))} {s:State} {y:State×Int} (e0:Int) (h:x=some (An s y)):((x.bind fun v8=>Sum.elim (fun v9=>some (.inl (v9.fst,((0,()),((),()))))) (fun v9=>some (.inr (v9.fst,((e0,()),((),(v9.snd.fst,())))))) v8).bind IV)=some (Session.mk (if y.2=0 then y else(s,y.2)).1,(if y.2=0 then y else(s,y.2)).2,()):=by
  rw [h]
  unfold An
  by_cases h0:y.2=0
  · rw [if_pos h0,if_pos h0,h0]; rfl
  · rw [if_neg h0,if_neg h0]; rfl
theorem AV {x:Option ((Session×Unit) ⊕ (Session×Refused×Unit))} {s:State} {y z:State×Int} (e0:Int) (h:x=some (An s y)) (hz:z=y):((x.bind fun v8=>Sum.elim (fun v9=>some (.inl (v9.fst,((0,()),((),()))))) (fun v9=>some (.inr (v9.fst,((e0,()),((),(v9.snd.fst,())))))) v8).bind IV)=some (Session.mk (if z.2=0 then z else(s,z.2)).1,(if z.2=0 then z else(s,z.2)).2,()):=by
  subst hz; exact Kq e0 h
theorem I3:isSp (B [32])=true:=by decide
theorem B9 {text p:ByteArray} {r:List ByteArray} (hp:splitP text=p::r):Bk text=match mget keq9 A6 p with
    | none=>none
    | some x=>if ((r.length+1:Nat):Int)=x.many+1 then match AN r with
        | none=>none
        | some vs=>some (x.do_.f,vs++List.replicate (5-vs.length) 0)
      else none:=by
  unfold Bk
  rw [hp]
theorem J2 {n:Nat} {s:State} {text:ByteArray} (hg:AP s) (hn:1300<n) (ht:text.size≤1000000):JJ n (Session.mk s) text=some (Session.mk (AO s text).1,(AO s text).2,()):=by
  show(nextB n (Session.mk s) text 0).bind IV=_
  unfold nextB AO splitS
  rw [I3,show Nat.blt text.size 4294967281=true from Nat.ble_eq_true_of_le (by omega),Bool.and_self,cond_true,Option.bind_some,J0,Option.bind_some]
  simp only
  have hsz:∀ q∈splitP text,q.size≤1000000:=fun q hq=>Nat.le_trans (Fe hq) ht
  cases hp:splitP text with
  | nil =>
    unfold splitP at hp
    exact absurd (List.map_eq_nil_iff.1 hp) (Ct 32 _)
  | cons p r =>
    rw [hp] at hsz
    rw [show idx (p::r) 0=some p from rfl,Option.bind_some]
    unfold mhas mgetD
    cases hw:mget keq9 A6 p with
    | none =>
      have hpt:=B9 hp
      rw [hw] at hpt
      rw [hpt]
      simp only [Option.isSome_none,cond_false,AC]
      simp [AH,IV]
    | some x =>
      obtain⟨m1,m2,f1,f2⟩:=Gb hw
      simp only [Option.isSome_some,cond_true,Option.getD_some]
      have hwr:IntKind.i64.wrap (x.many+1)=x.many+1:=D3 (by omega) (by omega)
      simp only [AC,Option.bind_some,hwr,List.length_cons]
      by_cases hl:((r.length+1:Nat):Int)=x.many+1
      · have hpt:=B9 hp
        rw [hw] at hpt
        simp only [if_pos hl] at hpt
        rw [decide_eq_true hl]
        simp only [AH,cond_true,Sum.elim_inl]
        have hsub:lstSub (p::r) 1 ((r.length+1:Nat):Int)=some r:=by
          have:=Ij (l:=p::r) (a:=1) (b:=r.length+1) (by omega) (by simp)
          rw [show((1:Nat):Int)=1 from rfl] at this
          rw [this]
          simp
        rw [hsub,Option.bind_some]
        have hloop:=Hc (Session.mk s) 0 x r (fun q hq=>hsz q (by simp [hq])) (by omega) n 0 [0,0,0,0,0] (by omega) (by omega) rfl
        rw [show((0:Nat):Int)=0 from rfl,List.drop_zero] at hloop
        cases hv:AN r with
        | none =>
          rw [hv] at hloop
          obtain⟨z',hz⟩:=hloop
          rw [hv] at hpt
          rw [hz,hpt]; simp [IV]
        | some vs =>
          rw [hv] at hloop hpt
          simp only at hpt
          have hvl:=E4 hv
          rw [hpt]
          simp only
          rw [hloop,Option.bind_some]
          simp only [Sum.elim_inl]
          have hlaid:Gc 0 [0,0,0,0,0] vs=vs++List.replicate (5-vs.length) 0:=by
            unfold Gc
            rw [List.take_zero,List.nil_append,Nat.zero_add,show([0,0,0,0,0]:List Int)=List.replicate 5 0 from rfl,List.drop_replicate]
          have h5:(vs++List.replicate (5-vs.length) (0:Int)).length=5:=by rw [List.length_append,List.length_replicate]; omega
          rw [hlaid]
          generalize vs++List.replicate (5-vs.length) (0:Int)=l at *
          match l,h5 with
          | [a,b,c,d,e],_ =>
            generalize x.do_.f=f at *
            rw [show([a,b,c,d,e]:List Int).length.beq 5=true from rfl,cond_true]
            by_cases q0:f=189
            · subst q0; exact AV _ (Jw hg (by omega)) (by simp [Aw])
            rw [decide_eq_false q0,cond_false]
            by_cases q1:f=190
            · subst q1; exact AV _ (JV hg (by omega)) (by simp [Aw])
            rw [decide_eq_false q1,cond_false]
            by_cases q2:f=191
            · subst q2; exact AV _ (IS hg (by omega)) (by simp [Aw])
            rw [decide_eq_false q2,cond_false]
            by_cases q3:f=192
            · subst q3; exact AV _ (HK hg (by omega)) (by simp [Aw])
            rw [decide_eq_false q3,cond_false]
            by_cases q4:f=193
            · subst q4; exact AV _ (JW hg (by omega)) (by simp [Aw])
            rw [decide_eq_false q4,cond_false]
            by_cases q5:f=194
            · subst q5; exact AV _ (Kp hg (by omega)) (by simp [Aw])
            rw [decide_eq_false q5,cond_false]
            by_cases q6:f=195
            · subst q6; exact AV _ (JX hg (by omega)) (by simp [Aw])
            rw [decide_eq_false q6,cond_false]
            by_cases q7:f=196
            · subst q7; exact AV _ (JY hg (by omega)) (by simp [Aw])
            rw [decide_eq_false q7,cond_false]
            by_cases q8:f=197
            · subst q8; exact AV _ (Jx hg (by omega)) (by simp [Aw])
            rw [decide_eq_false q8,cond_false]
            by_cases q9:f=198
            · subst q9; exact AV _ (Ig hg (by omega)) (by simp [Aw])
            rw [decide_eq_false q9,cond_false]
            by_cases q10:f=199
            · subst q10; exact AV _ (Jy hg (by omega)) (by simp [Aw])
            rw [decide_eq_false q10,cond_false]
            have q11:f=200:=by omega
            subst q11
            exact AV _ (Jz hg (by omega)) (by simp [Aw])
      · have hpt:=B9 hp
        rw [hw] at hpt
        simp only [if_neg hl] at hpt
        rw [decide_eq_false hl,hpt]; simp [AH,IV]
end Go.Proofs.YtkpgggfibljflaaGreatDoor
namespace Go.Proofs.YtkpgggfibljflaaGreatDoor
open Go Go.RowKit Go.Proofs
def E5 (s s':State):Prop:=AP s'∧s'.outs.length≤s.outs.length+1∧s'.runs.length≤s.runs.length+1∧s'.records.length≤s.records.length+1
def J3 (s:State):Prop:=s.outs.length<200∧s.runs.length<200∧s.records.length<200
theorem E5.refl {s:State} (h:AP s):E5 s s:=⟨h,by omega,by omega,by omega⟩
theorem J4 {l:List Card} (h:Kh l=0):l.length≤40:=by
  unfold Kh at h
  cases hr:CN l with
  | inl e=>rw [hr] at h; have:=GV hr; simp only at h; omega
  | inr y=>exact(GU hr).1
theorem D0 {s:State} (hg:AP s) {c:Card} (hk:DF c) (h0:(Cu s c).2=0):E5 s (Cu s c).1:=by
  unfold Cu at h0 ⊢
  split at h0
  · cases h0
  · rename_i h1
    rw [if_neg h1]
    split at h0
    · rename_i h2
      rw [if_pos h2]
      refine⟨{ hg with kind:=fun a ha=>?_,cards:=J4 h2,chk:=h2 },by simp,by simp,by simp⟩
      rcases List.mem_append.1 ha with ha | ha
      · exact hg.kind a ha
      · rw [List.mem_singleton.1 ha]; exact hk
    · rename_i h2; exact absurd h0 h2
theorem Ik {s:State} {a b:Int} (h0:(Ht s a b).2=0):(Bg a 0 99 && Bg b 0 1000000)=true∧Ga s.outs a<0∧Hb s.runs a b=true∧Cg s.cards a b=([],0)∧(Ht s a b).1={ s with outs:=s.outs++[Out.mk a b] }:=by
  unfold Ht at h0 ⊢
  by_cases c1:(Bg a 0 99 && Bg b 0 1000000)=true
  · rw [if_pos c1] at h0 ⊢
    by_cases c2:Ga s.outs a<0
    · rw [if_pos c2] at h0 ⊢
      by_cases c3:Hb s.runs a b=true
      · rw [if_pos c3] at h0 ⊢
        by_cases c4:(Cg s.cards a b).2=0
        · rw [if_pos c4] at h0 ⊢
          by_cases c5:(Cg s.cards a b).1=[]
          · rw [if_pos c5]
            exact⟨c1,c2,c3,Prod.ext c5 c4,rfl⟩
          · rw [if_neg c5] at h0; cases h0
        · rw [if_neg c4] at h0; exact absurd h0 c4
      · rw [if_neg c3] at h0; cases h0
    · rw [if_neg c2] at h0; cases h0
  · rw [if_neg c1] at h0; cases h0
theorem J5 {s:State} (hg:AP s) (hr:J3 s) {a b:Int} (h0:(Ht s a b).2=0):E5 s (Ht s a b).1:=by
  obtain⟨r1,r2,r3⟩:=hr
  rw [(Ik h0).2.2.2.2]
  exact⟨{ hg with outs:=by simp; omega },by simp,by simp,by simp⟩
theorem Kl {s:State} {a b c:Int} (h0:(Kk s a b c).2=0):∃ (k:Nat)(hk:k<s.outs.length),Fd s.outs a=some k∧(Kk s a b c).1={ s with outs:=s.outs.eraseIdx k,runs:=s.runs++[Run.mk s.outs[k].bus s.outs[k].fr b c] }∧Bg b s.outs[k].fr 1000000=true∧Bg c 0 1000=true:=by
  unfold Kk at h0 ⊢
  cases hgo:Fd s.outs a with
  | none=>rw [hgo] at h0; cases h0
  | some k =>
    obtain⟨hk,_⟩:=HL hgo
    rw [hgo] at h0
    simp only [List.getElem?_eq_getElem hk] at h0 ⊢
    by_cases c1:(Bg b s.outs[k].fr 1000000 && Bg c 0 1000)=true
    · rw [if_pos c1]
      rw [Bool.and_eq_true] at c1
      exact⟨k,hk,rfl,rfl,c1.1,c1.2⟩
    · rw [if_neg c1] at h0; cases h0
theorem JZ {s:State} (hg:AP s) (hr:J3 s) {a b c:Int} (h0:(Kk s a b c).2=0):E5 s (Kk s a b c).1:=by
  obtain⟨r1,r2,r3⟩:=hr
  obtain⟨k,hk,_,e,_⟩:=Kl h0
  rw [e]
  have:=List.length_eraseIdx_le s.outs k
  exact⟨{ hg with outs:=by show(s.outs.eraseIdx k).length≤200; omega,runs:=by simp; omega },by show(s.outs.eraseIdx k).length≤_; omega,by simp,by simp⟩
theorem Hu {s:State} {r:Record} (h0:(E2 s r).2=0):(E2 s r).1={ s with records:=s.records++[r] }∧s.records.any (AD r)=false∧DH [s.records,[r]]=0:=by
  unfold E2 at h0 ⊢
  by_cases c1:s.records.any (AD r)=true
  · rw [if_pos c1] at h0; cases h0
  · rw [if_neg c1] at h0 ⊢
    by_cases c2:DH [s.records,[r]]=0
    · rw [if_pos c2]; exact⟨rfl,by simpa using c1,c2⟩
    · rw [if_neg c2] at h0; exact absurd h0 c2
theorem Gd {s:State} (hg:AP s) (hr:J3 s) {r:Record} (hk:Ho r) (h0:(E2 s r).2=0):E5 s (E2 s r).1:=by
  obtain⟨r1,r2,r3⟩:=hr
  rw [(Hu h0).1]
  exact⟨{ hg with recs:=by simp; omega,rk:=fun a ha=>(List.mem_append.1 ha).elim (hg.rk a) (fun ha=>by rw [List.mem_singleton.1 ha]; exact hk) },by simp,by simp,by simp⟩
theorem Ge {w:Week} (h:AM w=0):w.duties.length≤12∧w.drivers.length≤6:=by
  unfold AM at h
  by_cases c1:12<w.duties.length
  · rw [if_pos c1] at h; cases h
  · rw [if_neg c1] at h
    by_cases c2:6<w.drivers.length
    · rw [if_pos c2] at h; cases h
    · exact⟨by omega,by omega⟩
theorem J6 {s:State} (hg:AP s) {k off:Int} (h0:(Ic s k off).2=0):E5 s (Ic s k off).1:=by
  unfold Ic at h0 ⊢
  by_cases c:AM (Fo s.week k off)=0
  · rw [if_pos c]
    obtain⟨w1,w2⟩:=Ge c
    exact⟨{ hg with days:=hg.days,rest:=hg.rest,run:=hg.run,hours:=hg.hours,duties:=w1,drivers:=w2,ros:=hg.ros,wk:=c,drv:=fun d hd=>(List.mem_append.1 hd).elim (hg.drv d) (fun hd=>⟨k,off,List.mem_singleton.1 hd⟩) },by simp,by simp,by simp⟩
  · rw [if_neg c] at h0; exact absurd h0 c
theorem J7 {s:State} (hg:AP s) {d:Duty} (h0:(Ie s d).2=0):E5 s (Ie s d).1:=by
  unfold Ie at h0 ⊢
  by_cases c:AM (E3 s.week d)=0
  · rw [if_pos c]
    obtain⟨w1,w2⟩:=Ge c
    exact⟨{ hg with days:=hg.days,rest:=hg.rest,run:=hg.run,hours:=hg.hours,duties:=w1,drivers:=w2,drv:=hg.drv,ros:=by simp [E3,hg.ros],wk:=c },by simp,by simp,by simp⟩
  · rw [if_neg c] at h0; exact absurd h0 c
theorem J8 {s:State} (hg:AP s) {i k:Int} (h0:(Ih s i k).2=0):E5 s (Ih s i k).1:=by
  unfold Ih at h0 ⊢
  by_cases c1:(Bg i 0 ((s.roster.length:Int)-1) && Bg k (-1) ((s.week.drivers.length:Int)-1))=true
  · rw [if_pos c1] at h0 ⊢
    by_cases c2:FY s.week (s.roster.set i.toNat k)=true
    · rw [if_pos c2]
      exact⟨{ hg with ros:=by simp [hg.ros] },by simp,by simp,by simp⟩
    · rw [if_neg c2] at h0; cases h0
  · rw [if_neg c1] at h0; cases h0
theorem IW {s:State} (hg:AP s) (hr:J3 s) {f:Int} {l:List Int} (h0:(Aw s f l).2=0):E5 s (Aw s f l).1:=by
  unfold Aw at h0 ⊢
  split at h0
  · by_cases q0:f=189
    · rw [if_pos q0] at h0 ⊢; exact D0 hg ⟨by simp,by simp⟩ h0
    rw [if_neg q0] at h0 ⊢
    by_cases q0:f=190
    · rw [if_pos q0] at h0 ⊢; exact D0 hg ⟨by simp,by simp⟩ h0
    rw [if_neg q0] at h0 ⊢
    by_cases q0:f=191
    · rw [if_pos q0] at h0 ⊢; exact D0 hg ⟨by simp,by simp⟩ h0
    rw [if_neg q0] at h0 ⊢
    by_cases q0:f=192
    · rw [if_pos q0] at h0 ⊢; exact D0 hg ⟨by simp,by simp⟩ h0
    rw [if_neg q0] at h0 ⊢
    by_cases q0:f=193
    · rw [if_pos q0] at h0 ⊢; exact J5 hg hr h0
    rw [if_neg q0] at h0 ⊢
    by_cases q0:f=194
    · rw [if_pos q0] at h0 ⊢; exact JZ hg hr h0
    rw [if_neg q0] at h0 ⊢
    by_cases q0:f=195
    · rw [if_pos q0] at h0 ⊢; exact Gd hg hr ⟨by simp,by simp⟩ h0
    rw [if_neg q0] at h0 ⊢
    by_cases q0:f=196
    · rw [if_pos q0] at h0 ⊢; exact Gd hg hr ⟨by simp,by simp⟩ h0
    rw [if_neg q0] at h0 ⊢
    by_cases q0:f=197
    · rw [if_pos q0] at h0 ⊢; exact Gd hg hr ⟨by simp,by simp⟩ h0
    rw [if_neg q0] at h0 ⊢
    by_cases q0:f=198
    · rw [if_pos q0] at h0 ⊢; exact J6 hg h0
    rw [if_neg q0] at h0 ⊢
    by_cases q0:f=199
    · rw [if_pos q0] at h0 ⊢; exact J7 hg h0
    rw [if_neg q0] at h0 ⊢
    exact J8 hg h0
  · cases h0
theorem IX {s:State} (hg:AP s) (hr:J3 s) (t:ByteArray):E5 s (AO s t).1:=by
  unfold AO
  cases Bk t with
  | none=>exact E5.refl hg
  | some y =>
    obtain⟨f,l⟩:=y
    simp only
    by_cases h0:(Aw s f l).2=0
    · rw [if_pos h0]; exact IW hg hr h0
    · rw [if_neg h0]; exact E5.refl hg
theorem J9 {s:State} {t:ByteArray} (h:(AO s t).2≠0):(AO s t).1=s:=by
  unfold AO at h ⊢
  cases hp:Bk t with
  | none=>rfl
  | some y =>
    obtain⟨f,l⟩:=y
    rw [hp] at h
    simp only at h ⊢
    by_cases h0:(Aw s f l).2=0
    · rw [if_pos h0] at h; exact absurd h0 h
    · rw [if_neg h0]
def Af:State:=State.mk [] [] [] [] (Week.mk 7 [] [] 600 5 3000) []
theorem Il:AP Af where
  kind:=by simp [Af]
  cards:=by simp [Af]
  outs:=by simp [Af]
  runs:=by simp [Af]
  rk:=by simp [Af]
  recs:=by simp [Af]
  days:=rfl
  rest:=rfl
  run:=rfl
  hours:=rfl
  duties:=by simp [Af]
  drivers:=by simp [Af]
  drv:=by simp [Af]
  ros:=rfl
  wk:=rfl
  chk:=rfl
def Aj (s:State):List ByteArray→State×List Int
  | []=>(s,[])
  | t::r=>((Aj (AO s t).1 r).1,(AO s t).2::(Aj (AO s t).1 r).2)
def E6 (m:Nat) (s:State):Prop:=AP s∧s.outs.length+m≤200∧s.runs.length+m≤200∧s.records.length+m≤200
theorem E6.step {m:Nat} {s:State} (h:E6 (m+1) s) (t:ByteArray):E6 m (AO s t).1:=by
  obtain⟨h1,h2,h3,h4⟩:=h
  obtain⟨a,b,c,d⟩:=IX h1 ⟨by omega,by omega,by omega⟩ t
  exact⟨a,by omega,by omega,by omega⟩
theorem E6.less {m k:Nat} {s:State} (h:E6 m s) (hk:k≤m):E6 k s:=⟨h.1,by have:=h.2.1; omega,by have:=h.2.2.1; omega,by have:=h.2.2.2; omega⟩
theorem Gf:E6 150 Af:=⟨Il,by simp [Af],by simp [Af],by simp [Af]⟩
theorem Gg:∀ (l:List ByteArray)(m:Nat)(s:State),E6 (m+l.length) s→E6 m (Aj s l).1
  | [],m,s,h=>h
  | t::l,m,s,h=>by
    simp only [Aj]
    exact Gg l m _ (E6.step (by rw [show m+(t::l).length=m+l.length+1 by simp; omega] at h; exact h) t)
theorem E7:∀ (l:List ByteArray)(s:State),(Aj s l).2.length=l.length
  | [],_=>rfl
  | t::l,s=>by simp [Aj,E7 l]
theorem Gh (full:List ByteArray) (hs:∀ t∈full,t.size≤1000000) (hl:full.length≤150):∀ (n i:Nat)(s:State)(es:List Int),1400+(full.length-i)<n→i≤full.length→E6 (full.length-i) s→es.length=i→Ap n (Session.mk s) es full (full.length:Int) (i:Int)=some (Session.mk (Aj s (full.drop i)).1,((),(es++(Aj s (full.drop i)).2,())))
  | 0,_,_,_,h,_,_,_=>absurd h (Nat.not_lt_zero _)
  | n+1,i,s,es,h,hi,hL,he=>by
    rw [Ap]
    by_cases hx:i<full.length
    · have hd:full.drop i=full[i]::full.drop (i+1):=List.drop_eq_getElem_cons hx
      rw [show decide ((i:Int)<(full.length:Int))=true by simp; omega,cond_true,AS hx,Option.bind_some,J2 hL.1 (by omega) (hs _ (List.getElem_mem hx)),Option.bind_some]
      simp only
      rw [Ad (by simp; omega),Option.bind_some,wN i (by omega)]
      have hL':E6 (full.length-(i+1)) (AO s full[i]).1:=E6.step (by rw [show full.length-(i+1)+1=full.length-i by omega]; exact hL) _
      rw [Gh full hs hl n (i+1) _ _ (by omega) (by omega) hL' (by simp [he]),hd]
      simp [Aj]
    · have hd:full.drop i=[]:=by simp; omega
      rw [show decide ((i:Int)<(full.length:Int))=false by simp; omega,hd]
      simp [Aj]
theorem Ka {n:Nat} {lines:List ByteArray} (hs:∀ t∈lines,t.size≤1000000) (hl:lines.length≤150) (hn:1600≤n):Bq n lines=some (Session.mk (Aj Af lines).1,((Aj Af lines).2,())):=by
  unfold Bq
  have h:=Gh lines hs hl n 0 Af [] (by omega) (by omega) (Gf.less (by omega)) rfl
  rw [show((0:Nat):Int)=0 from rfl,List.drop_zero,List.nil_append] at h
  show(Ap n (Session.mk Af) [] lines (lines.length:Int) 0).bind _=_
  rw [h]; rfl
end Go.Proofs.YtkpgggfibljflaaGreatDoor
namespace Go.Proofs.YtkpgggfibljflaaGreatDoor
open Go Go.RowKit Go.Proofs
theorem JA {n:Nat} {lines:List ByteArray} (hbig:lines.length≤4000000000000000000) (hn:lines.length<n):∃ b,Ej n lines=some (b,()):=by
  have H:∀ (n i:Nat)(z:Int),lines.length-i<n→i≤lines.length→∃ z',BA n lines z (i:Int)=some (lines,(z',())):=by
    intro n
    induction n with
    | zero=>intro i z h; exact absurd h (Nat.not_lt_zero _)
    | succ n ih =>
      intro i z h hi
      rw [BA]
      by_cases hx:i<lines.length
      · rw [show decide ((i:Int)<(lines.length:Int))=true by simp; omega,cond_true,AS hx,Option.bind_some,wN i (by omega)]
        exact ih (i+1) _ (by omega) (by omega)
      · rw [show decide ((i:Int)<(lines.length:Int))=false by simp; omega,cond_false]
        exact⟨z,rfl⟩
  obtain⟨z,hz⟩:=H n 0 0 (by omega) (by omega)
  rw [show((0:Nat):Int)=0 from rfl] at hz
  unfold Ej
  rw [hz]
  simp only [Option.bind_some]
  generalize decide ((lines.length:Int)≤30)=b1
  generalize decide ((lines.length:Int)≤52)=b2
  generalize decide ((lines.length:Int)=1)=b3
  generalize decide (z≤1200)=b4
  generalize decide (z≤400)=b5
  cases b1 <;> cases b2 <;> cases b3 <;> cases b4 <;> cases b5 <;> exact⟨_,rfl⟩
theorem Im {n:Nat} {lines:List ByteArray} (hbig:lines.length≤4000000000000000000) (hn:lines.length<n):∃ b,CG n lines=some (b,())∧(b=true→C1 lines=true):=by
  obtain⟨b,hb⟩:=JA hbig hn
  unfold CG
  rw [hb,Option.bind_some]
  cases b with
  | false=>exact⟨false,rfl,fun h=>by cases h⟩
  | true =>
    simp only [cond_true]
    rw [Jl hbig hn,Option.bind_some]
    exact⟨_,rfl,id⟩
end Go.Proofs.YtkpgggfibljflaaGreatDoor
namespace Go.Proofs.YtkpgggfibljflaaGreatDoor
open Go Go.RowKit Go.Proofs
theorem Gi (c:UInt8):∀ (p:List UInt8),(∀ b∈p,b≠c)→splitC c p=[p]
  | [],_=>rfl
  | b::p,h=>by
    conv=>lhs; unfold splitC
    have hb:(b == c)=false:=by simpa using h b (by simp)
    rw [hb,cond_false,Gi c p fun x hx=>h x (by simp [hx])]
theorem Gj (c:UInt8) (q:List UInt8):∀ (p:List UInt8),(∀ b∈p,b≠c)→splitC c (p++c::q)=p::splitC c q
  | [],_=>by simp [splitC]
  | b::p,h=>by
    rw [List.cons_append]
    conv=>lhs; unfold splitC
    have hb:(b == c)=false:=by simpa using h b (by simp)
    rw [hb,cond_false,Gj c q p fun x hx=>h x (by simp [hx])]
theorem De (l:List UInt8) (hl:l.length≤1000000):∀ (n i fr:Nat)(out:List ByteArray),l.length+1-i<n→i≤l.length→fr≤i→out.length≤i→(∀ b∈(l.drop fr).take (i-fr),b≠32)→Am n (mkB l) out (fr:Int) (i:Int)=some (out++(splitC 32 (l.drop fr)).map mkB,())
  | 0,_,_,_,h,_,_,_,_=>absurd h (Nat.not_lt_zero _)
  | n+1,i,fr,out,h,hi,hf,ho,hb=>by
    rw [Am,Bh,show decide ((i:Int)≤(l.length:Int))=true from decide_eq_true (by omega),cond_true]
    have hsub:strSub (mkB l) (fr:Int) (i:Int)=some (mkB ((l.drop fr).take (i-fr))):=GR hf hi
    by_cases hx:i=l.length
    · rw [show decide ((i:Int)=(l.length:Int))=true from decide_eq_true (by omega),Bool.not_true,cond_false,hsub,Option.bind_some,Ad (by simp; omega),Option.bind_some,wN i (by omega)]
      have ht:(l.drop fr).take (i-fr)=l.drop fr:=List.take_of_length_le (by rw [List.length_drop]; omega)
      rw [ht] at hb ⊢
      rw [Gi 32 _ hb]
      obtain⟨m,rfl⟩:∃ m,n=m+1:=⟨n-1,by omega⟩
      rw [Am,Bh,show decide (((i+1:Nat):Int)≤(l.length:Int))=false from decide_eq_false (by omega)]
      rfl
    · have hlt:i<l.length:=by omega
      rw [show decide ((i:Int)=(l.length:Int))=false from decide_eq_false (by omega),Bool.not_false,cond_true,DX hlt,Option.bind_some,wN i (by omega)]
      have hd:l.drop fr=(l.drop fr).take (i-fr)++l[i]::l.drop (i+1):=by
        conv=>lhs; rw [← List.take_append_drop (i-fr) (l.drop fr)]
        rw [List.drop_drop,show fr+(i-fr)=i by omega,List.drop_eq_getElem_cons hlt]
      by_cases h32:l[i]=32
      · rw [show decide (((l[i].toNat:Nat):Int)=32)=true by rw [h32]; rfl,cond_true,hsub,Option.bind_some,Ad (by simp; omega),Option.bind_some]
        rw [De l hl n (i+1) (i+1) _ (by omega) (by omega) (by omega) (by simp; omega) (by simp)]
        conv=>rhs; rw [hd,h32,Gj 32 _ _ hb]
        simp
      · have hne : ¬ (((l[i].toNat:Nat):Int)=32):=fun h=>h32 (UInt8.toNat_inj.1 (by show l[i].toNat=32; omega))
        rw [decide_eq_false hne,cond_false]
        refine De l hl n (i+1) fr out (by omega) (by omega) (by omega) (by omega) ?_
        intro b hb'
        have:(l.drop fr).take (i+1-fr)=(l.drop fr).take (i-fr)++[l[i]]:=by
          rw [show i+1-fr=(i-fr)+1 by omega,List.take_succ_eq_append_getElem (by rw [List.length_drop]; omega)]
          simp [show fr+(i-fr)=i by omega]
        rw [this] at hb'
        rcases List.mem_append.1 hb' with hb' | hb'
        · exact hb b hb'
        · rw [List.mem_singleton.1 hb']; exact h32
theorem JB {n:Nat} {s:ByteArray} (hs:s.size≤1000000) (hn:s.size+2≤n):CA n s=some (splitP s,()):=by
  have hl:s.data.toList.length≤1000000:=by rw [← Db]; exact hs
  have h:=De s.data.toList hl n 0 0 [] (by rw [← Db]; omega) (by omega) (by omega) (by simp) (by simp)
  rw [mkB_data,show((0:Nat):Int)=0 from rfl,List.drop_zero,List.nil_append] at h
  unfold CA
  rw [h]; rfl
theorem Ff (l:List UInt8) (hl:l.length≤9) (minus:Bool):∀ (n i a:Nat),l.length-i<n→i≤l.length→a<10 ^ i→Aa n minus (mkB l) (a:Int) (i:Int)=some (match E1 (a:Int) (l.drop i) with | some v=>.inl (minus,(v,())) | none=>.inr (0,(false,())))
  | 0,_,_,h,_,_=>absurd h (Nat.not_lt_zero _)
  | n+1,i,a,h,hi,ha=>by
    rw [Aa,Bh]
    by_cases hx:i<l.length
    · have hd:l.drop i=l[i]::l.drop (i+1):=List.drop_eq_getElem_cons hx
      have h9:10 ^ i≤10 ^ 9:=Nat.pow_le_pow_right (by decide) (by omega)
      have h8:=l[i].toNat_lt
      rw [show decide ((i:Int)<(l.length:Int))=true from decide_eq_true (by omega),cond_true,DX hx,Option.bind_some,hd]
      unfold E1
      simp only [Option.bind_some]
      by_cases h48:l[i].toNat<48
      · rw [show decide (((l[i].toNat:Nat):Int)<48)=true from decide_eq_true (by omega),C2.2 h48]; rfl
      · rw [show decide (((l[i].toNat:Nat):Int)<48)=false from decide_eq_false (by omega),BB.2 (by omega)]
        by_cases h57:57<l[i].toNat
        · rw [show decide (((l[i].toNat:Nat):Int)>57)=true from decide_eq_true (by omega),C2.2 h57]; rfl
        · rw [show decide (((l[i].toNat:Nat):Int)>57)=false from decide_eq_false (by omega),BB.2 (by omega)]
          simp only [Bool.not_false,cond_true,cond_false,Bool.or_self]
          have e1:IntKind.i64.wrap (IntKind.i64.wrap (10*(a:Int))+IntKind.i64.wrap (IntKind.u8.wrap (((l[i].toNat:Nat):Int)-48)))=((10*a+(l[i].toNat-48):Nat):Int):=by
            rw [Kg (by omega) (by omega),D3 (x:=10*(a:Int)) (by omega) (by omega),D3 (x:=((l[i].toNat:Nat):Int)-48) (by omega) (by omega),D3 (by omega) (by omega)]
            omega
          rw [e1,wN i (by omega),Ff l hl minus n (i+1) _ (by omega) (by omega) (by rw [Nat.pow_succ]; omega)]
          rw [show((10*a+(l[i].toNat-48):Nat):Int)=10*(a:Int)+((l[i].toNat:Int)-48) by omega]
    · have hd:l.drop i=[]:=by simp; omega
      rw [show decide ((i:Int)<(l.length:Int))=false from decide_eq_false (by omega),hd]
      rfl
end Go.Proofs.YtkpgggfibljflaaGreatDoor
namespace Go.Proofs.YtkpgggfibljflaaGreatDoor
open Go Go.RowKit Go.Proofs
theorem Hd:∀ {l:List UInt8} {i a:Nat} {v:Int},a<10 ^ i→E1 (a:Int) l=some v→0≤v∧v<10 ^ (i+l.length)
  | [],i,a,v,ha,h=>by
    have:(a:Int)=v:=Option.some.inj h
    subst this
    exact⟨by omega,by exact_mod_cast ha⟩
  | b::r,i,a,v,ha,h=>by
    unfold E1 at h
    cases hb:(Nat.blt b.toNat 48 || Nat.blt 57 b.toNat) with
    | true=>rw [hb] at h; cases h
    | false =>
      rw [hb,cond_false] at h
      obtain⟨h1,h2⟩:=Bool.or_eq_false_iff.1 hb
      rw [BB] at h1 h2
      rw [show 10*(a:Int)+((b.toNat:Int)-48)=((10*a+(b.toNat-48):Nat):Int) by omega] at h
      have:=Hd (i:=i+1) (by rw [Nat.pow_succ]; omega) h
      rwa [show i+1+r.length=i+(b::r).length by simp; omega] at this
def E8 (o:Option Int):Int×Bool×Unit:=match o with | some v=>(v,true,()) | none=>(0,false,())
theorem Io {n:Nat} (minus:Bool) {d:List UInt8} (hd:d.length≤9) (hn:10<n) :
    ((Aa n minus (mkB d) 0 0).bind fun v3 =>
      Sum.elim (fun v4=>bif v4.fst then(some (IntKind.i64.wrap (0-v4.snd.fst),(true,()))) else
      some (v4.snd.fst,(true,()))) (fun v4=>some (v4.fst,(v4.snd.fst,()))) (v3))=some (E8 ((E1 0 d).map fun v=>bif minus then -v else v)):=by
  have h:=Ff d hd minus n 0 0 (by omega) (by omega) (by simp)
  rw [show((0:Nat):Int)=0 from rfl,List.drop_zero] at h
  rw [h,Option.bind_some]
  cases hv:E1 0 d with
  | none=>rfl
  | some v =>
    have hb:=Hd (i:=0) (a:=0) (by simp) hv
    have h10:(10:Int) ^ (0+d.length)≤10 ^ 9:=by
      have:(10:Nat) ^ (0+d.length)≤10 ^ 9:=Nat.pow_le_pow_right (by decide) (by omega)
      exact_mod_cast this
    cases minus with
    | false=>rfl
    | true =>
      simp only [Sum.elim_inl,cond_true,Option.map_some]
      rw [D3 (x:=0-v) (by omega) (by omega)]
      simp [E8]
theorem He {n:Nat} (minus:Bool) (d:List UInt8) (hn:10<n) :
    (bif !decide ((↑(mkB d).size:Int)=0) then(bif !decide ((↑(mkB d).size:Int)>9) then((strAt (mkB d) 0).bind fun v2 =>
    bif decide (v2.n=48) then(bif !decide ((↑(mkB d).size:Int)>1) then(bif minus then(some (0,(false,()))) else
    (Aa n minus (mkB d) 0 0).bind fun v3 =>
    Sum.elim (fun v4=>bif v4.fst then(some (IntKind.i64.wrap (0-v4.snd.fst),(true,()))) else
    some (v4.snd.fst,(true,()))) (fun v4=>some (v4.fst,(v4.snd.fst,()))) (v3)) else
    some (0,(false,()))) else
    (Aa n minus (mkB d) 0 0).bind fun v3 =>
    Sum.elim (fun v4=>bif v4.fst then(some (IntKind.i64.wrap (0-v4.snd.fst),(true,()))) else
    some (v4.snd.fst,(true,()))) (fun v4=>some (v4.fst,(v4.snd.fst,()))) (v3)) else
    some (0,(false,()))) else
    some (0,(false,())))=some (E8 (match d with
  | []=>none
  | b::r=>bif Nat.blt 9 d.length || (b.toNat == 48 && (Nat.blt 1 d.length || minus)) then none else(E1 0 d).map fun n=>bif minus then -n else n)):=by
  rcases d with _ | ⟨b,r⟩
  · rfl
  · rw [Bh,show decide ((((b::r).length:Nat):Int)=0)=false from decide_eq_false (by simp; omega)]
    by_cases h9:9<(b::r).length
    · rw [show decide ((((b::r).length:Nat):Int)>9)=true from decide_eq_true (by omega),C2.2 h9]; rfl
    · rw [show decide ((((b::r).length:Nat):Int)>9)=false from decide_eq_false (by omega),BB.2 (by omega)]
      have ht:=Io (n:=n) minus (d:=b::r) (by omega) hn
      have hz:=DX (l:=b::r) (i:=0) (by simp)
      rw [show((0:Nat):Int)=0 from rfl] at hz
      rw [hz,Option.bind_some]
      simp only [Bool.not_false,cond_true,List.getElem_cons_zero,Bool.false_or]
      by_cases h48:b.toNat=48
      · rw [show decide (((b.toNat:Nat):Int)=48)=true from decide_eq_true (by omega),show(b.toNat == 48)=true by simpa using h48]
        by_cases h1:1<(b::r).length
        · rw [show decide ((((b::r).length:Nat):Int)>1)=true from decide_eq_true (by omega),C2.2 h1]; rfl
        · rw [show decide ((((b::r).length:Nat):Int)>1)=false from decide_eq_false (by omega),BB.2 (by omega)]
          cases minus with
          | true=>rfl
          | false=>simp only [Bool.not_false,cond_true,cond_false,Bool.true_and,Bool.false_or]; exact ht
      · rw [show decide (((b.toNat:Nat):Int)=48)=false from decide_eq_false (by omega),show(b.toNat == 48)=false by simpa using h48]
        simp only [cond_false,Bool.false_and]
        exact ht
theorem JC {n:Nat} (s:ByteArray) (hn:10<n):CC n s=some (E8 (BU s.data.toList)):=by
  obtain⟨l,rfl⟩:∃ l,s=mkB l:=⟨s.data.toList,(mkB_data s).symm⟩
  show _=some (E8 (BU l))
  unfold CC
  rcases l with _ | ⟨b,r⟩
  · rfl
  · have hp:decide (((((mkB (b::r)).size:Nat)):Int)>0)=true:=decide_eq_true (by rw [Bh]; simp)
    have hz:=DX (l:=b::r) (i:=0) (by simp)
    rw [show((0:Nat):Int)=0 from rfl] at hz
    rw [hp,cond_true,hz,Option.bind_some]
    simp only [List.getElem_cons_zero]
    by_cases h45:b.toNat=45
    · have he:decide (((b.toNat:Nat):Int)=45)=true:=decide_eq_true (by omega)
      have hs:strSub (mkB (b::r)) 1 ((mkB (b::r)).size:Int)=some (mkB r):=by
        have:=GR (l:=b::r) (a:=1) (b:=(b::r).length) (by simp) (by omega)
        rw [Bh]
        simpa using this
      rw [he,cond_true,hs,Option.bind_some,He true r hn]
      have hb:(b.toNat == 45)=true:=by simpa using h45
      unfold BU
      simp only [hb,cond_true,List.drop_succ_cons,List.drop_zero]
      cases r <;> rfl
    · have he:decide (((b.toNat:Nat):Int)=45)=false:=decide_eq_false (by omega)
      have hm:=He false (b::r) hn
      rw [hz] at hm
      simp only [List.getElem_cons_zero] at hm
      rw [he,cond_false,hm]
      have hb:(b.toNat == 45)=false:=by simpa using h45
      unfold BU
      simp only [hb,cond_false]
end Go.Proofs.YtkpgggfibljflaaGreatDoor
namespace Go.Proofs.YtkpgggfibljflaaGreatDoor
open Go Go.RowKit Go.Proofs
theorem Ac {a b:ByteArray} (h:a≠b):a.beq b=false:=by
  cases hb:a.beq b with
  | false=>rfl
  | true =>
    have h2:(a.data == b.data)=true:=hb
    exact absurd (ByteArray.ext (eq_of_beq h2)) h
theorem Ab {β:Type} {a k:ByteArray} {v:β} {l:List (ByteArray×β)} (h:k≠a):mget keq9 ((a,v)::l) k=mget keq9 l k:=by
  have:keq9 a k=false:=by
    cases hb:keq9 a k with
    | false=>rfl
    | true=>exact absurd ((Ea a k).1 hb).symm h
  conv=>lhs; unfold mget
  simp only [this,cond_false]
theorem Kb (n:Nat) (w:ByteArray):D1 n w=some ((match mget keq9 A6 w with | some x=>x.many | none=>0),()):=by
  by_cases h1:w=B [102,111,117,110,100]
  · subst h1; kernel_rfl
  by_cases h2:w=B [104,101,108,100]
  · subst h2; kernel_rfl
  by_cases h3:w=B [115,105,103,110,101,100]
  · subst h3; kernel_rfl
  by_cases h4:w=B [99,104,101,99,107,101,100]
  · subst h4; kernel_rfl
  by_cases h5:w=B [111,117,116]
  · subst h5; kernel_rfl
  by_cases h6:w=B [105,110]
  · subst h6; kernel_rfl
  by_cases h7:w=B [115,97,108,101]
  · subst h7; kernel_rfl
  by_cases h8:w=B [115,121,110,99]
  · subst h8; kernel_rfl
  by_cases h9:w=B [99,108,111,115,101]
  · subst h9; kernel_rfl
  by_cases h10:w=B [100,114,105,118,101,114]
  · subst h10; kernel_rfl
  by_cases h11:w=B [100,117,116,121]
  · subst h11; kernel_rfl
  by_cases h12:w=B [103,105,118,101]
  · subst h12; kernel_rfl
  have hm:mget keq9 A6 w=none:=by
    unfold A6
    rw [Ab h1,Ab h2,Ab h3,Ab h4,Ab h5,Ab h6,Ab h7,Ab h8,Ab h9,Ab h10,Ab h11,Ab h12]
    rfl
  rw [hm]
  unfold D1
  simp only [Ac h1,Ac h2,Ac h3,Ac h4,Ac h5,Ac h6,Ac h7,Ac h8,Ac h9,Ac h10,Ac h11,Ac h12,cond_false]
theorem Fg (full:List ByteArray) (k:Nat) (hk:full.length=k+1) (h6:k≤5):∀ (n i:Nat)(l:List Int),full.length+11-i<n→i≤full.length→l.length≤i→AU n full (k:Int) l (i:Int)=some (match AN (full.drop i) with | some vs=>.inl (full,l++vs,()) | none=>.inr (B [],[],false,()))
  | 0,_,_,h,_,_=>absurd h (Nat.not_lt_zero _)
  | n+1,i,l,h,hi,hl=>by
    rw [AU]
    by_cases hx:i<full.length
    · have hd:full.drop i=full[i]::full.drop (i+1):=List.drop_eq_getElem_cons hx
      rw [show decide ((i:Int)≤(k:Int))=true from decide_eq_true (by omega),cond_true,AS hx,Option.bind_some,JC _ (by omega),Option.bind_some,hd,wN i (by omega)]
      unfold AN
      rw [show BU full[i].data.toList=GG full[i] from rfl]
      cases hv:GG full[i] with
      | none=>rfl
      | some v =>
        simp only [E8,Bool.not_true,cond_false]
        rw [Ad (by simp; omega),Option.bind_some,Fg full k hk h6 n (i+1) (l++[v]) (by omega) (by omega) (by simp; omega)]
        cases AN (full.drop (i+1)) with
        | none=>rfl
        | some vs=>simp
    · have hd:full.drop i=[]:=by simp; omega
      rw [show decide ((i:Int)≤(k:Int))=false from decide_eq_false (by omega),hd]
      simp [AN]
def Ip (text:ByteArray):Option (ByteArray×List Int) :=
  match splitP text with
  | []=>none
  | p::r=>match mget keq9 A6 p with
    | none=>none
    | some x=>if ((r.length+1:Nat):Int)=x.many+1 then(AN r).map fun vs=>(p,vs) else none
def JD (o:Option (ByteArray×List Int)):ByteArray×List Int×Bool×Unit:=match o with | some p=>(p.1,p.2,true,()) | none=>(B [],[],false,())
theorem JE {n:Nat} {s:ByteArray} (hs:s.size≤1000000) (hn:s.size+30≤n):CI n s=some (JD (Ip s)):=by
  unfold CI
  rw [JB hs (by omega),Option.bind_some]
  unfold Ip
  cases hp:splitP s with
  | nil=>exact absurd (List.map_eq_nil_iff.1 hp) (Ct _ _)
  | cons p r =>
    simp only
    have h0:idx (p::r) 0=some p:=rfl
    rw [h0,Option.bind_some,Kb,Option.bind_some]
    cases hw:mget keq9 A6 p with
    | none=>rfl
    | some x =>
      obtain⟨h2,h5,_,_⟩:=Gb hw
      simp only
      rw [decide_eq_false (show ¬ x.many=0 by omega),Bool.not_false,cond_true,D3 (x:=x.many+1) (by omega) (by omega)]
      by_cases hl:((r.length+1:Nat):Int)=x.many+1
      · rw [if_pos hl,show((((p::r).length:Nat):Int) != x.many+1)=false by simpa using hl,cond_false]
        have:=Fg (p::r) r.length (by simp) (by omega) n 1 [] (by simp; omega) (by simp) (by simp)
        rw [show((1:Nat):Int)=1 from rfl,show(r.length:Int)=x.many by omega] at this
        rw [this,Option.bind_some,List.drop_succ_cons,List.drop_zero]
        cases AN r with
        | none=>rfl
        | some vs=>rfl
      · rw [if_neg hl,show((((p::r).length:Nat):Int) != x.many+1)=true by simpa using hl,cond_true]; rfl
end Go.Proofs.YtkpgggfibljflaaGreatDoor
namespace Go.Proofs.YtkpgggfibljflaaGreatDoor
open Go Go.RowKit Go.Proofs
theorem HM {t:ByteArray} {f:Int} {l:List Int} (h:Bk t=some (f,l)):∃ p r x vs,splitP t=p::r∧mget keq9 A6 p=some x∧((r.length+1:Nat):Int)=x.many+1∧AN r=some vs∧f=x.do_.f∧l=vs++List.replicate (5-vs.length) 0:=by
  cases hp:splitP t with
  | nil=>unfold splitP at hp; exact absurd (List.map_eq_nil_iff.1 hp) (Ct 32 _)
  | cons p r =>
    rw [B9 hp] at h
    cases hw:mget keq9 A6 p with
    | none=>rw [hw] at h; cases h
    | some x =>
      rw [hw] at h
      simp only at h
      by_cases hl:((r.length+1:Nat):Int)=x.many+1
      · rw [if_pos hl] at h
        cases hv:AN r with
        | none=>rw [hv] at h; cases h
        | some vs =>
          rw [hv] at h
          cases h
          exact⟨p,r,x,vs,rfl,hw,hl,hv,rfl,rfl⟩
      · rw [if_neg hl] at h; cases h
theorem JF {p:ByteArray} {x:Word} (h:mget keq9 A6 p=some x):(p=B [111,117,116]∧x.many=2∧x.do_.f=193)∨(p≠B [111,117,116]∧x.do_.f≠193):=by
  have:=Eh keq9 (fun a b h=>(Ea a b).1 h) _ _ _ h
  simp only [A6,List.mem_cons,Prod.mk.injEq,List.not_mem_nil,or_false] at this
  rcases this with⟨rfl,rfl⟩ | ⟨rfl,rfl⟩ | ⟨rfl,rfl⟩ | ⟨rfl,rfl⟩ | ⟨rfl,rfl⟩ | ⟨rfl,rfl⟩ | ⟨rfl,rfl⟩ | ⟨rfl,rfl⟩ | ⟨rfl,rfl⟩ | ⟨rfl,rfl⟩ | ⟨rfl,rfl⟩ | ⟨rfl,rfl⟩ <;> first | exact .inl ⟨rfl,rfl,rfl⟩ | exact .inr ⟨by decide,by decide⟩
def Fh (cards:List Card) (t:ByteArray):Bool:=match Bk t with
  | some (f,a::b::_)=>decide (f=193) && decide ((((Cg cards a b).1.length:Nat):Int)>0)
  | _=>false
theorem Hf {s:ByteArray} (hs:s.size≤1000000) {v:Int} (h:GG s=some v):atoiP s=some (.inl v):=by
  unfold atoiP
  obtain⟨_,h2,_,_⟩:=GT h
  rw [if_pos (by omega),h2]
theorem Kr {a b:ByteArray} (h:a≠b):a.beq b=false:=by
  cases hb:a.beq b with
  | false=>rfl
  | true =>
    have h2:(a.data == b.data)=true:=hb
    exact absurd (ByteArray.ext (eq_of_beq h2)) h
theorem IY {n:Nat} {t:ByteArray} {g:Session} (hg:AP g.state) (hn:300<n) (ht:t.size≤1000000) {y:Int×List Int} (hy:Bk t=some y):Bs n t g=some ((g,()),((),(Fh g.state.cards t,()))):=by
  obtain⟨f,l⟩:=y
  obtain⟨p,r,x,vs,hp,hw,hl,hv,rfl,rfl⟩:=HM hy
  have hsz:∀ q∈splitP t,q.size≤1000000:=fun q hq=>Nat.le_trans (Fe hq) ht
  unfold Bs splitS Fh
  rw [I3,show Nat.blt t.size 4294967281=true from Nat.ble_eq_true_of_le (by omega),Bool.and_self,cond_true,Option.bind_some,hp,hy]
  simp only
  rw [show idx (p::r) 0=some p from rfl,Option.bind_some]
  rw [hp] at hsz
  rcases JF hw with⟨rfl,hm,hf⟩ | ⟨hne,hf⟩
  · rw [hm] at hl
    obtain⟨r1,r2,rfl⟩:∃ r1 r2,r=[r1,r2]:=by
      rcases r with _ | ⟨r1,_ | ⟨r2,_ | ⟨r3,r4⟩⟩⟩
      · simp at hl
      · simp at hl
      · exact⟨_,_,rfl⟩
      · simp at hl; omega
    have hs1:=hsz r1 (by simp)
    have hs2:=hsz r2 (by simp)
    unfold AN at hv
    cases h1:GG r1 with
    | none=>rw [h1] at hv; cases hv
    | some a =>
      rw [h1] at hv
      unfold AN at hv
      cases h2:GG r2 with
      | none=>rw [h2] at hv; cases hv
      | some b =>
        rw [h2] at hv
        unfold AN at hv
        cases hv
        have hb:(B [111,117,116]).beq (B [111,117,116])=true:=by decide
        have ho:=Iw (n:=n) (bus:=a) (at_:=b) hg.kind (Nat.le_trans hg.cards (by decide)) (by have:=hg.cards; omega)
        rw [hb,Bool.not_true,cond_false,show idx [B [111,117,116],r1,r2] 1=some r1 from rfl,Option.bind_some,Hf hs1 h1,Option.bind_some,Sum.elim_inl,show idx [B [111,117,116],r1,r2] 2=some r2 from rfl,Option.bind_some,Hf hs2 h2,Option.bind_some,Sum.elim_inl,ho,Option.bind_some,hf]
        rfl
  · rw [Kr hne,Bool.not_false,cond_true]
    rcases vs++List.replicate (5-vs.length) 0 with _ | ⟨a,_ | ⟨b,c⟩⟩
    · rfl
    · rfl
    · show _=some ((g,()),((),(decide (x.do_.f=193) && decide ((((Cg g.state.cards a b).1.length:Nat):Int)>0),())))
      rw [decide_eq_false hf]; rfl
theorem E9 {s:State} {t:ByteArray} (h:(AO s t).2=0):∃ y,Bk t=some y∧(Aw s y.1 y.2).2=0∧(AO s t).1=(Aw s y.1 y.2).1:=by
  unfold AO at h ⊢
  cases hp:Bk t with
  | none=>rw [hp] at h; cases h
  | some y =>
    obtain⟨f,l⟩:=y
    rw [hp] at h
    simp only at h ⊢
    by_cases h0:(Aw s f l).2=0
    · rw [if_pos h0]; exact⟨_,rfl,h0,rfl⟩
    · rw [if_neg h0] at h; exact absurd h h0
def CO (cards:List Card):List ByteArray→List Int→Nat→List Int
  | t::l,e::es,i=>bif decide (e=0) && Fh cards t then(i:Int)::CO cards l es (i+1) else CO cards l es (i+1)
  | _,_,_=>[]
theorem C6 (full:List ByteArray) (errs:List Int) (g:Session) (hg:AP g.state) (hs:∀ t∈full,t.size≤1000000) (hl:full.length≤1000) (he:errs.length=full.length) (hacc:∀ (i:Nat)(h:i<full.length),errs[i]'(by omega)=0→∃ y,Bk full[i]=some y):∀ (n i:Nat)(out:List Int),300+(full.length-i)<n→i≤full.length→out.length≤i→Ai n errs out g full (full.length:Int) (i:Int)=some ((g,()),((),(out++CO g.state.cards (full.drop i) (errs.drop i) i,())))
  | 0,_,_,h,_,_=>absurd h (Nat.not_lt_zero _)
  | n+1,i,out,h,hi,ho=>by
    rw [Ai]
    by_cases hx:i<full.length
    · have hd:full.drop i=full[i]::full.drop (i+1):=List.drop_eq_getElem_cons hx
      have hxe:i<errs.length:=by omega
      have hde:errs.drop i=errs[i]::errs.drop (i+1):=List.drop_eq_getElem_cons hxe
      rw [show decide ((i:Int)<(full.length:Int))=true by simp; omega,cond_true,AS hx,Option.bind_some,AS hxe,Option.bind_some,wN i (by omega),hd,hde]
      unfold CO
      by_cases h0:errs[i]=0
      · obtain⟨y,hy⟩:=hacc i hx h0
        rw [decide_eq_true h0,cond_true,IY hg (by omega) (hs _ (List.getElem_mem hx)) hy,Option.bind_some,Bool.true_and]
        simp only
        cases hb:Fh g.state.cards full[i] with
        | false =>
          simp only [cond_false]
          exact C6 full errs g hg hs hl he hacc n (i+1) out (by omega) (by omega) (by omega)
        | true =>
          simp only [cond_true]
          rw [Ad (by simp; omega),Option.bind_some,C6 full errs g hg hs hl he hacc n (i+1) _ (by omega) (by omega) (by simp; omega)]
          simp
      · rw [decide_eq_false h0,cond_false,Bool.false_and,cond_false]
        exact C6 full errs g hg hs hl he hacc n (i+1) out (by omega) (by omega) (by omega)
    · have hd:full.drop i=[]:=by simp; omega
      rw [show decide ((i:Int)<(full.length:Int))=false by simp; omega,hd]
      simp [CO]
theorem Hg:∀ (l:List ByteArray)(s:State)(i:Nat)(h:i<l.length),((Aj s l).2[i]'(by rw [E7]; exact h))=0→∃ y,Bk l[i]=some y
  | t::l,s,0,h,h0=>by
    obtain⟨y,hy,_⟩:=E9 (s:=s) (t:=t) (by simpa [Aj] using h0)
    exact⟨y,by simpa using hy⟩
  | t::l,s,i+1,h,h0=>by
    have:=Hg l (AO s t).1 i (by simpa using h) (by simpa [Aj] using h0)
    simpa using this
theorem Kc {n:Nat} {lines:List ByteArray} (hr:C1 lines=true) (hn:1600≤n):Bw n lines=some (CO (Aj Af lines).1.cards lines (Aj Af lines).2 0,(0,())):=by
  obtain⟨h1,h2⟩:=DE.1 hr
  have hs:∀ t∈lines,t.size≤1000000:=fun t ht=>Nat.le_trans (h2 t ht) (by decide)
  have hL:=Gg lines 0 Af (Gf.less (by omega))
  unfold Bw
  rw [Ji (by omega) (by omega),hr,Option.bind_some]
  simp only [cond_true]
  rw [show((0:Int) != 0)=false from rfl,cond_false,Ka hs (by omega) hn,Option.bind_some]
  unfold CK
  have h:=C6 lines (Aj Af lines).2 (Session.mk (Aj Af lines).1) hL.1 hs (by omega) (E7 _ _) (fun i hi h0=>Hg lines Af i hi h0) n 0 [] (by omega) (by omega) (by simp)
  rw [show((0:Nat):Int)=0 from rfl,List.drop_zero,List.drop_zero,List.nil_append] at h
  simp only
  rw [h]; rfl
end Go.Proofs.YtkpgggfibljflaaGreatDoor
namespace Go.Proofs.YtkpgggfibljflaaGreatDoor
open Go Go.RowKit Go.Proofs
def Az (t:ByteArray):Bool:=match Bk t with
  | some (f,_)=>decide (f≤192)
  | none=>false
theorem IZ {p:ByteArray} {x:Word} (h:mget keq9 A6 p=some x):(p=B [102,111,117,110,100]∧x.do_.f=189∧x.many=4)∨(p=B [104,101,108,100]∧x.do_.f=190∧x.many=4)∨(p=B [115,105,103,110,101,100]∧x.do_.f=191∧x.many=4)∨(p=B [99,104,101,99,107,101,100]∧x.do_.f=192∧x.many=3)∨(p≠B [102,111,117,110,100]∧p≠B [104,101,108,100]∧p≠B [115,105,103,110,101,100]∧p≠B [99,104,101,99,107,101,100]∧¬ x.do_.f≤192):=by
  have:=Eh keq9 (fun a b h=>(Ea a b).1 h) _ _ _ h
  simp only [A6,List.mem_cons,Prod.mk.injEq,List.not_mem_nil,or_false] at this
  rcases this with⟨rfl,rfl⟩ | ⟨rfl,rfl⟩ | ⟨rfl,rfl⟩ | ⟨rfl,rfl⟩ | ⟨rfl,rfl⟩ | ⟨rfl,rfl⟩ | ⟨rfl,rfl⟩ | ⟨rfl,rfl⟩ | ⟨rfl,rfl⟩ | ⟨rfl,rfl⟩ | ⟨rfl,rfl⟩ | ⟨rfl,rfl⟩ <;> first | exact .inl ⟨rfl,rfl,rfl⟩ | exact .inr (.inl ⟨rfl,rfl,rfl⟩) | exact .inr (.inr (.inl ⟨rfl,rfl,rfl⟩)) | exact .inr (.inr (.inr (.inl ⟨rfl,rfl,rfl⟩))) | exact .inr (.inr (.inr (.inr ⟨by decide,by decide,by decide,by decide,by decide⟩)))
theorem JG {n:Nat} {t:ByteArray} (ht:t.size≤1000000) (hn:t.size+30≤n):∃ c,D2 n t=some (c,Az t,()):=by
  unfold D2
  rw [JE ht hn,Option.bind_some]
  unfold Ip Az
  cases hp:splitP t with
  | nil=>unfold splitP at hp; exact absurd (List.map_eq_nil_iff.1 hp) (Ct 32 _)
  | cons p r =>
    rw [B9 hp]
    simp only
    cases hw:mget keq9 A6 p with
    | none=>exact⟨_,rfl⟩
    | some x =>
      simp only
      by_cases hl:((r.length+1:Nat):Int)=x.many+1
      · rw [if_pos hl,if_pos hl]
        cases hv:AN r with
        | none=>exact⟨_,rfl⟩
        | some vs =>
          have hlen:=E4 hv
          simp only [JD,Option.map_some,Bool.not_true,cond_false]
          rcases IZ hw with⟨rfl,hf,hm⟩ | ⟨rfl,hf,hm⟩ | ⟨rfl,hf,hm⟩ | ⟨rfl,hf,hm⟩ | ⟨h1,h2,h3,h4,hf⟩
          · rw [hm] at hl
            obtain⟨a,b,c,d,rfl⟩:∃ a b c d,vs=[a,b,c,d]:=by
              rcases vs with _ | ⟨a,_ | ⟨b,_ | ⟨c,_ | ⟨d,_ | ⟨e,f⟩⟩⟩⟩⟩ <;> first | exact⟨_,_,_,_,rfl⟩ | (simp at hlen; omega)
            rw [hf]; exact⟨_,rfl⟩
          · rw [hm] at hl
            obtain⟨a,b,c,d,rfl⟩:∃ a b c d,vs=[a,b,c,d]:=by
              rcases vs with _ | ⟨a,_ | ⟨b,_ | ⟨c,_ | ⟨d,_ | ⟨e,f⟩⟩⟩⟩⟩ <;> first | exact⟨_,_,_,_,rfl⟩ | (simp at hlen; omega)
            rw [hf]; exact⟨_,rfl⟩
          · rw [hm] at hl
            obtain⟨a,b,c,d,rfl⟩:∃ a b c d,vs=[a,b,c,d]:=by
              rcases vs with _ | ⟨a,_ | ⟨b,_ | ⟨c,_ | ⟨d,_ | ⟨e,f⟩⟩⟩⟩⟩ <;> first | exact⟨_,_,_,_,rfl⟩ | (simp at hlen; omega)
            rw [hf]; exact⟨_,rfl⟩
          · rw [hm] at hl
            obtain⟨a,b,c,rfl⟩:∃ a b c,vs=[a,b,c]:=by
              rcases vs with _ | ⟨a,_ | ⟨b,_ | ⟨c,_ | ⟨d,e⟩⟩⟩⟩ <;> first | exact⟨_,_,_,rfl⟩ | (simp at hlen; omega)
            rw [hf]; exact⟨_,rfl⟩
          · rw [Ac h1,Ac h2,Ac h3,Ac h4,decide_eq_false hf]; exact⟨_,rfl⟩
      · rw [if_neg hl,if_neg hl]; exact⟨_,rfl⟩
theorem Iq {s:State} {f:Int} {l:List Int} (hf : ¬ f≤192) (h0:(Aw s f l).2=0):(Aw s f l).1.cards=s.cards:=by
  unfold Aw at h0 ⊢
  split at h0
  · rw [if_neg (by omega),if_neg (by omega),if_neg (by omega),if_neg (by omega)] at h0 ⊢
    by_cases q0:f=193
    · rw [if_pos q0] at h0 ⊢; rw [(Ik h0).2.2.2.2]
    rw [if_neg q0] at h0 ⊢
    by_cases q0:f=194
    · rw [if_pos q0] at h0 ⊢; obtain⟨_,_,_,e,_⟩:=Kl h0; rw [e]
    rw [if_neg q0] at h0 ⊢
    by_cases q0:f=195
    · rw [if_pos q0] at h0 ⊢; rw [(Hu h0).1]
    rw [if_neg q0] at h0 ⊢
    by_cases q0:f=196
    · rw [if_pos q0] at h0 ⊢; rw [(Hu h0).1]
    rw [if_neg q0] at h0 ⊢
    by_cases q0:f=197
    · rw [if_pos q0] at h0 ⊢; rw [(Hu h0).1]
    rw [if_neg q0] at h0 ⊢
    by_cases q0:f=198
    · rw [if_pos q0]; unfold Ic; split <;> rfl
    rw [if_neg q0] at h0 ⊢
    by_cases q0:f=199
    · rw [if_pos q0]; unfold Ie; split <;> rfl
    rw [if_neg q0] at h0 ⊢
    unfold Ih
    split
    · split <;> rfl
    · rfl
  · rfl
theorem Gk {s:State} {t:ByteArray} (h:Az t=false):(AO s t).1.cards=s.cards:=by
  by_cases h0:(AO s t).2=0
  · obtain⟨y,hy,hw,e⟩:=E9 h0
    unfold Az at h
    rw [hy] at h
    rw [e]
    exact Iq (by simpa using h) hw
  · rw [J9 h0]
theorem Gl:∀ (l:List ByteArray)(s:State),(∀ t∈l,Az t=false)→(Aj s l).1.cards=s.cards
  | [],_,_=>rfl
  | t::l,s,h=>by
    simp only [Aj]
    rw [Gl l _ fun x hx=>h x (by simp [hx]),Gk (h t (by simp))]
theorem JH {s:State} {t:ByteArray} (h0:(AO s t).2=0):Fh s.cards t=false:=by
  obtain⟨⟨f,l⟩,hy,hw,_⟩:=E9 h0
  unfold Fh
  rw [hy]
  rcases l with _ | ⟨a,_ | ⟨b,c⟩⟩
  · rfl
  · rfl
  · simp only
    by_cases hf:f=193
    · subst hf
      unfold Aw at hw
      split at hw
      · rename_i h5
        cases h5
        have hw2:(Ht s a b).2=0:=hw
        rw [(Ik hw2).2.2.2.1]; rfl
      · cases hw
    · rw [decide_eq_false hf,Bool.false_and]
theorem Ja {cards:List Card} {t:ByteArray} (h:Az t=true):Fh cards t=false:=by
  unfold Az at h
  unfold Fh
  rcases hy:Bk t with _ | ⟨f,l⟩
  · rfl
  · rw [hy] at h
    rcases l with _ | ⟨a,_ | ⟨b,c⟩⟩
    · rfl
    · rfl
    · simp only at h ⊢
      have:f≤192:=by simpa using h
      rw [decide_eq_false (by omega),Bool.false_and]
theorem Gm:∀ (l:List ByteArray)(s:State)(i:Nat),(∀ t∈l,Az t=false)→CO s.cards l (Aj s l).2 i=[]
  | [],_,_,_=>rfl
  | t::l,s,i,h=>by
    have ht:=h t (by simp)
    have ih:=Gm l (AO s t).1 (i+1) fun x hx=>h x (by simp [hx])
    rw [Gk ht] at ih
    simp only [Aj,CO]
    rw [ih]
    by_cases h0:(AO s t).2=0
    · rw [JH h0,Bool.and_false]; rfl
    · rw [decide_eq_false h0]; rfl
theorem Gn (cards:List Card) (b:List ByteArray):∀ (a:List ByteArray)(s:State)(i:Nat),(∀ t∈a,Az t=true)→CO cards (a++b) (Aj s (a++b)).2 i=CO cards b (Aj (Aj s a).1 b).2 (i+a.length)
  | [],_,_,_=>rfl
  | t::a,s,i,h=>by
    simp only [List.cons_append,Aj,CO]
    rw [Ja (h t (by simp)),Bool.and_false,cond_false,Gn cards b a _ (i+1) fun x hx=>h x (by simp [hx])]
    rw [show i+1+a.length=i+(t::a).length by simp; omega]
theorem Hh:∀ (a b:List ByteArray)(s:State),(Aj s (a++b)).1=(Aj (Aj s a).1 b).1
  | [],_,_=>rfl
  | t::a,b,s=>by simp only [List.cons_append,Aj]; exact Hh a b _
theorem DI (full:List ByteArray) (hs:∀ t∈full,t.size≤1000) (hl:full.length≤1000):∀ (n i:Nat)(a b:List ByteArray),1100+(full.length-i)<n→i≤full.length→a.length≤i→b.length≤i→Ae n full a b (i:Int)=some (a++(full.drop i).filter Az,(b++(full.drop i).filter (fun t=>!Az t),()))
  | 0,_,_,_,h,_,_,_=>absurd h (Nat.not_lt_zero _)
  | n+1,i,a,b,h,hi,ha,hb=>by
    rw [Ae]
    by_cases hx:i<full.length
    · have hd:full.drop i=full[i]::full.drop (i+1):=List.drop_eq_getElem_cons hx
      have h1:=hs _ (List.getElem_mem hx)
      obtain⟨c,hc⟩:=JG (n:=n) (t:=full[i]) (by omega) (by omega)
      rw [show decide ((i:Int)<(full.length:Int))=true by simp; omega,cond_true,AS hx,Option.bind_some,hc,Option.bind_some,hd,wN i (by omega)]
      simp only
      cases hk:Az full[i] with
      | true =>
        rw [cond_true,Option.bind_some,Ad (by simp; omega),Option.bind_some,DI full hs hl n (i+1) _ _ (by omega) (by omega) (by simp; omega) (by omega)]
        rw [List.filter_cons_of_pos hk,List.filter_cons_of_neg (by simp [hk])]; simp
      | false =>
        rw [cond_false,Option.bind_some,Ad (by simp; omega),Option.bind_some,DI full hs hl n (i+1) _ _ (by omega) (by omega) (by omega) (by simp; omega)]
        rw [List.filter_cons_of_neg (by simp [hk]),List.filter_cons_of_pos (by simp [hk])]; simp
    · have hd:full.drop i=[]:=by simp; omega
      rw [show decide ((i:Int)<(full.length:Int))=false by simp; omega,hd]
      simp
theorem Gp (p:ByteArray→Bool):∀ l:List ByteArray,(l.filter p).length+(l.filter fun t=>!p t).length=l.length
  | []=>rfl
  | t::l=>by
    have:=Gp p l
    cases h:p t <;> simp [List.filter_cons,h] <;> omega
theorem JI {n:Nat} {lines:List ByteArray} (hn:lines.length+1800≤n) (hbig:lines.length≤4000000000000000000):Bd n lines=some (true,()):=by
  unfold Bd
  obtain⟨b,hb,hr⟩:=Im (n:=n) hbig (by omega)
  rw [hb,Option.bind_some]
  cases b with
  | false=>simp only [Bool.not_false,cond_true]; rw [It (by omega)]; rfl
  | true =>
    simp only [Bool.not_true,cond_false]
    have hR:=hr rfl
    obtain⟨h1,h2⟩:=DE.1 hR
    have hl:=DI lines (fun t ht=>Nat.le_trans (h2 t ht) (by decide)) (by omega) n 0 [] [] (by omega) (by omega) (by simp) (by simp)
    rw [show((0:Nat):Int)=0 from rfl,List.drop_zero,List.nil_append,List.nil_append] at hl
    rw [hl,Option.bind_some]
    have hlen:(lines.filter Az++lines.filter fun t=>!Az t).length=lines.length:=by
      rw [List.length_append]
      exact Gp Az lines
    simp only
    rw [Ad (by rw [List.length_append] at hlen; omega),Option.bind_some]
    have hR':C1 (lines.filter Az++lines.filter fun t=>!Az t)=true:=by
      refine DE.2 ⟨by omega,fun t ht=>?_⟩
      rcases List.mem_append.1 ht with ht | ht <;> exact h2 t (List.mem_filter.1 ht).1
    rw [Kc hR' (by omega),Option.bind_some]
    have hz:CO (Aj Af (lines.filter Az++lines.filter fun t=>!Az t)).1.cards (lines.filter Az++lines.filter fun t=>!Az t) (Aj Af (lines.filter Az++lines.filter fun t=>!Az t)).2 0=[]:=by
      rw [Hh,Gn _ _ _ _ _ fun t ht=>(List.mem_filter.1 ht).2]
      have hn':∀ t∈(lines.filter fun t=>!Az t),Az t=false:=fun t ht=>by simpa using (List.mem_filter.1 ht).2
      rw [Gl _ _ hn']
      exact Gm _ _ _ hn'
    simp only
    rw [hz]
    simp only [It (show 60≤n by omega)]
    rfl
end Go.Proofs.YtkpgggfibljflaaGreatDoor
