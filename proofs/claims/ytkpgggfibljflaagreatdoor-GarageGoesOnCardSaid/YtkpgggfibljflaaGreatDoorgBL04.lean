/- The plain law. -/
import Derived.Test.YtkpgggfibljflaaGreatDoorgBL03
set_option linter.all false
set_option maxRecDepth 100000
namespace Go.Proofs.YtkpgggfibljflaaGreatDoor
open Go Go.RowKit Go.Proofs
def AT (b:Bool) (e:Int):Unit ⊕ (Refused×Unit):=bif b then .inl () else .inr (Refused.mk e,())
theorem AK (n:Nat) (b:Bool) (e:Int):fgarage_ask n b e=some (AT b e):=by cases b <;> rfl
theorem Ek (n:Nat) (e:Int):fgarage_must n e=some (AT (decide (e=0)) e):=by
  unfold fgarage_must
  rw [AK]
  cases decide (e=0) <;> rfl
theorem Ck (n:Nat) (x lo hi:Int):fgarage_within n x lo hi=some (Bj x lo hi,()):=by
  unfold fgarage_within Bj
  cases decide (lo≤x) <;> rfl
theorem Bx {α:Type} {l:List α} (h:l.length≤1000000000):app [] l=some l:=Ad (a:=[]) (by simpa using h)
theorem H6 {n:Nat} {l:List Card} {x:Card} (h:l.length<1000000000):fgarage_with_Card n l x=some (l++[x],()):=by
  unfold fgarage_with_Card clone180
  rw [Bx (by omega)]
  simp only [Option.bind_some]
  rw [Ad (by simp; omega)]; rfl
theorem HX {n:Nat} {l:List Out} {x:Out} (h:l.length<1000000000):fgarage_with_Out n l x=some (l++[x],()):=by
  unfold fgarage_with_Out clone60
  rw [Bx (by omega)]
  simp only [Option.bind_some]
  rw [Ad (by simp; omega)]; rfl
theorem HY {n:Nat} {l:List Run} {x:Run} (h:l.length<1000000000):fgarage_with_Run n l x=some (l++[x],()):=by
  unfold fgarage_with_Run clone62
  rw [Bx (by omega)]
  simp only [Option.bind_some]
  rw [Ad (by simp; omega)]; rfl
theorem GB {n:Nat} {l:List Record} {x:Record} (h:l.length<1000000000):fgarage_with_Record n l x=some (l++[x],()):=by
  unfold fgarage_with_Record clone93
  rw [Bx (by omega)]
  simp only [Option.bind_some]
  rw [Ad (by simp; omega)]; rfl
theorem GC {n:Nat} {l:List Driver} {x:Driver} (h:l.length<1000000000):fgarage_with_Driver n l x=some (l++[x],()):=by
  unfold fgarage_with_Driver clone186
  rw [Bx (by omega)]
  simp only [Option.bind_some]
  rw [Ad (by simp; omega)]; rfl
theorem H7 {n:Nat} {l:List Duty} {x:Duty} (h:l.length<1000000000):fgarage_with_Duty n l x=some (l++[x],()):=by
  unfold fgarage_with_Duty clone184
  rw [Bx (by omega)]
  simp only [Option.bind_some]
  rw [Ad (by simp; omega)]; rfl
theorem HZ {n:Nat} {l:List Int} {x:Int} (h:l.length<1000000000):fgarage_with_int n l x=some (l++[x],()):=by
  unfold fgarage_with_int clone3
  rw [Bx (by omega)]
  simp only [Option.bind_some]
  rw [Ad (by simp; omega)]; rfl
def J1 (c:Card):Bool:=bif decide (c.kind.n<2) then Bj c.part 0 15 && decide (c.sg=0) else decide (c.part=0) && (decide (c.kind.n=2) && Bj c.sg 1 999 || decide (c.kind.n=3) && decide (c.sg=0))
def C5 (c:Card):Bool:=Bj c.bus 0 99 && (Bj c.number 1 999 && (Bj c.minute 0 1000000 && J1 c))
theorem J2 (n:Nat) (c:Card) (hk:0≤c.kind.n∧c.kind.n≤3):fpit_Card_valid n c=some (C5 c,()):=by
  have h4:c.kind.n=0∨c.kind.n=1∨c.kind.n=2∨c.kind.n=3:=by omega
  unfold fpit_Card_valid C5 J1 Bj
  obtain⟨bus,number,minute,⟨k⟩,part,sg⟩:=c
  simp only at h4 ⊢
  cases decide (0≤bus) with
  | false=>rfl
  | true =>
  cases decide (bus≤99) with
  | false=>rfl
  | true =>
  cases decide (1≤number) with
  | false=>rfl
  | true =>
  cases decide (number≤999) with
  | false=>rfl
  | true =>
  cases decide (0≤minute) with
  | false=>rfl
  | true =>
  cases decide (minute≤1000000) with
  | false=>rfl
  | true =>
  rcases h4 with rfl | rfl | rfl | rfl
  · show(bif decide (0≤part) then(bif decide (part≤15) then(some (decide (sg=0),())) else some (false,())) else some (false,()))=_
    cases decide (0≤part) <;> cases decide (part≤15) <;> simp
  · show(bif decide (0≤part) then(bif decide (part≤15) then(some (decide (sg=0),())) else some (false,())) else some (false,()))=_
    cases decide (0≤part) <;> cases decide (part≤15) <;> simp
  · show(bif decide (part=0) then(bif decide (1≤sg) then(some (decide (sg≤999),())) else some (false,())) else some (false,()))=_
    cases decide (part=0) <;> cases decide (1≤sg) <;> simp
  · show(bif decide (part=0) then(some (decide (sg=0),())) else some (false,()))=_
    cases decide (part=0) <;> simp
def Co (a c:Card):Bool:=decide (a.bus=c.bus) && (decide (a.number=c.number) && (decide (a.minute=c.minute) && (decide (a.kind.n=c.kind.n) && (decide (a.part=c.part) && (decide (a.sg=c.sg) && true)))))
theorem Ia {n:Nat} (g:Session) (c:Card) (l:List Card) (hl:l.length≤4000000000000000000) (h:l.length+1≤n):fgarage_session_card_l1 n g c l (l.length:Int) 0=some (bif l.any (fun a=>Co a c) then .inr (g,(c,(Refused.mk 6,()))) else .inl (g,(c,((),((),()))))):=by
  have key:=GS (F:=fun n (_:Unit) i=>fgarage_session_card_l1 n g c l (l.length:Int) i) (l:=l) (N:=0) (T:=fun s i a=>bif Co a c then .inr (.inr (g,(c,(Refused.mk 6,())))) else .inl s) (E:=fun _=>.inl (g,(c,((),((),())))))
    (B:=fun n _ i v0=>(fgarage_ask n (!Co v0 c) 6).bind fun v1=>Sum.elim (fun v2=>fgarage_session_card_l1 n g c l (l.length:Int) (IntKind.i64.wrap (i+1))) (fun v2=>some (.inr (g,(c,(v2.fst,()))))) (v1)) (fun _ _=>True)
    (fun _ _ _=>rfl) (fun n s i hi _ _=>by
      rw [AK]
      cases Co l[i] c
      · exact⟨rfl,trivial⟩
      · rfl) hl l.length () 0 n (by simp) (by omega) trivial
  rw [show((0:Nat):Int)=0 from rfl,List.drop_zero] at key
  rw [key]
  congr 1
  suffices H:∀ (l:List Card)(i:Nat),Jo (fun(s:Unit)(i:Nat) a=>bif Co a c then .inr (.inr (g,(c,(Refused.mk 6,())))) else .inl s) (fun _=>(.inl (g,(c,((),((),())))):(Session×Card×Unit×Unit×Unit) ⊕ ((Session×Card×Refused×Unit)))) i () l=(bif l.any (fun a=>Co a c) then .inr (g,(c,(Refused.mk 6,()))) else .inl (g,(c,((),((),()))))) from H l 0
  intro l
  induction l with
  | nil=>intro i; rfl
  | cons a l ih =>
    intro i
    unfold Jo
    rw [List.any_cons]
    cases Co a c
    · exact ih (i+1)
    · rfl
end Go.Proofs.YtkpgggfibljflaaGreatDoor
namespace Go.Proofs.YtkpgggfibljflaaGreatDoor
open Go Go.RowKit Go.Proofs
def DR (c:Card):Prop:=0≤c.kind.n∧c.kind.n≤3
theorem Hq {α R:Type} (p:α→Bool) (r:Nat→R) (E:R):∀ (l:List α)(i:Nat),(l.all p=true→Jo (fun(s:Unit) i a=>bif p a then .inl s else .inr (r i)) (fun _=>E) i () l=E)∧(l.all p=false→∃ k,Jo (fun(s:Unit) i a=>bif p a then .inl s else .inr (r i)) (fun _=>E) i () l=r k)
  | [],i=>⟨fun _=>rfl,fun h=>by cases h⟩
  | a::l,i=>by
    obtain⟨h1,h2⟩:=Hq p r E l (i+1)
    unfold Jo
    rw [List.all_cons]
    cases hp:p a with
    | false=>exact⟨(fun h=>by cases h),fun _=>⟨i,rfl⟩⟩
    | true =>
      simp only [Bool.true_and,cond_true]
      exact⟨h1,h2⟩
theorem Ib {n:Nat} {l:List Card} (hk:∀ c∈l,DR c) (hl:l.length≤1000) (h:l.length<n):(l.all C5=true→fpit_read_i2 n l (l.length:Int) 0=some (.inl ((((),()),()),())))∧(l.all C5=false→∃ k:Nat,fpit_read_i2 n l (l.length:Int) 0=some (.inr ((((),()),()),((k:Int),())))):=by
  have key:=GS (F:=fun n (_:Unit) i=>fpit_read_i2 n l (l.length:Int) i) (l:=l) (N:=0) (T:=fun s i a=>bif C5 a then .inl s else .inr (.inr ((((),()),()),((i:Int),())))) (E:=fun _=>.inl ((((),()),()),()))
    (B:=fun n _ i v0=>(fpit_Card_valid n v0).bind fun v1=>bif !v1.fst then(some (.inr ((((),()),()),(i,())))) else fpit_read_i2 n l (l.length:Int) (IntKind.i64.wrap (i+1))) (fun _ _=>True)
    (fun _ _ _=>rfl) (fun n s i hi _ _=>by
      rw [J2 n _ (hk _ (List.getElem_mem hi))]
      cases C5 l[i]
      · rfl
      · exact⟨rfl,trivial⟩) (by omega) l.length () 0 n (by simp) (by omega) trivial
  rw [show((0:Nat):Int)=0 from rfl,List.drop_zero] at key
  obtain⟨h1,h2⟩:=Hq (R:=((((Unit×Unit)×Unit)×Unit) ⊕ ((((Unit×Unit)×Unit)×Int×Unit)))) C5 (fun i=>.inr ((((),()),()),((i:Int),()))) (.inl ((((),()),()),())) l 0
  exact⟨fun h=>by rw [key,h1 h],fun h=>by obtain⟨k,hk⟩:=h2 h; exact⟨k,by rw [key,hk]⟩⟩
def zC:Card:=Card.mk 0 0 0 (IK.mk 0) 0 0
def JX:List (Int×Card)→List Int→List Card→Option (List (Int×Card)×List Int)
  | m,o,[]=>some (m,o)
  | m,o,c::l=>bif mhas keq3 m c.number then(bif Co (mgetD keq3 m c.number zC) c then JX m o l else none) else JX (mput keq3 m c.number c) (o++[c.number]) l
theorem Gk (full:List Card) (hl:full.length≤1000):∀ (n i:Nat)(m:List (Int×Card))(o:List Int),full.length-i<n→i≤full.length→o.length≤i→match JX m o (full.drop i) with
    | some (m',o')=>fpit_read_l1 n m o full (full.length:Int) (i:Int)=some (.inl ((m',(o',())),((),((),()))))
    | none=>∃ m' o',fpit_read_l1 n m o full (full.length:Int) (i:Int)=some (.inr ((m',(o',())),((),((),(6,())))))
  | 0,_,_,_,h,_,_=>absurd h (Nat.not_lt_zero _)
  | n+1,i,m,o,h,hi,ho=>by
    rw [fpit_read_l1]
    by_cases hx:i<full.length
    · have hd:full.drop i=full[i]::full.drop (i+1):=List.drop_eq_getElem_cons hx
      rw [show decide ((i:Int)<(full.length:Int))=true by simp; omega,cond_true,Bb hx,Option.bind_some,hd,wN i (by omega)]
      have ih:=fun m o=>Gk full hl n (i+1) m o (by omega) (by omega)
      have happ:app o [full[i].number]=some (o++[full[i].number]):=Ad (by simp; omega)
      unfold JX
      cases hm:mhas keq3 m full[i].number with
      | true =>
        simp only [cond_true,Bool.not_true,cond_false]
        show(match (bif Co (mgetD keq3 m full[i].number zC) full[i] then JX m o (full.drop (i+1)) else none) with | some (m',o')=>(bif !Co (mgetD keq3 m full[i].number zC) full[i] then _ else _)=_ | none=>∃ m' o',(bif !Co (mgetD keq3 m full[i].number zC) full[i] then _ else _)=_)
        cases Co (mgetD keq3 m full[i].number zC) full[i] with
        | true =>
          simp only [cond_true,Bool.not_true,cond_false]
          exact ih m o (by omega)
        | false=>exact⟨m,o,rfl⟩
      | false =>
        simp only [cond_true,Bool.not_false,cond_false]
        rw [happ,Option.bind_some]
        exact ih _ _ (by simp; omega)
    · have hd:full.drop i=[]:=by simp; omega
      rw [show decide ((i:Int)<(full.length:Int))=false by simp; omega,hd]
      rfl
theorem FY:∀ (l:List Card)(m:List (Int×Card))(o:List Int)(m':List (Int×Card))(o':List Int),JX m o l=some (m',o')→o'.length≤o.length+l.length
  | [],m,o,m',o',h=>by cases h; simp
  | c::l,m,o,m',o',h=>by
    unfold JX at h
    cases hm:mhas keq3 m c.number with
    | true =>
      rw [hm,cond_true] at h
      cases hs:Co (mgetD keq3 m c.number zC) c with
      | true =>
        rw [hs,cond_true] at h
        have:=FY l m o m' o' h
        simp; omega
      | false=>rw [hs] at h; cases h
    | false =>
      rw [hm,cond_false] at h
      have:=FY l _ _ m' o' h
      simp at this ⊢; omega
theorem Kg {o:List Int} (h:o.length≤1000000):srtI o=some (srtB (fun a b=>decide (a≤b)) o):=by
  unfold srtI
  have hl:∀ (l:List Int),lenN l=l.length:=fun l=>by induction l with
    | nil=>rfl
    | cons a l ih=>simp [lenN,ih]
  rw [show Nat.blt (lenN o) 4611686018427387904=true by rw [hl]; exact Nat.ble_eq_true_of_le (by omega)]
  rfl
def CZ (l:List Card):Int ⊕ (List (Int×Card)×List Int) :=
  if 40<l.length then .inl 3 else if l.all C5=false then .inl 1 else match JX [] [] l with
    | none=>.inl 6
    | some (m,o)=>.inr (m,srtB (fun a b=>decide (a≤b)) o)
theorem I4 {n:Nat} {l:List Card} (hk:∀ c∈l,DR c) (hl:l.length≤1000) (h:l.length<n):fpit_read n l=some (match CZ l with | .inl e=>.inl ((),(e,())) | .inr y=>.inr ((y.1,(y.2,())),(0,()))):=by
  unfold fpit_read CZ
  by_cases h40:40<l.length
  · rw [show decide ((l.length:Int)>40)=true by simp; omega,cond_true,if_pos h40]
  · rw [show decide ((l.length:Int)>40)=false by simp; omega,cond_false,if_neg h40]
    obtain⟨r1,r2⟩:=Ib hk hl h
    have r3:=Gk l hl n 0 [] [] (by omega) (by omega) (by simp)
    rw [show((0:Nat):Int)=0 from rfl,List.drop_zero] at r3
    cases ha:l.all C5 with
    | false =>
      obtain⟨k,hk⟩:=r2 ha
      rw [hk,if_pos rfl]
      simp only [Option.bind_some,Sum.elim_inr]
      rw [show decide ((k:Int)≥0)=true by simp]
      rfl
    | true =>
      rw [r1 ha,if_neg (by simp)]
      simp only [Option.bind_some,Sum.elim_inl]
      cases hr:JX [] [] l with
      | none =>
        rw [hr] at r3
        obtain⟨m',o',e⟩:=r3
        rw [e]; rfl
      | some y =>
        rw [hr] at r3
        have hlen:=FY l [] [] y.1 y.2 hr
        rw [r3]
        simp only [Option.bind_some,Sum.elim_inl]
        rw [Kg (by simp at hlen; omega)]; rfl
def Kx (l:List Card):Int:=match CZ l with
  | .inl e=>e
  | .inr _=>0
theorem GD {n:Nat} {l:List Card} (hk:∀ c∈l,DR c) (hl:l.length≤1000) (h:l.length<n):fpit_CheckCards n l=some (Kx l,()):=by
  unfold fpit_CheckCards Kx
  rw [I4 hk hl h]
  cases CZ l <;> rfl
def KY (m:List (Int×Card)) (bus at_:Int) (v:Int):Bool:=decide ((mgetD keq3 m v zC).bus=bus) && ((decide ((mgetD keq3 m v zC).kind.n=0) || decide ((mgetD keq3 m v zC).kind.n=1)) && openP m (mgetD keq3 m v zC) at_)
def K9 (m:List (Int×Card)) (o:List Int) (bus at_:Int):List Int:=(o.filter (KY m bus at_)).map fun v=>(mgetD keq3 m v zC).number
theorem F0 (m:List (Int×Card)) (cl full:List Int) (bus at_:Int) (hl:full.length≤1000):∀ (n i:Nat)(acc:List Int),full.length-i<n→i≤full.length→acc.length≤i→fpit_book_opens_i1 n at_ acc m cl bus full (full.length:Int) (i:Int)=some (.inl (((at_,()),((acc++K9 m (full.drop i) bus at_,()),(((((m,(cl,())),()),()),()),()))),((),((),((),((),((),(((),()),((bus,()),())))))))))
  | 0,_,_,h,_,_=>absurd h (Nat.not_lt_zero _)
  | n+1,i,acc,h,hi,ha=>by
    rw [fpit_book_opens_i1]
    by_cases hx:i<full.length
    · have hd:full.drop i=full[i]::full.drop (i+1):=List.drop_eq_getElem_cons hx
      have ih:=fun acc=>F0 m cl full bus at_ hl n (i+1) acc (by omega) (by omega)
      have happ:∀ x,app acc [x]=some (acc++[x]):=fun x=>Ad (by simp; omega)
      rw [show decide ((i:Int)<(full.length:Int))=true by simp; omega,cond_true,Bb hx,Option.bind_some,hd,wN i (by omega)]
      have e1:K9 m (full[i]::full.drop (i+1)) bus at_=(bif KY m bus at_ full[i] then [(mgetD keq3 m full[i] zC).number] else [])++K9 m (full.drop (i+1)) bus at_:=by
        unfold K9
        rw [List.filter_cons]
        cases KY m bus at_ full[i] <;> simp
      rw [e1]
      unfold openB KY
      simp only [Option.bind_some,happ]
      generalize hz:mgetD keq3 m full[i] zC=z
      unfold zC at hz
      rw [hz]
      cases decide (z.bus=bus) with
      | false=>simpa using ih acc (by omega)
      | true =>
        cases decide (z.kind.n=0) with
        | true =>
          cases openP m z at_ with
          | true=>simpa using ih (acc++[z.number]) (by simp; omega)
          | false=>simpa using ih acc (by omega)
        | false =>
          cases decide (z.kind.n=1) with
          | true =>
            cases openP m z at_ with
            | true=>simpa using ih (acc++[z.number]) (by simp; omega)
            | false=>simpa using ih acc (by omega)
          | false=>simpa using ih acc (by omega)
    · have hd:full.drop i=[]:=by simp; omega
      rw [show decide ((i:Int)<(full.length:Int))=false by simp; omega,hd]
      simp [K9]
def Da (l:List Card) (bus at_:Int):List Int×Int:=match CZ l with
  | .inl e=>([],e)
  | .inr y=>if Bj bus 0 99 && Bj at_ 0 1000000 then(K9 y.1 y.2 bus at_,0) else([],2)
theorem H8 {α:Type} (le:α→α→Bool) (x:α):∀ l,(insB le x l).length=l.length+1
  | []=>rfl
  | y::r=>by
    unfold insB
    cases le x y
    · simp [H8 le x r]
    · simp
theorem El {α:Type} (le:α→α→Bool):∀ l,(srtB le l).length=l.length
  | []=>rfl
  | x::r=>by
    unfold srtB
    rw [H8,El le r]; rfl
theorem GY {l:List Card} {y:List (Int×Card)×List Int} (h:CZ l=.inr y):l.length≤40∧l.all C5=true∧∃ o,JX [] [] l=some (y.1,o)∧y.2=srtB (fun a b=>decide (a≤b)) o:=by
  unfold CZ at h
  split at h
  · cases h
  · rename_i h40
    split at h
    · cases h
    · rename_i ha
      split at h
      · cases h
      · rename_i m o hr
        cases h
        exact⟨by omega,by simpa using ha,o,hr,rfl⟩
theorem GZ {l:List Card} {e:Int} (h:CZ l=.inl e):e=1∨e=3∨e=6:=by
  unfold CZ at h
  split at h
  · cases h; simp
  · split at h
    · cases h; simp
    · split at h
      · cases h; simp
      · cases h
theorem IJ {l:List Card} {y:List (Int×Card)×List Int} (h:CZ l=.inr y):y.2.length≤40:=by
  obtain⟨h1,_,o,h2,h3⟩:=GY h
  have:=FY l _ _ _ _ h2
  rw [h3,El]
  simp at this; omega
theorem Kh {n:Nat} {l:List Card} {bus at_:Int} (hk:∀ c∈l,DR c) (hl:l.length≤1000) (h:l.length+50<n):fpit_Open n l bus at_=some ((Da l bus at_).1,((Da l bus at_).2,())):=by
  unfold fpit_Open Da
  rw [I4 hk hl (by omega)]
  cases hr:CZ l with
  | inl e =>
    have he:e≠0:=by have:=GZ hr; omega
    simp only [Option.bind_some,Sum.elim_inl]
    rw [show(e != 0)=true by simpa using he]
    rfl
  | inr y =>
    simp only [Option.bind_some,Sum.elim_inr]
    rw [show((0:Int) != 0)=false from rfl,cond_false]
    unfold Bj
    have hy:=IJ hr
    have ho:=F0 y.1 y.2 y.2 bus at_ (by omega) n 0 [] (by omega) (by omega) (by simp)
    rw [show((0:Nat):Int)=0 from rfl,List.drop_zero,List.nil_append] at ho
    have hb:fpit_book_opens n y.1 y.2 bus at_=some (((y.1,(y.2,())),((),(K9 y.1 y.2 bus at_,())))):=by
      unfold fpit_book_opens
      rw [ho]; rfl
    cases decide (0≤bus) <;> cases decide (bus≤99) <;> cases decide (0≤at_) <;> cases decide (at_≤1000000) <;> simp [hb]
end Go.Proofs.YtkpgggfibljflaaGreatDoor
namespace Go.Proofs.YtkpgggfibljflaaGreatDoor
open Go Go.RowKit Go.Proofs
section
variable {α β:Type} [DecidableEq α] {q:α→α→Bool} (hq:∀ a b,q a b=true↔a=b)
include hq
theorem Ic (a:α):q a a=true:=(hq a a).2 rfl
theorem Ha (k k':α) (v:β):∀ m:List (α×β),mget q (mput q m k v) k' = if k=k' then some v else mget q m k'
  | []=>by
    unfold mput mget mget
    by_cases h:k=k'
    · subst h; simp [Ic hq]
    · have:q k k' = false:=by
        cases hh:q k k' with
        | false=>rfl
        | true=>exact absurd ((hq _ _).1 hh) h
      rw [this,if_neg h]; rfl
  | p::r=>by
    have ih:=Ha k k' v r
    unfold mput
    cases hp:q p.1 k with
    | true =>
      have hpk:=(hq _ _).1 hp
      simp only [cond_true]
      unfold mget
      by_cases h:k=k'
      · subst h; simp [Ic hq]
      · have h1:q k k' = false:=by
          cases hh:q k k' with
          | false=>rfl
          | true=>exact absurd ((hq _ _).1 hh) h
        have h2:q p.1 k' = false:=by rw [hpk]; exact h1
        simp only [h1,h2,cond_false,if_neg h]
    | false =>
      simp only [cond_false]
      unfold mget
      cases hp2:q p.1 k' with
      | true =>
        have hpk:=(hq _ _).1 hp2
        have:k≠k':=fun h=>by
          rw [h,← hpk] at hp
          rw [Ic hq] at hp; cases hp
        rw [if_neg this]; rfl
      | false=>simpa using ih
theorem IL (m:List (α×β)) (k k':α) (v:β):mhas q (mput q m k v) k' = true↔k=k'∨mhas q m k' = true:=by
  unfold mhas
  rw [Ha hq]
  by_cases h:k=k' <;> simp [h]
end
theorem Ie (a b:Who):keq227 a b=true↔a=b:=by
  obtain⟨a1,a2⟩:=a
  obtain⟨b1,b2⟩:=b
  simp [keq227]
theorem J3 (a b:ByteArray):keq9 a b=true↔a=b:=by simp [keq9]
def Hr (r:Record):Prop:=0≤r.kind.n∧r.kind.n≤2
def AM (v a:Record):Bool:=decide (v.machine=a.machine) && (decide (v.seq=a.seq) && (decide (v.minute=a.minute) && (decide (v.kind.n=a.kind.n) && (decide (v.a=a.a) && (decide (v.b=a.b) && true)))))
theorem H9 {n:Nat} {l:List Record} {v:Record} (hl:l.length≤1000) (h:l.length<n):fslices_Contains_Record n l v=some (l.any (AM v),()):=by
  have H:∀ (n i:Nat),l.length-i<n→i≤l.length→((l.drop i).any (AM v)=false→fslices_Index_Record_l1 n l v (l.length:Int) (i:Int)=some (.inl (v,())))∧((l.drop i).any (AM v)=true→∃ k:Nat,fslices_Index_Record_l1 n l v (l.length:Int) (i:Int)=some (.inr (v,((k:Int),())))):=by
    intro n
    induction n with
    | zero=>intro i h; exact absurd h (Nat.not_lt_zero _)
    | succ n ih =>
      intro i h hi
      rw [fslices_Index_Record_l1]
      by_cases hx:i<l.length
      · have hd:l.drop i=l[i]::l.drop (i+1):=List.drop_eq_getElem_cons hx
        rw [show decide ((i:Int)<(l.length:Int))=true by simp; omega,cond_true,Bb hx,Option.bind_some,hd,wN i (by omega),List.any_cons]
        change ((AM v l[i] || (l.drop (i+1)).any (AM v))=false→(bif AM v l[i] then _ else _)=_)∧((AM v l[i] || (l.drop (i+1)).any (AM v))=true→∃ k:Nat,(bif AM v l[i] then _ else _)=_)
        cases AM v l[i] with
        | true=>exact⟨(fun h=>by cases h),fun _=>⟨i,rfl⟩⟩
        | false=>simpa using ih (i+1) (by omega) (by omega)
      · have hd:l.drop i=[]:=by simp; omega
        rw [show decide ((i:Int)<(l.length:Int))=false by simp; omega,hd]
        exact⟨fun _=>rfl,fun h=>by cases h⟩
  obtain⟨h1,h2⟩:=H n 0 (by omega) (by omega)
  rw [show((0:Nat):Int)=0 from rfl,List.drop_zero] at h1 h2
  unfold fslices_Contains_Record fslices_Index_Record
  cases hc:l.any (AM v) with
  | false=>rw [h1 hc]; rfl
  | true =>
    obtain⟨k,hk⟩:=h2 hc
    rw [hk]
    simp
def AD (r:Record):Bool:=Bj r.machine 0 999 && (Bj r.seq 1 9999 && (Bj r.minute 0 1000000 && (bif decide (r.kind.n=0) then Bj r.a 0 99 && Bj r.b 0 10000 else bif decide (r.kind.n=1) then Bj r.a 0 1000000 && decide (r.b=0) else Bj r.a 0 9999 && Bj r.b 0 10000000)))
theorem IM (n:Nat) (r:Record) (hk:Hr r):fsheet_Record_valid n r=some (AD r,()):=by
  obtain⟨hk0,hk1⟩:=hk
  have h4:r.kind.n=0∨r.kind.n=1∨r.kind.n=2:=by omega
  unfold fsheet_Record_valid AD Bj
  obtain⟨machine,seq,minute,⟨k⟩,a,b⟩:=r
  simp only at h4 ⊢
  cases decide (0≤machine) with
  | false=>rfl
  | true =>
  cases decide (machine≤999) with
  | false=>rfl
  | true =>
  cases decide (1≤seq) with
  | false=>rfl
  | true =>
  cases decide (seq≤9999) with
  | false=>rfl
  | true =>
  cases decide (0≤minute) with
  | false=>rfl
  | true =>
  cases decide (minute≤1000000) with
  | false=>rfl
  | true =>
  rcases h4 with rfl | rfl | rfl
  · show(bif decide (0≤a) then(bif decide (a≤99) then(bif decide (0≤b) then(some (decide (b≤10000),())) else some (false,())) else some (false,())) else some (false,()))=_
    cases decide (0≤a) <;> cases decide (a≤99) <;> cases decide (0≤b) <;> simp
  · show(bif decide (0≤a) then(bif decide (a≤1000000) then(some (decide (b=0),())) else some (false,())) else some (false,()))=_
    cases decide (0≤a) <;> cases decide (a≤1000000) <;> simp
  · show(bif decide (0≤a) then(bif decide (a≤9999) then(bif decide (0≤b) then(some (decide (b≤10000000),())) else some (false,())) else some (false,())) else some (false,()))=_
    cases decide (0≤a) <;> cases decide (a≤9999) <;> cases decide (0≤b) <;> simp
theorem CK {α A B:Type} {F:Nat→Int→Option (A ⊕ B)} {G:Nat→Int→α→Option (A ⊕ B)} (l:List α) (p:α→Bool) (okv:A) (bad:Int→B) (N:Nat) (hl:l.length≤4000000000000000000)
    (hF:∀ n i,F (n+1) i=bif decide (i<(l.length:Int)) then(idx l i).bind (G n i) else some (.inl okv))
    (hG:∀ n (i:Nat) (hi:i<l.length),N≤n→G n (i:Int) l[i]=bif p l[i] then F n (IntKind.i64.wrap ((i:Int)+1)) else some (.inr (bad (i:Int)))) {n:Nat} (hn:N+l.length<n) :
    (l.all p=true→F n 0=some (.inl okv))∧(l.all p=false→∃ k:Nat,F n 0=some (.inr (bad (k:Int)))):=by
  have key:=GS (F:=fun n (_:Unit) i=>F n i) (l:=l) (N:=N) (T:=fun s i a=>bif p a then .inl s else .inr (.inr (bad (i:Int)))) (E:=fun _=>.inl okv)
    (B:=fun n _ i v0=>G n i v0) (fun _ _=>True) (fun n _ i=>hF n i) (fun n s i hi hN _=>by
      rw [hG n i hi hN]
      cases p l[i]
      · rfl
      · exact⟨rfl,trivial⟩) hl l.length () 0 n (by simp) (by omega) trivial
  rw [show((0:Nat):Int)=0 from rfl,List.drop_zero] at key
  obtain⟨h1,h2⟩:=Hq (R:=A ⊕ B) p (fun i=>.inr (bad (i:Int))) (.inl okv) l 0
  exact⟨fun h=>by rw [key,h1 h],fun h=>by obtain⟨k,hk⟩:=h2 h; exact⟨k,by rw [key,hk]⟩⟩
def FM (lists:List (List Record)):Int:=if 6<lists.length then 3 else bif lists.all (fun l=>decide (l.length≤60)) then(bif lists.all (fun l=>l.all AD) then 0 else 1) else 3
theorem Ig (lists:List (List Record)):FM lists=0∨FM lists=1∨FM lists=3:=by
  unfold FM
  split
  · simp
  · cases lists.all (fun l=>decide (l.length≤60)) <;> cases lists.all (fun l=>l.all AD) <;> simp
theorem GF {n:Nat} {l:List Record} (hk:∀ r∈l,Hr r) (hl:l.length≤1000) (h:l.length<n) :
    (l.all AD=true→fsheet_checked_i1 n l (l.length:Int) 0=some (.inl ((((),()),()),())))∧(l.all AD=false→∃ k:Nat,fsheet_checked_i1 n l (l.length:Int) 0=some (.inr ((((),()),()),((k:Int),())))):=CK (F:=fun n i=>fsheet_checked_i1 n l (l.length:Int) i) (G:=fun n i v0=>(fsheet_Record_valid n v0).bind fun v1=>bif !v1.fst then(some (.inr ((((),()),()),(i,())))) else fsheet_checked_i1 n l (l.length:Int) (IntKind.i64.wrap (i+1))) l AD ((((),()),()),()) (fun i=>((((),()),()),(i,()))) 0 (by omega) (fun _ _=>rfl) (fun n i hi _=>by
    rw [IM n _ (hk _ (List.getElem_mem hi))]
    cases AD l[i] <;> rfl) (n:=n) (by omega)
theorem GG {n:Nat} {lists:List (List Record)} (hl:lists.length≤1000) (h:lists.length<n) :
    (lists.all (fun l=>decide (l.length≤60))=true→fsheet_checked_i2 n lists (lists.length:Int) 0=some (.inl ((((),()),()),())))∧(lists.all (fun l=>decide (l.length≤60))=false→∃ k:Nat,fsheet_checked_i2 n lists (lists.length:Int) 0=some (.inr ((((),()),()),((k:Int),())))):=CK (F:=fun n i=>fsheet_checked_i2 n lists (lists.length:Int) i) (G:=fun n i v0=>bif !decide ((v0.length:Int)≤60) then(some (.inr ((((),()),()),(i,())))) else fsheet_checked_i2 n lists (lists.length:Int) (IntKind.i64.wrap (i+1))) lists (fun l=>decide (l.length≤60)) ((((),()),()),()) (fun i=>((((),()),()),(i,()))) 0 (by omega) (fun _ _=>rfl) (fun n i hi _=>by
    have:decide ((lists[i].length:Int)≤60)=decide (lists[i].length≤60):=by
      by_cases h:lists[i].length≤60
      · rw [decide_eq_true h]; exact decide_eq_true (by omega)
      · rw [decide_eq_false h]; exact decide_eq_false (by omega)
    rw [this]
    cases decide (lists[i].length≤60) <;> rfl) (n:=n) (by omega)
theorem GH {n:Nat} {lists:List (List Record)} (hk:∀ l∈lists,∀ r∈l,Hr r) (hl:lists.length≤1000) (hl2:∀ l∈lists,l.length≤1000) (h:1001+lists.length<n) :
    (lists.all (fun l=>l.all AD)=true→fsheet_checked_i3 n lists (lists.length:Int) 0=some (.inl ((((),()),()),())))∧(lists.all (fun l=>l.all AD)=false→∃ k:Nat,fsheet_checked_i3 n lists (lists.length:Int) 0=some (.inr ((((),()),()),((k:Int),())))):=CK (F:=fun n i=>fsheet_checked_i3 n lists (lists.length:Int) i) (G:=fun n i v0=>(fsheet_checked_i1 n v0 (v0.length:Int) 0).bind fun v1=>Sum.elim (fun v2=>fsheet_checked_i3 n lists (lists.length:Int) (IntKind.i64.wrap (i+1))) (fun v2=>bif !!decide (v2.snd.fst≥0) then(some (.inr ((((),()),()),(i,())))) else fsheet_checked_i3 n lists (lists.length:Int) (IntKind.i64.wrap (i+1))) (v1)) lists (fun l=>l.all AD) ((((),()),()),()) (fun i=>((((),()),()),(i,()))) 1001 (by omega) (fun _ _=>rfl) (fun n i hi hn=>by
    obtain⟨h1,h2⟩:=GF (n:=n) (l:=lists[i]) (hk _ (List.getElem_mem hi)) (hl2 _ (List.getElem_mem hi)) (by have:=hl2 _ (List.getElem_mem hi); omega)
    cases ha:lists[i].all AD with
    | true=>rw [h1 ha]; rfl
    | false =>
      obtain⟨k,hk⟩:=h2 ha
      rw [hk]
      simp only [Option.bind_some,Sum.elim_inr]
      rw [show decide ((k:Int)≥0)=true by simp]
      rfl) (n:=n) (by omega)
theorem Ih {n:Nat} {lists:List (List Record)} (hk:∀ l∈lists,∀ r∈l,Hr r) (hl:lists.length≤1000) (hl2:∀ l∈lists,l.length≤1000) (h:1001+lists.length<n):fsheet_checked n lists=some (FM lists,()):=by
  unfold fsheet_checked FM
  by_cases h6:6<lists.length
  · rw [show decide ((lists.length:Int)>6)=true by simp; omega,if_pos h6]; rfl
  · rw [show decide ((lists.length:Int)>6)=false by simp; omega,if_neg h6,Bool.not_false,cond_true]
    obtain⟨a1,a2⟩:=GG (n:=n) (lists:=lists) hl (by omega)
    obtain⟨b1,b2⟩:=GH (n:=n) hk hl hl2 h
    cases ha:lists.all (fun l=>decide (l.length≤60)) with
    | false =>
      obtain⟨k,hk⟩:=a2 ha
      rw [hk]
      simp only [Option.bind_some,Sum.elim_inr]
      rw [show decide ((k:Int)≥0)=true by simp]
      rfl
    | true =>
      rw [a1 ha]
      simp only [Option.bind_some,Sum.elim_inl]
      cases hb:lists.all (fun l=>l.all AD) with
      | false =>
        obtain⟨k,hk⟩:=b2 hb
        rw [hk]
        simp only [Option.bind_some,Sum.elim_inr]
        rw [show decide ((k:Int)≥0)=true by simp]
        rfl
      | true=>rw [b1 hb]; rfl
end Go.Proofs.YtkpgggfibljflaaGreatDoor
namespace Go.Proofs.YtkpgggfibljflaaGreatDoor
open Go Go.RowKit Go.Proofs
def DS:List (List Record)→Nat
  | []=>0
  | l::r=>l.length+DS r
theorem I5:∀ (r:List (List Record)),(∀ l∈r,l.length≤1000)→DS r≤r.length*1000
  | [],_=>by simp [DS]
  | l::r,h=>by
    have h1:=I5 r fun x hx=>h x (by simp [hx])
    have h2:=h l (by simp)
    simp only [DS,List.length_cons]
    omega
theorem HA:∀ (r:List (List Record)),r.flatten.length=DS r
  | []=>rfl
  | l::r=>by simp [DS,HA r]
theorem Em (full:List (List Record)) (hl:full.length≤1000) (hl2:∀ l∈full,l.length≤1000):∀ (n i s:Nat),full.length-i<n→i≤full.length→s≤i*1000→concatR_l1 n full (s:Int) full (full.length:Int) (i:Int)=some (full,(((s+DS (full.drop i):Nat):Int),()))
  | 0,_,_,h,_,_=>absurd h (Nat.not_lt_zero _)
  | n+1,i,s,h,hi,hs=>by
    rw [concatR_l1]
    by_cases hx:i<full.length
    · have hd:full.drop i=full[i]::full.drop (i+1):=List.drop_eq_getElem_cons hx
      have h2:=hl2 _ (List.getElem_mem hx)
      have e:IntKind.i64.wrap ((s:Int)+(full[i].length:Int))=((s+full[i].length:Nat):Int):=by rw [BU (by omega) (by omega)]; omega
      rw [show decide ((i:Int)<(full.length:Int))=true by simp; omega,cond_true,Bb hx,Option.bind_some,e,show decide (((s+full[i].length:Nat):Int)<0)=false from decide_eq_false (by omega),cond_false,wN i (by omega),Em full hl hl2 n (i+1) _ (by omega) (by omega) (by omega),hd]
      simp only [DS]
      rw [Nat.add_assoc]
    · have hd:full.drop i=[]:=by simp; omega
      rw [show decide ((i:Int)<(full.length:Int))=false by simp; omega,hd]
      simp [DS]
theorem En (full:List (List Record)) (hl:full.length≤1000) (hl2:∀ l∈full,l.length≤1000):∀ (n i:Nat)(acc:List Record),full.length-i<n→i≤full.length→acc.length≤i*1000→concatR_l2 n acc full (full.length:Int) (i:Int)=some (acc++(full.drop i).flatten,())
  | 0,_,_,h,_,_=>absurd h (Nat.not_lt_zero _)
  | n+1,i,acc,h,hi,hs=>by
    rw [concatR_l2]
    by_cases hx:i<full.length
    · have hd:full.drop i=full[i]::full.drop (i+1):=List.drop_eq_getElem_cons hx
      have h2:=hl2 _ (List.getElem_mem hx)
      rw [show decide ((i:Int)<(full.length:Int))=true by simp; omega,cond_true,Bb hx,Option.bind_some,Ad (by omega),Option.bind_some,wN i (by omega),En full hl hl2 n (i+1) _ (by omega) (by omega) (by simp; omega),hd,List.flatten_cons,List.append_assoc]
    · have hd:full.drop i=[]:=by simp; omega
      rw [show decide ((i:Int)<(full.length:Int))=false by simp; omega,hd]
      simp
theorem IN {n:Nat} {lists:List (List Record)} (hl:lists.length≤1000) (hl2:∀ l∈lists,l.length≤1000) (h:lists.length<n):concatR n lists=some (lists.flatten,()):=by
  unfold concatR
  have h1:=Em lists hl hl2 n 0 0 (by omega) (by omega) (by omega)
  have h2:=En lists hl hl2 n 0 [] (by omega) (by omega) (by simp)
  have h3:=I5 lists hl2
  rw [show((0:Nat):Int)=0 from rfl] at h1 h2
  rw [List.drop_zero,Nat.zero_add] at h1
  rw [List.drop_zero,List.nil_append] at h2
  rw [h1]
  simp only [Option.bind_some]
  rw [show(decide ((0:Int)≤((DS lists:Nat):Int)) && decide (((DS lists:Nat):Int)≤1000000000))=true by simp; omega,cond_true,Option.bind_some,h2]
  rfl
def zR:Record:=Record.mk 0 0 0 (IK.mk 0) 0 0
def BR (r:Record):Who:=Who.mk r.machine r.seq
def I6:List (Who×Record)→List Record→List Record→Option (List Record)
  | _,o,[]=>some o
  | m,o,r::l=>bif mhas keq227 m (BR r) then(bif AM (mgetD keq227 m (BR r) zR) r then I6 m o l else none) else I6 (mput keq227 m (BR r) r) (o++[r]) l
theorem Eo (full:List Record) (hl:full.length≤1000000):∀ (n i:Nat)(m:List (Who×Record))(o:List Record),full.length-i<n→i≤full.length→o.length≤i→match I6 m o (full.drop i) with
    | some o'=>∃ m',fsheet_merged_l1 n m o full (full.length:Int) (i:Int)=some (.inl (m',(o',())))
    | none=>∃ m',fsheet_merged_l1 n m o full (full.length:Int) (i:Int)=some (.inr (m',([],(6,()))))
  | 0,_,_,_,h,_,_=>absurd h (Nat.not_lt_zero _)
  | n+1,i,m,o,h,hi,ho=>by
    rw [fsheet_merged_l1]
    by_cases hx:i<full.length
    · have hd:full.drop i=full[i]::full.drop (i+1):=List.drop_eq_getElem_cons hx
      rw [show decide ((i:Int)<(full.length:Int))=true by simp; omega,cond_true,Bb hx,Option.bind_some,hd,wN i (by omega)]
      have ih:=fun m o=>Eo full hl n (i+1) m o (by omega) (by omega)
      have happ:app o [full[i]]=some (o++[full[i]]):=Ad (by simp; omega)
      unfold I6
      change match (bif mhas keq227 m (BR full[i]) then(bif AM (mgetD keq227 m (BR full[i]) zR) full[i] then I6 m o (full.drop (i+1)) else none) else I6 (mput keq227 m (BR full[i]) full[i]) (o++[full[i]]) (full.drop (i+1))) with
        | some o'=>∃ m',(bif mhas keq227 m (BR full[i]) then(bif !AM (mgetD keq227 m (BR full[i]) zR) full[i] then _ else(bif !mhas keq227 m (BR full[i]) then _ else _)) else(bif !mhas keq227 m (BR full[i]) then _ else _))=_
        | none=>∃ m',(bif mhas keq227 m (BR full[i]) then(bif !AM (mgetD keq227 m (BR full[i]) zR) full[i] then _ else(bif !mhas keq227 m (BR full[i]) then _ else _)) else(bif !mhas keq227 m (BR full[i]) then _ else _))=_
      cases hm:mhas keq227 m (BR full[i]) with
      | true =>
        cases AM (mgetD keq227 m (BR full[i]) zR) full[i] with
        | true =>
          simp only [cond_true,Bool.not_true,cond_false]
          exact ih m o (by omega)
        | false=>exact⟨m,rfl⟩
      | false =>
        simp only [cond_true,Bool.not_false,cond_false]
        rw [happ]
        simp only [Option.bind_some]
        exact ih _ _ (by simp; omega)
    · have hd:full.drop i=[]:=by simp; omega
      rw [show decide ((i:Int)<(full.length:Int))=false by simp; omega,hd]
      exact⟨m,rfl⟩
def KH (a b:Record):Bool:=decide (a.machine=b.machine) && decide (a.minute>b.minute)
def HB:List Record→Bool
  | a::b::r=>!KH a b && HB (b::r)
  | _=>true
theorem Ep (full:List Record) (hl:full.length≤1000000):∀ (n i:Nat),full.length-i<n→i≤full.length→fsheet_merged_l2 n full (full.length:Int) (i:Int)=some (bif HB (full.drop (i-1)) then .inl (full,()) else .inr ([],(6,())))
  | 0,_,h,_=>absurd h (Nat.not_lt_zero _)
  | n+1,i,h,hi=>by
    rw [fsheet_merged_l2]
    by_cases hx:i<full.length
    · rw [show decide ((i:Int)<(full.length:Int))=true by simp; omega,cond_true,Bb hx,Option.bind_some,show((i:Nat):Int).toNat=i from rfl,Hz hx,Option.bind_some,wN i (by omega)]
      have ih:=Ep full hl n (i+1) (by omega) (by omega)
      rw [show i+1-1=i by omega] at ih
      by_cases h0:i=0
      · subst h0
        rw [show decide (((0:Nat):Int)>0)=false from rfl,cond_false,ih]
      · have hx1:i-1<full.length:=by omega
        have e:IntKind.i64.wrap ((i:Int)-1)=((i-1:Nat):Int):=by rw [BU (by omega) (by omega)]; omega
        rw [show decide ((i:Int)>0)=true from decide_eq_true (by omega),cond_true,e,Bb hx1,Option.bind_some,show((i-1:Nat):Int).toNat=i-1 from rfl,Hz hx1,Option.bind_some]
        simp only [Option.bind_some]
        have hd:full.drop (i-1)=full[i-1]::full[i]::full.drop (i+1):=by
          rw [List.drop_eq_getElem_cons hx1,show i-1+1=i by omega,List.drop_eq_getElem_cons hx]
        have hd2:full.drop i=full[i]::full.drop (i+1):=List.drop_eq_getElem_cons hx
        rw [hd2] at ih
        rw [hd,ih]
        simp only [HB,KH]
        cases decide (full[i-1].machine=full[i].machine) <;> cases decide (full[i-1].minute>full[i].minute) <;> simp
    · have hi':i=full.length:=by omega
      rw [show decide ((i:Int)<(full.length:Int))=false by simp; omega,cond_false]
      have:HB (full.drop (i-1))=true:=by
        rcases Nat.eq_zero_or_pos full.length with h0 | h0
        · have:full=[]:=List.length_eq_zero_iff.1 h0
          subst this
          simp [HB]
        · have hx1:i-1<full.length:=by omega
          rw [List.drop_eq_getElem_cons hx1,show i-1+1=full.length by omega,List.drop_length]
          rfl
      rw [this]; rfl
theorem Hb {α:Type} (eq:α→α→Bool) (x:α):∀ l,distB eq (l++[x])=(distB eq l && !l.any (fun a=>eq a x))
  | []=>by simp [distB]
  | y::r=>by
    rw [List.cons_append,distB,distB,Hb eq x r,List.any_append,List.any_cons]
    simp only [List.any_cons,List.any_nil,Bool.or_false]
    cases r.any (eq y) <;> cases eq y x <;> cases distB eq r <;> cases r.any (fun a=>eq a x) <;> rfl
def KE (a b:Record):Bool:=a.machine == b.machine && a.seq == b.seq
theorem Ki {a b:Record}:KE a b=true↔BR a=BR b:=by simp [KE,BR]
theorem Gl:∀ (l:List Record)(m:List (Who×Record))(o o':List Record),I6 m o l=some o'→(∀ a∈o,mhas keq227 m (BR a)=true)→distB KE o=true→distB KE o' = true
  | [],m,o,o',h,_,hd=>by cases h; exact hd
  | r::l,m,o,o',h,hm,hd=>by
    unfold I6 at h
    cases hr:mhas keq227 m (BR r) with
    | true =>
      rw [hr,cond_true] at h
      cases hs:AM (mgetD keq227 m (BR r) zR) r with
      | true=>rw [hs,cond_true] at h; exact Gl l m o o' h hm hd
      | false=>rw [hs] at h; cases h
    | false =>
      rw [hr,cond_false] at h
      refine Gl l _ _ o' h (fun a ha=>?_) ?_
      · rw [IL Ie]
        rcases List.mem_append.1 ha with ha | ha
        · exact .inr (hm a ha)
        · rw [List.mem_singleton.1 ha]; exact .inl rfl
      · rw [Hb,hd,Bool.true_and]
        have:o.any (fun a=>KE a r)=false:=by
          rw [List.any_eq_false]
          intro a ha he
          have:=hm a ha
          rw [Ki.1 he,hr] at this; cases this
        rw [this]; rfl
theorem Hs:∀ (l:List Record)(m:List (Who×Record))(o o':List Record),I6 m o l=some o'→∀ a∈o',a∈o∨a∈l
  | [],m,o,o',h=>by cases h; exact fun a ha=>.inl ha
  | r::l,m,o,o',h=>by
    unfold I6 at h
    cases hr:mhas keq227 m (BR r) with
    | true =>
      rw [hr,cond_true] at h
      cases hs:AM (mgetD keq227 m (BR r) zR) r with
      | true =>
        rw [hs,cond_true] at h
        intro a ha
        rcases Hs l m o o' h a ha with h' | h'
        · exact .inl h'
        · exact .inr (by simp [h'])
      | false=>rw [hs] at h; cases h
    | false =>
      rw [hr,cond_false] at h
      intro a ha
      rcases Hs l _ _ o' h a ha with h' | h'
      · rcases List.mem_append.1 h' with h' | h'
        · exact .inl h'
        · exact .inr (by rw [List.mem_singleton.1 h']; simp)
      · exact .inr (by simp [h'])
theorem Ht:∀ (l:List Record)(m:List (Who×Record))(o o':List Record),I6 m o l=some o'→o'.length≤o.length+l.length
  | [],m,o,o',h=>by cases h; simp
  | r::l,m,o,o',h=>by
    unfold I6 at h
    cases hr:mhas keq227 m (BR r) with
    | true =>
      rw [hr,cond_true] at h
      cases hs:AM (mgetD keq227 m (BR r) zR) r with
      | true =>
        rw [hs,cond_true] at h
        have:=Ht l m o o' h
        simp; omega
      | false=>rw [hs] at h; cases h
    | false =>
      rw [hr,cond_false] at h
      have:=Ht l _ _ o' h
      simp at this ⊢; omega
theorem Er {α:Type}:∀ (l:List α),lenN l=l.length
  | []=>rfl
  | a::l=>by simp [lenN,Er l]
theorem Kj {o:List Record} (hl:o.length≤1000000) (hr:∀ a∈o,AD a=true) (hd:distB KE o=true):srtR o=some (srtB leR o):=by
  unfold srtR
  have h1:Nat.blt (lenN o) 4611686018427387904=true:=by rw [Er]; exact Nat.ble_eq_true_of_le (by omega)
  have h2:o.all (fun a=>smI a.machine && smI a.seq)=true:=by
    rw [List.all_eq_true]
    intro a ha
    have:=hr a ha
    unfold AD at this
    simp only [Bool.and_eq_true,Cm] at this
    simp [smI]; omega
  have h3:distB (fun a b:Record=>a.machine == b.machine && a.seq == b.seq) o=true:=hd
  rw [h1,h2,h3]; rfl
def DB (lists:List (List Record)):Int ⊕ List Record :=
  if FM lists≠0 then .inl (FM lists) else match I6 [] [] lists.flatten with
    | none=>.inl 6
    | some o=>bif HB (srtB leR o) then .inr (srtB leR o) else .inl 6
theorem HC {lists:List (List Record)} {e:Int} (h:DB lists=.inl e):e=1∨e=3∨e=6:=by
  unfold DB at h
  have:=Ig lists
  split at h
  · cases h; omega
  · split at h
    · cases h; simp
    · rename_i o _
      cases ho:HB (srtB leR o) with
      | true=>rw [ho] at h; cases h
      | false=>rw [ho] at h; cases h; simp
theorem IP {lists:List (List Record)} (h:FM lists=0):lists.length≤6∧(∀ l∈lists,l.length≤60)∧∀ l∈lists,∀ r∈l,AD r=true:=by
  unfold FM at h
  split at h
  · omega
  · rename_i h6
    cases ha:lists.all (fun l=>decide (l.length≤60)) with
    | false=>rw [ha] at h; simp at h
    | true =>
      rw [ha,cond_true] at h
      cases hb:lists.all (fun l=>l.all AD) with
      | false=>rw [hb] at h; simp at h
      | true=>exact⟨by omega,fun l hl=>by simpa using List.all_eq_true.1 ha l hl,fun l hl=>List.all_eq_true.1 (List.all_eq_true.1 hb l hl)⟩
theorem IQ {n:Nat} {lists:List (List Record)} (hk:∀ l∈lists,∀ r∈l,Hr r) (hl:lists.length≤1000) (hl2:∀ l∈lists,l.length≤1000) (h:1001+lists.length<n):fsheet_merged n lists=some (match DB lists with | .inl e=>([],(e,())) | .inr s=>(s,(0,()))):=by
  unfold fsheet_merged DB
  rw [Ih hk hl hl2 h,Option.bind_some]
  simp only
  by_cases hc:FM lists=0
  · rw [hc,show((0:Int) != 0)=false from rfl,cond_false,if_neg (by simp)]
    obtain⟨h6,h60,hR⟩:=IP hc
    have hs:DS lists≤360:=by
      have H:∀ (r:List (List Record)),(∀ l∈r,l.length≤60)→DS r≤r.length*60:=by
        intro r
        induction r with
        | nil=>intro _; simp [DS]
        | cons l r ih =>
          intro h
          have h1:=ih fun x hx=>h x (by simp [hx])
          have h2:=h l (by simp)
          simp only [DS,List.length_cons]
          omega
      have:=H lists h60
      omega
    have hfl:=HA lists
    rw [IN hl hl2 (by omega),Option.bind_some]
    simp only
    have h1:=Eo lists.flatten (by omega) n 0 [] [] (by omega) (by omega) (by simp)
    rw [show((0:Nat):Int)=0 from rfl,List.drop_zero] at h1
    cases hm:I6 [] [] lists.flatten with
    | none =>
      rw [hm] at h1
      obtain⟨m',e⟩:=h1
      rw [e]; rfl
    | some o =>
      rw [hm] at h1
      obtain⟨m',e⟩:=h1
      have hol:o.length≤360:=by
        have:=Ht _ _ _ _ hm
        rw [List.length_nil,Nat.zero_add] at this
        omega
      have hod:=Gl _ _ _ _ hm (by simp) rfl
      have hos:=Hs _ _ _ _ hm
      have hor:∀ a∈o,AD a=true:=fun a ha=>by
        rcases hos a ha with h' | h'
        · simp at h'
        · obtain⟨l,hl1,hl2⟩:=List.mem_flatten.1 h'
          exact hR l hl1 a hl2
      have hsl:(srtB leR o).length=o.length:=El _ _
      have h2:=Ep (srtB leR o) (by omega) n 0 (by omega) (by omega)
      rw [show((0:Nat):Int)=0 from rfl,List.drop_zero] at h2
      rw [e]
      simp only [Option.bind_some,Sum.elim_inl]
      rw [Kj (by omega) hor hod]
      simp only [Option.bind_some]
      rw [h2]
      cases HB (srtB leR o) <;> rfl
  · rw [show(FM lists != 0)=true by simpa using hc,cond_true,if_pos hc]
def DT (lists:List (List Record)):Int:=match DB lists with
  | .inl e=>e
  | .inr s=>if 60<s.length then 3 else 0
theorem J4 {n:Nat} {lists:List (List Record)} (hk:∀ l∈lists,∀ r∈l,Hr r) (hl:lists.length≤1000) (hl2:∀ l∈lists,l.length≤1000) (h:1001+lists.length<n):∃ x,fsheet_Merge n lists=some (x,(DT lists,())):=by
  unfold fsheet_Merge DT
  rw [IQ hk hl hl2 h,Option.bind_some]
  cases hm:DB lists with
  | inl e =>
    have:=HC hm
    simp only
    rw [show(e != 0)=true by simp; omega]
    exact⟨_,rfl⟩
  | inr s =>
    simp only
    rw [show((0:Int) != 0)=false from rfl,cond_false]
    by_cases h60:60<s.length
    · rw [show decide ((s.length:Int)>60)=true from decide_eq_true (by omega),if_pos h60]; exact⟨_,rfl⟩
    · rw [show decide ((s.length:Int)>60)=false from decide_eq_false (by omega),if_neg h60]; exact⟨_,rfl⟩
end Go.Proofs.YtkpgggfibljflaaGreatDoor
namespace Go.Proofs.YtkpgggfibljflaaGreatDoor
open Go Go.RowKit Go.Proofs
def wkOk (w:Week):Prop:=w.days=7∧w.rest=600∧w.run=5∧w.hours=3000∧w.duties.length≤13∧w.drivers.length≤7∧∀ d∈w.drivers,∃ k off,d=Driver.mk [k] [] [] off 0 0
def F5 (d:Duty):Bool:=Bj d.day 0 6 && (Bj d.on 0 1439 && (decide (d.on≤d.off.lo) && (decide (d.off.lo≤d.off.hi) && (decide (d.off.hi≤d.on+1440) && Bj d.route 0 15))))
def HD (d:Driver):Bool:=(d.knows.all fun k=>Bj k 0 15) && Bj d.off (-10080) 1440
theorem Kk (n:Nat) (w:Week) (d:Duty) (hw:w.days=7):froster_Week_duty n w d=some (F5 d,()):=by
  unfold froster_Week_duty F5 Bj
  rw [hw,show IntKind.i64.wrap (7-1)=6 from rfl]
  cases decide (0≤d.day) with
  | false=>rfl
  | true =>
  cases decide (d.day≤6) with
  | false=>rfl
  | true =>
  by_cases h0:0≤d.on
  · by_cases h1:d.on≤1439
    · rw [decide_eq_true h0,decide_eq_true h1,BU (x:=d.on+1440) (by omega) (by omega)]
      cases decide (d.on≤d.off.lo) <;> cases decide (d.off.lo≤d.off.hi) <;> cases decide (d.off.hi≤d.on+1440) <;> cases decide (0≤d.route) <;> simp
    · rw [decide_eq_true h0,decide_eq_false h1]; rfl
  · rw [decide_eq_false h0]; rfl
theorem IS (n:Nat) (k lo hi:Int):froster_rises (n+2) [k] lo hi=some (Bj k lo hi,()):=by
  show((bif decide (lo≤k) then(bif !!decide (k≤hi) then _ else some (.inr (false,()))) else some (.inr (false,()))):Option (Unit ⊕ ((Bool×Unit)))).bind _=_
  unfold Bj
  cases decide (lo≤k) <;> cases decide (k≤hi) <;> rfl
theorem IT (n:Nat) (lo hi:Int):froster_rises (n+1) [] lo hi=some (true,()):=rfl
theorem IU (n:Nat) (w:Week) (d:Driver) (hw:w.days=7) (hh:w.hours=3000) (hd:∃ k off,d=Driver.mk [k] [] [] off 0 0):froster_Week_driver (n+2) w d=some (HD d,()):=by
  obtain⟨k,off,rfl⟩:=hd
  unfold froster_Week_driver HD
  rw [hw,hh,IS]
  simp only [Option.bind_some,IT]
  simp only [List.all_cons,List.all_nil,Bool.and_true]
  unfold Bj
  cases (decide (0≤k) && decide (k≤15)) <;> cases decide (-10080≤off) <;> cases decide (off≤1440) <;> rfl
def Ba (w:Week):Int:=if 12<w.duties.length then 3 else if 6<w.drivers.length then 3 else bif w.duties.all F5 then(bif w.drivers.all HD then 0 else 1) else 1
theorem Ii {n:Nat} {w:Week} (hw:wkOk w) (h:20<n) :
    (w.duties.all F5=true→froster_CheckWeek_i1 n w.duties w (w.duties.length:Int) 0=some (.inl ((((w,()),()),()),())))∧(w.duties.all F5=false→∃ k:Nat,froster_CheckWeek_i1 n w.duties w (w.duties.length:Int) 0=some (.inr ((((w,()),()),()),((k:Int),())))) :=
  CK (F:=fun n i=>froster_CheckWeek_i1 n w.duties w (w.duties.length:Int) i) (G:=fun n i v0=>(froster_Week_duty n w v0).bind fun v1=>bif !v1.fst then(some (.inr ((((w,()),()),()),(i,())))) else froster_CheckWeek_i1 n w.duties w (w.duties.length:Int) (IntKind.i64.wrap (i+1))) w.duties F5 ((((w,()),()),()),()) (fun i=>((((w,()),()),()),(i,()))) 0 (by have:=hw.2.2.2.2.1; omega) (fun _ _=>rfl) (fun n i hi _=>by
    rw [Kk n w _ hw.1]
    cases F5 w.duties[i] <;> rfl) (n:=n) (by have:=hw.2.2.2.2.1; omega)
theorem Ij {n:Nat} {w:Week} (hw:wkOk w) (h:20<n) :
    (w.drivers.all HD=true→froster_CheckWeek_i2 n w.drivers w (w.drivers.length:Int) 0=some (.inl ((((w,()),()),()),())))∧(w.drivers.all HD=false→∃ k:Nat,froster_CheckWeek_i2 n w.drivers w (w.drivers.length:Int) 0=some (.inr ((((w,()),()),()),((k:Int),())))) :=
  CK (F:=fun n i=>froster_CheckWeek_i2 n w.drivers w (w.drivers.length:Int) i) (G:=fun n i v0=>(froster_Week_driver n w v0).bind fun v1=>bif !v1.fst then(some (.inr ((((w,()),()),()),(i,())))) else froster_CheckWeek_i2 n w.drivers w (w.drivers.length:Int) (IntKind.i64.wrap (i+1))) w.drivers HD ((((w,()),()),()),()) (fun i=>((((w,()),()),()),(i,()))) 2 (by have:=hw.2.2.2.2.2.1; omega) (fun _ _=>rfl) (fun n i hi hn=>by
    obtain⟨m,rfl⟩:∃ m,n=m+2:=⟨n-2,by omega⟩
    rw [IU m w _ hw.1 hw.2.2.2.1 (hw.2.2.2.2.2.2 _ (List.getElem_mem hi))]
    cases HD w.drivers[i] <;> rfl) (n:=n) (by have:=hw.2.2.2.2.2.1; omega)
theorem CL {n:Nat} {w:Week} (hw:wkOk w) (h:20<n):froster_CheckWeek n w=some (Ba w,()):=by
  unfold froster_CheckWeek Ba
  have hw':=hw
  obtain⟨h1,h2,h3,h4,_⟩:=hw'
  rw [h1,h2,h3,h4]
  by_cases h12:12<w.duties.length
  · rw [show decide ((w.duties.length:Int)>12)=true from decide_eq_true (by omega),if_pos h12]; rfl
  · rw [show decide ((w.duties.length:Int)>12)=false from decide_eq_false (by omega),if_neg h12]
    by_cases h6:6<w.drivers.length
    · rw [show decide ((w.drivers.length:Int)>6)=true from decide_eq_true (by omega),if_pos h6]; rfl
    · rw [show decide ((w.drivers.length:Int)>6)=false from decide_eq_false (by omega),if_neg h6]
      obtain⟨a1,a2⟩:=Ii hw h
      obtain⟨b1,b2⟩:=Ij hw h
      show(froster_CheckWeek_i1 n w.duties w (w.duties.length:Int) 0).bind _=_
      cases ha:w.duties.all F5 with
      | false =>
        obtain⟨k,hk⟩:=a2 ha
        rw [hk]
        simp only [Option.bind_some,Sum.elim_inr]
        rw [show decide ((k:Int)≥0)=true by simp]
        rfl
      | true =>
        rw [a1 ha]
        simp only [Option.bind_some,Sum.elim_inl]
        cases hb:w.drivers.all HD with
        | false =>
          obtain⟨k,hk⟩:=b2 hb
          rw [hk]
          simp only [Option.bind_some,Sum.elim_inr]
          rw [show decide ((k:Int)≥0)=true by simp]
          rfl
        | true=>rw [b1 hb]; rfl
end Go.Proofs.YtkpgggfibljflaaGreatDoor
namespace Go.Proofs.YtkpgggfibljflaaGreatDoor
open Go Go.RowKit Go.Proofs
abbrev Hu (x:Int):Int:=IntKind.i64.wrap x
def Hy:Stand:=Stand.mk 0 0 0 0
def Hc (s:Stand) (d:Duty) (e:Int):Stand :=
  bif decide (s.day=d.day) then Stand.mk s.free s.row (Hu (s.used+Hu (e-d.on))) s.day else
  bif s.day != Hu (d.day-1) then Stand.mk (Hu (Hu (d.day*1440)+e)) (Hu (0+1)) (Hu (s.used+Hu (e-d.on))) d.day else
  Stand.mk (Hu (Hu (d.day*1440)+e)) (Hu (s.row+1)) (Hu (s.used+Hu (e-d.on))) d.day
theorem I7 (n:Nat) (s:Stand) (d:Duty) (e:Int):froster_stand_take n s d e=some (Hc s d e,()):=by
  unfold froster_stand_take Hc
  cases decide (s.day=d.day)
  · cases s.day != IntKind.i64.wrap (d.day-1) <;> rfl
  · rfl
def DF (w:Week) (k:Int) (d:Duty) (s:Stand):Nat→Bool
  | 0=>match idx w.drivers k with
    | some v=>v.knows.any fun x=>decide (d.route=x)
    | none=>true
  | 1=>true
  | 2=>s.day != d.day
  | 3=>bif !decide (s.day=d.day) then decide (Hu (Hu (Hu (d.day*1440)+d.on)-s.free)≥w.rest) else true
  | _=>bif !decide (s.day=d.day) then decide ((Hc s d d.on).row≤w.run) else true
theorem J5 {n:Nat} {w:Week} {k:Int} {d:Duty} {s:Stand} {v:Driver} (hv:idx w.drivers k=some v) (hk:∃ x off,v=Driver.mk [x] [] [] off 0 0):froster_Week_knows (n+2) w k d s=some (DF w k d s 0,()):=by
  obtain⟨x,off,rfl⟩:=hk
  unfold froster_Week_knows DF
  rw [hv]
  show((bif decide (d.route=x) then some (.inr (0,())) else some (.inl ()):Option (Unit ⊕ (Int×Unit))).bind _)=_
  simp only [List.any_cons,List.any_nil,Bool.or_false]
  cases decide (d.route=x) <;> rfl
theorem Kl {n:Nat} {w:Week} {k:Int} {d:Duty} {s:Stand} {v:Driver} (hv:idx w.drivers k=some v) (hk:∃ x off,v=Driver.mk [x] [] [] off 0 0):froster_Week_here (n+1) w k d s=some (DF w k d s 1,()):=by
  obtain⟨x,off,rfl⟩:=hk
  unfold froster_Week_here DF
  rw [hv]; rfl
theorem IV {n:Nat} {w:Week} {k:Int} {d:Duty} {s:Stand}:froster_Week_single n w k d s=some (DF w k d s 2,()):=rfl
theorem IW {n:Nat} {w:Week} {k:Int} {d:Duty} {s:Stand}:froster_Week_rested n w k d s=some (DF w k d s 3,()):=by
  unfold froster_Week_rested
  show _=some ((bif !decide (s.day=d.day) then decide (Hu (Hu (Hu (d.day*1440)+d.on)-s.free)≥w.rest) else true),())
  cases decide (s.day=d.day) <;> rfl
theorem J6 {n:Nat} {w:Week} {k:Int} {d:Duty} {s:Stand}:froster_Week_fresh n w k d s=some (DF w k d s 4,()):=by
  unfold froster_Week_fresh
  show _=some ((bif !decide (s.day=d.day) then decide ((Hc s d d.on).row≤w.run) else true),())
  rw [I7]
  cases decide (s.day=d.day) <;> rfl
def GI (w:Week) (k i:Int) (d:Duty) (s:Stand) (j:Nat):List Breach:=bif DF w k d s j then [] else [Breach.mk (IK.mk (j:Int)) k i]
def GJ (w:Week) (k i:Int) (d:Duty) (s:Stand):List Breach:=GI w k i d s 0++(GI w k i d s 1++(GI w k i d s 2++(GI w k i d s 3++GI w k i d s 4)))
abbrev GK:List Question:=[Question.mk (IK.mk 0) (Fp.mk (↑238:Int)),Question.mk (IK.mk 1) (Fp.mk (↑239:Int)),Question.mk (IK.mk 2) (Fp.mk (↑240:Int)),Question.mk (IK.mk 3) (Fp.mk (↑241:Int)),Question.mk (IK.mk 4) (Fp.mk (↑242:Int))]
section
variable {w:Week} {truth:List Int} {now:List Stand} {i k:Int} {d:Duty} {s:Stand} {v:Driver}
theorem KI {n:Nat} {out:List Breach} (h6:now.length.beq 6=true) (hn:idx now k=some s) (hg:now.get?Internal k.toNat=some s) (hv:idx w.drivers k=some v) (hk:∃ x off,v=Driver.mk [x] [] [] off 0 0) (ho:out.length≤1000) :
    froster_Week_broken_l2 (n+3) w truth out now i d k GK 5 0=froster_Week_broken_l2 (n+2) w truth (out++GI w k i d s 0) now i d k GK 5 1:=by
  rw [froster_Week_broken_l2]
  show(bif now.length.beq 6 then((idx now k).bind fun v2=>(now.get?Internal k.toNat).bind fun v3=>((froster_Week_knows (n+2) w k d v3).bind fun v4=>bif !v4.fst then((app out [Breach.mk (IK.mk 0) k i]).bind fun v5=>froster_Week_broken_l2 (n+2) w truth v5 now i d k GK 5 1) else froster_Week_broken_l2 (n+2) w truth out now i d k GK 5 1)) else none)=_
  rw [h6,cond_true,hn,Option.bind_some,hg,Option.bind_some,J5 hv hk,Option.bind_some,Ad (by simp; omega)]
  unfold GI
  cases DF w k d s 0 <;> simp
theorem KJ {n:Nat} {out:List Breach} (h6:now.length.beq 6=true) (hn:idx now k=some s) (hg:now.get?Internal k.toNat=some s) (hv:idx w.drivers k=some v) (hk:∃ x off,v=Driver.mk [x] [] [] off 0 0) (ho:out.length≤1000) :
    froster_Week_broken_l2 (n+3) w truth out now i d k GK 5 1=froster_Week_broken_l2 (n+2) w truth (out++GI w k i d s 1) now i d k GK 5 2:=by
  rw [froster_Week_broken_l2]
  show(bif now.length.beq 6 then((idx now k).bind fun v2=>(now.get?Internal k.toNat).bind fun v3=>((froster_Week_here (n+2) w k d v3).bind fun v4=>bif !v4.fst then((app out [Breach.mk (IK.mk 1) k i]).bind fun v5=>froster_Week_broken_l2 (n+2) w truth v5 now i d k GK 5 2) else froster_Week_broken_l2 (n+2) w truth out now i d k GK 5 2)) else none)=_
  rw [h6,cond_true,hn,Option.bind_some,hg,Option.bind_some,Kl hv hk,Option.bind_some,Ad (by simp; omega)]
  unfold GI
  cases DF w k d s 1 <;> simp
theorem KM {n:Nat} {out:List Breach} (h6:now.length.beq 6=true) (hn:idx now k=some s) (hg:now.get?Internal k.toNat=some s) (hv:idx w.drivers k=some v) (hk:∃ x off,v=Driver.mk [x] [] [] off 0 0) (ho:out.length≤1000) :
    froster_Week_broken_l2 (n+3) w truth out now i d k GK 5 2=froster_Week_broken_l2 (n+2) w truth (out++GI w k i d s 2) now i d k GK 5 3:=by
  rw [froster_Week_broken_l2]
  show(bif now.length.beq 6 then((idx now k).bind fun v2=>(now.get?Internal k.toNat).bind fun v3=>((froster_Week_single (n+2) w k d v3).bind fun v4=>bif !v4.fst then((app out [Breach.mk (IK.mk 2) k i]).bind fun v5=>froster_Week_broken_l2 (n+2) w truth v5 now i d k GK 5 3) else froster_Week_broken_l2 (n+2) w truth out now i d k GK 5 3)) else none)=_
  rw [h6,cond_true,hn,Option.bind_some,hg,Option.bind_some,IV,Option.bind_some,Ad (by simp; omega)]
  unfold GI
  cases DF w k d s 2 <;> simp
theorem KN {n:Nat} {out:List Breach} (h6:now.length.beq 6=true) (hn:idx now k=some s) (hg:now.get?Internal k.toNat=some s) (hv:idx w.drivers k=some v) (hk:∃ x off,v=Driver.mk [x] [] [] off 0 0) (ho:out.length≤1000) :
    froster_Week_broken_l2 (n+3) w truth out now i d k GK 5 3=froster_Week_broken_l2 (n+2) w truth (out++GI w k i d s 3) now i d k GK 5 4:=by
  rw [froster_Week_broken_l2]
  show(bif now.length.beq 6 then((idx now k).bind fun v2=>(now.get?Internal k.toNat).bind fun v3=>((froster_Week_rested (n+2) w k d v3).bind fun v4=>bif !v4.fst then((app out [Breach.mk (IK.mk 3) k i]).bind fun v5=>froster_Week_broken_l2 (n+2) w truth v5 now i d k GK 5 4) else froster_Week_broken_l2 (n+2) w truth out now i d k GK 5 4)) else none)=_
  rw [h6,cond_true,hn,Option.bind_some,hg,Option.bind_some,IW,Option.bind_some,Ad (by simp; omega)]
  unfold GI
  cases DF w k d s 3 <;> simp
theorem KO {n:Nat} {out:List Breach} (h6:now.length.beq 6=true) (hn:idx now k=some s) (hg:now.get?Internal k.toNat=some s) (hv:idx w.drivers k=some v) (hk:∃ x off,v=Driver.mk [x] [] [] off 0 0) (ho:out.length≤1000) :
    froster_Week_broken_l2 (n+3) w truth out now i d k GK 5 4=froster_Week_broken_l2 (n+2) w truth (out++GI w k i d s 4) now i d k GK 5 5:=by
  rw [froster_Week_broken_l2]
  show(bif now.length.beq 6 then((idx now k).bind fun v2=>(now.get?Internal k.toNat).bind fun v3=>((froster_Week_fresh (n+2) w k d v3).bind fun v4=>bif !v4.fst then((app out [Breach.mk (IK.mk 4) k i]).bind fun v5=>froster_Week_broken_l2 (n+2) w truth v5 now i d k GK 5 5) else froster_Week_broken_l2 (n+2) w truth out now i d k GK 5 5)) else none)=_
  rw [h6,cond_true,hn,Option.bind_some,hg,Option.bind_some,J6,Option.bind_some,Ad (by simp; omega)]
  unfold GI
  cases DF w k d s 4 <;> simp
theorem I8 (j:Nat):(GI w k i d s j).length≤1:=by
  unfold GI
  cases DF w k d s j <;> simp
theorem KP {n:Nat} {out:List Breach} (h6:now.length.beq 6=true) (hn:idx now k=some s) (hg:now.get?Internal k.toNat=some s) (hv:idx w.drivers k=some v) (hk:∃ x off,v=Driver.mk [x] [] [] off 0 0) (ho:out.length≤900) :
    froster_Week_broken_l2 (n+10) w truth out now i d k GK 5 0=some (w,((truth,()),((out++GJ w k i d s,()),(now,(d,((),((),(i,((),(k,())))))))))):=by
  have b:=fun j=>I8 (w:=w) (i:=i) (k:=k) (d:=d) (s:=s) j
  have b0:=b 0; have b1:=b 1; have b2:=b 2; have b3:=b 3
  rw [show n+10=(n+7)+3 by omega,KI h6 hn hg hv hk (by omega),show n+7+2=(n+6)+3 by omega,KJ h6 hn hg hv hk (by simp; omega),show n+6+2=(n+5)+3 by omega,KM h6 hn hg hv hk (by simp; omega),show n+5+2=(n+4)+3 by omega,KN h6 hn hg hv hk (by simp; omega),show n+4+2=(n+3)+3 by omega,KO h6 hn hg hv hk (by simp; omega)]
  rw [froster_Week_broken_l2]
  simp only [GJ,List.append_assoc]
  rfl
end
def F6 (w:Week) (roster:List Int) (day:Int) (st:List Breach×List Stand) (i:Nat) (d:Duty):List Breach×List Stand :=
  bif decide (d.day=day) then(bif decide (roster.getD i (-1)=-1) then st else
    (st.1++GJ w (roster.getD i (-1)) (i:Int) d (st.2.getD (roster.getD i (-1)).toNat Hy),st.2.set (roster.getD i (-1)).toNat (Hc (st.2.getD (roster.getD i (-1)).toNat Hy) d d.off.hi))) else st
def Es (w:Week) (roster:List Int) (day:Int):Nat→List Breach×List Stand→List Duty→List Breach×List Stand
  | _,st,[]=>st
  | i,st,d::r=>Es w roster day (i+1) (F6 w roster day st i d) r
def F7 (w:Week) (roster:List Int):Prop:=roster.length=w.duties.length∧∀ x∈roster,-1≤x∧x<(w.drivers.length:Int)
theorem HE (w:Week) (k i:Int) (d:Duty) (s:Stand):(GJ w k i d s).length≤5:=by
  have b:=fun j=>I8 (w:=w) (i:=i) (k:=k) (d:=d) (s:=s) j
  have b0:=b 0; have b1:=b 1; have b2:=b 2; have b3:=b 3; have b4:=b 4
  simp only [GJ,List.length_append]
  omega
theorem Ky {w:Week} {roster truth:List Int} (hw:wkOk w) (h6d:w.drivers.length≤6) (hro:F7 w roster) (htr:truth=w.duties.map fun d=>d.off.hi) (day:Int):∀ (n i:Nat)(st:List Breach×List Stand),100+(w.duties.length-i)<n→i≤w.duties.length→st.1.length≤500+i*5→st.2.length=6 →
    froster_Week_broken_i4 n w roster truth st.1 st.2 day w.duties (w.duties.length:Int) (i:Int)=some (.inl ((w,((roster,()),((truth,()),(((Es w roster day i st (w.duties.drop i)).1,()),((Es w roster day i st (w.duties.drop i)).2,()))))),((),((),((),((),((),((day,()),()))))))))
  | 0,_,_,h,_,_,_=>absurd h (Nat.not_lt_zero _)
  | n+1,i,st,h,hi,ho,hs=>by
    have hwl:=hw.2.2.2.2.1
    rw [froster_Week_broken_i4]
    by_cases hx:i<w.duties.length
    · have hd:w.duties.drop i=w.duties[i]::w.duties.drop (i+1):=List.drop_eq_getElem_cons hx
      have ih:=Ky hw h6d hro htr day n (i+1)
      rw [show decide ((i:Int)<(w.duties.length:Int))=true by simp; omega,cond_true,Bb hx,Option.bind_some,hd,wN i (by omega)]
      simp only [Es]
      generalize hst:F6 w roster day st i w.duties[i]=st'
      unfold F6 at hst
      cases hday:decide (w.duties[i].day=day) with
      | false =>
        rw [hday,cond_false] at hst
        subst hst
        exact ih st (by omega) (by omega) (by omega) hs
      | true =>
        rw [hday,cond_true] at hst
        have hxr:i<roster.length:=by rw [hro.1]; exact hx
        have hrg:roster.getD i (-1)=roster[i]:=by simp [List.getD,List.getElem?_eq_getElem hxr]
        rw [cond_true,Bb hxr,Option.bind_some]
        rw [hrg] at hst
        have hb:=hro.2 _ (List.getElem_mem hxr)
        generalize hk:roster[i]=k at *
        by_cases h1:k=-1
        · rw [decide_eq_true h1] at hst ⊢
          simp only [cond_true] at hst ⊢
          subst hst
          exact ih st (by omega) (by omega) (by omega) hs
        · rw [decide_eq_false h1] at hst ⊢
          simp only [cond_false] at hst ⊢
          obtain⟨j,rfl⟩:∃ j:Nat,k=j:=⟨k.toNat,by omega⟩
          have hj:j<w.drivers.length:=by omega
          have hj6:j<st.2.length:=by omega
          have hg:st.2.getD ((j:Int)).toNat Hy=st.2[j]:=by simp [List.getD,List.getElem?_eq_getElem hj6]
          rw [hg] at hst
          have h6:st.2.length.beq 6=true:=by rw [hs]; rfl
          obtain⟨m,rfl⟩:∃ m,n=m+10:=⟨n-10,by omega⟩
          have hl2:=KP (n:=m) (w:=w) (truth:=truth) (now:=st.2) (i:=(i:Int)) (k:=(j:Int)) (d:=w.duties[i]) (s:=st.2[j]) (v:=w.drivers[j]) (out:=st.1) h6 (Bb hj6) (Hz hj6) (Bb hj) (hw.2.2.2.2.2.2 _ (List.getElem_mem hj)) (by omega)
          have hl5:(([Question.mk (IK.mk 0) (Fp.mk (↑238:Int)),Question.mk (IK.mk 1) (Fp.mk (↑239:Int)),Question.mk (IK.mk 2) (Fp.mk (↑240:Int)),Question.mk (IK.mk 3) (Fp.mk (↑241:Int)),Question.mk (IK.mk 4) (Fp.mk (↑242:Int))]:List Question).length:Int)=5:=rfl
          rw [hl5,hl2]
          simp only [Option.bind_some]
          have htl:i<truth.length:=by rw [htr,List.length_map]; exact hx
          have hti:truth[i]=w.duties[i].off.hi:=by subst htr; simp
          rw [h6,cond_true,Bb hj6,Option.bind_some,show((j:Nat):Int).toNat=j from rfl,Hz hj6,Option.bind_some,Bb htl,Option.bind_some,I7,Option.bind_some,cond_true,Option.bind_some,Option.bind_some,hti]
          rw [show((j:Nat):Int).toNat=j from rfl] at hst
          have hbl:=HE w (j:Int) (i:Int) w.duties[i] st.2[j]
          rw [← hst]
          have:=ih (st.1++GJ w (j:Int) (i:Int) w.duties[i] st.2[j],st.2.set j (Hc st.2[j] w.duties[i] w.duties[i].off.hi)) (by omega) (by omega) (by simp; omega) (by simp [hs])
          exact this
    · have hd:w.duties.drop i=[]:=by simp; omega
      rw [show decide ((i:Int)<(w.duties.length:Int))=false by simp; omega,hd]
      rfl
end Go.Proofs.YtkpgggfibljflaaGreatDoor
namespace Go.Proofs.YtkpgggfibljflaaGreatDoor
open Go Go.RowKit Go.Proofs
theorem IX (w:Week) (roster:List Int) (day:Int) (st:List Breach×List Stand) (i:Nat) (d:Duty):(F6 w roster day st i d).1.length≤st.1.length+5∧(F6 w roster day st i d).2.length=st.2.length:=by
  unfold F6
  have:=HE w (roster.getD i (-1)) (i:Int) d (st.2.getD (roster.getD i (-1)).toNat Hy)
  cases decide (d.day=day)
  · exact⟨by simp,rfl⟩
  · cases decide (roster.getD i (-1)=-1)
    · exact⟨by simp only [cond_true,cond_false,List.length_append]; omega,by simp⟩
    · exact⟨by simp,rfl⟩
theorem Gm (w:Week) (roster:List Int) (day:Int):∀ (l:List Duty)(i:Nat)(st:List Breach×List Stand),(Es w roster day i st l).1.length≤st.1.length+5*l.length∧(Es w roster day i st l).2.length=st.2.length
  | [],_,st=>⟨by simp [Es],rfl⟩
  | d::l,i,st=>by
    obtain⟨h1,h2⟩:=Gm w roster day l (i+1) (F6 w roster day st i d)
    obtain⟨h3,h4⟩:=IX w roster day st i d
    simp only [Es,List.length_cons]
    exact⟨by omega,by rw [h2,h4]⟩
def Cz (w:Week) (roster:List Int):Nat→Nat→List Breach×List Stand→List Breach×List Stand
  | 0,_,st=>st
  | k+1,day,st=>Cz w roster k (day+1) (Es w roster (day:Int) 0 st w.duties)
theorem Kz {w:Week} {roster truth:List Int} (hw:wkOk w) (h6d:w.drivers.length≤6) (hro:F7 w roster) (htr:truth=w.duties.map fun d=>d.off.hi):∀ (k day n:Nat)(st:List Breach×List Stand),day+k=7→200+k<n→st.1.length≤day*65→st.2.length=6 →
    froster_Week_broken_l1 n w roster truth st.1 st.2 7 (day:Int)=some (w,((roster,()),((truth,()),(((Cz w roster k day st).1,()),((Cz w roster k day st).2,((),((),((),()))))))))
  | _,_,0,_,_,h,_,_=>absurd h (Nat.not_lt_zero _)
  | 0,day,n+1,st,hd,h,ho,hs=>by
    rw [froster_Week_broken_l1,show decide ((day:Int)<7)=false from decide_eq_false (by omega)]
    rfl
  | k+1,day,n+1,st,hd,h,ho,hs=>by
    have hwl:=hw.2.2.2.2.1
    have h4:=Ky hw h6d hro htr (day:Int) n 0 st (by omega) (by omega) (by omega) hs
    rw [show((0:Nat):Int)=0 from rfl,List.drop_zero] at h4
    obtain⟨a1,a2⟩:=Gm w roster (day:Int) w.duties 0 st
    rw [froster_Week_broken_l1,show decide ((day:Int)<7)=true from decide_eq_true (by omega),cond_true,h4,wN day (by omega)]
    simp only [Option.bind_some,Sum.elim_inl]
    have:=Kz hw h6d hro htr k (day+1) n (Es w roster (day:Int) 0 st w.duties) (by omega) (by omega) (by omega) (by omega)
    exact this
def BV (w:Week) (now:List Stand):Nat→Nat→List Breach
  | 0,_=>[]
  | k+1,i=>(bif decide ((now.getD i Hy).used>w.hours) then [Breach.mk (IK.mk 5) (i:Int) 0] else [])++BV w now k (i+1)
theorem J7 {w:Week} {now:List Stand} (h6d:w.drivers.length≤6) (hs:now.length=6):∀ (k i n:Nat)(out:List Breach),i+k=w.drivers.length→k<n→out.length≤900+i→froster_Week_broken_l3 n w out now (w.drivers.length:Int) (i:Int)=some (w,((out++BV w now k i,()),(now,((),()))))
  | _,_,0,_,_,h,_=>absurd h (Nat.not_lt_zero _)
  | 0,i,n+1,out,hk,h,ho=>by
    rw [froster_Week_broken_l3,show decide ((i:Int)<(w.drivers.length:Int))=false from decide_eq_false (by omega)]
    simp [BV]
  | k+1,i,n+1,out,hk,h,ho=>by
    have hi:i<now.length:=by omega
    have h6:now.length.beq 6=true:=by rw [hs]; rfl
    have hg:now.getD i Hy=now[i]:=by simp [List.getD,List.getElem?_eq_getElem hi]
    rw [froster_Week_broken_l3,show decide ((i:Int)<(w.drivers.length:Int))=true from decide_eq_true (by omega),cond_true,h6,cond_true,Bb hi,Option.bind_some,show((i:Nat):Int).toNat=i from rfl,Hz hi,Option.bind_some,wN i (by omega),Ad (by simp; omega)]
    simp only [BV,hg,Option.bind_some]
    cases decide (now[i].used>w.hours) with
    | true =>
      have:=J7 h6d hs k (i+1) n (out++[Breach.mk (IK.mk 5) (i:Int) 0]) (by omega) (by omega) (by simp; omega)
      simpa using this
    | false =>
      have:=J7 h6d hs k (i+1) n out (by omega) (by omega) (by omega)
      simpa using this
def By (w:Week):List Stand:=(w.drivers.map fun d=>Stand.mk d.off d.row d.used (-1))++List.replicate (6-w.drivers.length) Hy
theorem F8 (full:List Driver) (h6:full.length≤6):∀ (n i:Nat),full.length-i<n→i≤full.length→froster_Week_before_l1 n ((full.take i).map (fun d=>Stand.mk d.off d.row d.used (-1))++List.replicate (6-i) Hy) full (full.length:Int) (i:Int)=some ((full.map fun d=>Stand.mk d.off d.row d.used (-1))++List.replicate (6-full.length) Hy,((),()))
  | 0,_,h,_=>absurd h (Nat.not_lt_zero _)
  | n+1,i,h,hi=>by
    have hlen:((full.take i).map (fun d=>Stand.mk d.off d.row d.used (-1))++List.replicate (6-i) Hy).length=6:=by
      rw [List.length_append,List.length_map,List.length_take,List.length_replicate]; omega
    rw [froster_Week_before_l1]
    by_cases hx:i<full.length
    · rw [show decide ((i:Int)<(full.length:Int))=true by simp; omega,cond_true,Bb hx,Option.bind_some,hlen,show Nat.beq 6 6=true from rfl,cond_true,Bb (by omega),Option.bind_some,show((i:Nat):Int).toNat=i from rfl,Hz (by omega),Option.bind_some,wN i (by omega)]
      have:((full.take i).map (fun d=>Stand.mk d.off d.row d.used (-1))++List.replicate (6-i) Hy).set i (Stand.mk full[i].off full[i].row full[i].used (-1))=(full.take (i+1)).map (fun d=>Stand.mk d.off d.row d.used (-1))++List.replicate (6-(i+1)) Hy:=by
        rw [List.take_succ_eq_append_getElem hx,List.map_append,List.append_assoc,List.set_append_right _ _ (by rw [List.length_map,List.length_take]; omega)]
        congr 1
        rw [List.length_map,List.length_take,Nat.min_eq_left hi,Nat.sub_self,show 6-i=(6-(i+1))+1 by omega,List.replicate_succ]
        rfl
      rw [this]
      exact F8 full h6 n (i+1) (by omega) (by omega)
    · have:i=full.length:=by omega
      subst this
      rw [show decide ((full.length:Int)<(full.length:Int))=false by simp,cond_false,List.take_of_length_le (Nat.le_refl _)]
theorem IY {n:Nat} {w:Week} (h6:w.drivers.length≤6) (hn:10<n):froster_Week_before n w=some (By w,()):=by
  unfold froster_Week_before
  have h:=F8 w.drivers h6 n 0 (by omega) (by omega)
  rw [show((0:Nat):Int)=0 from rfl] at h
  have e:([Stand.mk 0 0 0 0,Stand.mk 0 0 0 0,Stand.mk 0 0 0 0,Stand.mk 0 0 0 0,Stand.mk 0 0 0 0,Stand.mk 0 0 0 0]:List Stand)=(w.drivers.take 0).map (fun d=>Stand.mk d.off d.row d.used (-1))++List.replicate (6-0) Hy:=rfl
  rw [e,h]
  have hl:((w.drivers.map fun d=>Stand.mk d.off d.row d.used (-1))++List.replicate (6-w.drivers.length) Hy).length=6:=by
    rw [List.length_append,List.length_map,List.length_replicate]; omega
  simp only [Option.bind_some,hl]
  rfl
theorem HF {w:Week} (h6:w.drivers.length≤6):(By w).length=6:=by
  unfold By
  rw [List.length_append,List.length_map,List.length_replicate]; omega
theorem Hd (full:List Duty) (hl:full.length≤1000):∀ (n i:Nat),full.length-i<n→i≤full.length→froster_Week_ends_l1 n ((full.take i).map fun d=>d.off.hi) full (full.length:Int) (i:Int)=some (full.map fun d=>d.off.hi,())
  | 0,_,h,_=>absurd h (Nat.not_lt_zero _)
  | n+1,i,h,hi=>by
    rw [froster_Week_ends_l1]
    by_cases hx:i<full.length
    · rw [show decide ((i:Int)<(full.length:Int))=true by simp; omega,cond_true,Bb hx,Option.bind_some,Ad (by rw [List.length_map,List.length_take]; simp; omega),Option.bind_some,wN i (by omega)]
      have:(full.take i).map (fun d=>d.off.hi)++[full[i].off.hi]=(full.take (i+1)).map fun d=>d.off.hi:=by
        rw [List.take_succ_eq_append_getElem hx,List.map_append]; rfl
      rw [this]
      exact Hd full hl n (i+1) (by omega) (by omega)
    · have:i=full.length:=by omega
      subst this
      rw [show decide ((full.length:Int)<(full.length:Int))=false by simp,cond_false,List.take_of_length_le (Nat.le_refl _)]
theorem Km {n:Nat} {w:Week} (h:w.duties.length≤1000) (hn:w.duties.length<n):froster_Week_ends n w=some (w.duties.map fun d=>d.off.hi,()):=by
  unfold froster_Week_ends
  have h:=Hd w.duties h n 0 (by omega) (by omega)
  rw [show((0:Nat):Int)=0 from rfl,List.take_zero,List.map_nil] at h
  rw [h]; rfl
def GL (a b:Breach):Bool:=a.driver == b.driver && a.kind.n == b.kind.n && a.duty == b.duty
theorem Ar {α:Type} (eq:α→α→Bool):∀ (a b:List α),distB eq a=true→distB eq b=true→(∀ x∈a,∀ y∈b,eq x y=false)→distB eq (a++b)=true
  | [],b,_,hb,_=>hb
  | x::a,b,ha,hb,h=>by
    unfold distB at ha
    obtain⟨h1,h2⟩:=band ha
    rw [List.cons_append]
    unfold distB
    rw [List.any_append,Ar eq a b h2 hb fun x' hx'=>h x' (by simp [hx'])]
    have:b.any (eq x)=false:=by
      rw [List.any_eq_false]
      intro y hy he
      rw [h x (by simp) y hy] at he; cases he
    rw [this,Bool.or_false,h1]; rfl
theorem Ak {w:Week} {k i:Int} {d:Duty} {s:Stand} {j:Nat} {b:Breach} (h:b∈GI w k i d s j):b=Breach.mk (IK.mk (j:Int)) k i:=by
  unfold GI at h
  cases hr:DF w k d s j with
  | true=>rw [hr] at h; cases h
  | false=>rw [hr] at h; simpa using h
theorem HG {w:Week} {k i:Int} {d:Duty} {s:Stand} {b:Breach} (h:b∈GJ w k i d s):∃ j:Nat,j≤4∧b=Breach.mk (IK.mk (j:Int)) k i:=by
  unfold GJ at h
  rcases List.mem_append.1 h with h | h
  · exact⟨0,by omega,Ak h⟩
  rcases List.mem_append.1 h with h | h
  · exact⟨1,by omega,Ak h⟩
  rcases List.mem_append.1 h with h | h
  · exact⟨2,by omega,Ak h⟩
  rcases List.mem_append.1 h with h | h
  · exact⟨3,by omega,Ak h⟩
  · exact⟨4,by omega,Ak h⟩
theorem Dk (w:Week) (k i:Int) (d:Duty) (s:Stand) (j:Nat):distB GL (GI w k i d s j)=true:=by
  unfold GI
  cases DF w k d s j <;> rfl
theorem IZ (w:Week) (k i:Int) (d:Duty) (s:Stand):distB GL (GJ w k i d s)=true:=by
  have hne:∀ (a b:Nat),a≠b→GL (Breach.mk (IK.mk (a:Int)) k i) (Breach.mk (IK.mk (b:Int)) k i)=false:=fun a b h=>by
    simp only [GL,beq_self_eq_true,Bool.true_and,Bool.and_true,beq_eq_false_iff_ne,ne_eq]; omega
  unfold GJ
  refine Ar _ _ _ (Dk ..) (Ar _ _ _ (Dk ..) (Ar _ _ _ (Dk ..) (Ar _ _ _ (Dk ..) (Dk ..) ?_) ?_) ?_) ?_
  · intro x hx y hy
    rw [Ak hx,Ak hy]; exact hne 3 4 (by omega)
  · intro x hx y hy
    rw [Ak hx]
    rcases List.mem_append.1 hy with hy | hy
    · rw [Ak hy]; exact hne 2 3 (by omega)
    · rw [Ak hy]; exact hne 2 4 (by omega)
  · intro x hx y hy
    rw [Ak hx]
    rcases List.mem_append.1 hy with hy | hy
    · rw [Ak hy]; exact hne 1 2 (by omega)
    rcases List.mem_append.1 hy with hy | hy
    · rw [Ak hy]; exact hne 1 3 (by omega)
    · rw [Ak hy]; exact hne 1 4 (by omega)
  · intro x hx y hy
    rw [Ak hx]
    rcases List.mem_append.1 hy with hy | hy
    · rw [Ak hy]; exact hne 0 1 (by omega)
    rcases List.mem_append.1 hy with hy | hy
    · rw [Ak hy]; exact hne 0 2 (by omega)
    rcases List.mem_append.1 hy with hy | hy
    · rw [Ak hy]; exact hne 0 3 (by omega)
    · rw [Ak hy]; exact hne 0 4 (by omega)
def Ik (w:Week) (day:Int) (i:Nat) (out:List Breach):Prop:=distB GL out=true∧∀ b∈out,∃ (j:Nat)(hj:j<w.duties.length),b.duty=(j:Int)∧(w.duties[j].day<day∨(w.duties[j].day=day∧j<i))∧0≤b.kind.n∧b.kind.n≤4∧0≤b.driver∧b.driver≤10
theorem I9 {w:Week} {roster:List Int} (h6d:w.drivers.length≤6) (hro:F7 w roster) (day:Int):∀ (l:List Duty)(i:Nat)(st:List Breach×List Stand),w.duties.drop i=l→Ik w day i st.1→Ik w day w.duties.length (Es w roster day i st l).1
  | [],i,st,hd,h=>by
    refine⟨h.1,fun b hb=>?_⟩
    obtain⟨j,hj,e1,e2,e3⟩:=h.2 b hb
    exact⟨j,hj,e1,e2.imp id (fun h=>⟨h.1,hj⟩),e3⟩
  | d::l,i,st,hd,h=>by
    have hx:i<w.duties.length:=by
      rcases Nat.lt_or_ge i w.duties.length with h' | h'
      · exact h'
      · rw [List.drop_eq_nil_of_le h'] at hd; cases hd
    have hd2:=List.drop_eq_getElem_cons hx
    rw [hd] at hd2
    obtain⟨e1,e2⟩:=List.cons.inj hd2
    simp only [Es]
    refine I9 h6d hro day l (i+1) _ e2.symm ?_
    have mono:∀ out,Ik w day i out→Ik w day (i+1) out:=fun out h=>⟨h.1,fun b hb=>by
      obtain⟨j,hj,e1,e2,e3⟩:=h.2 b hb
      exact⟨j,hj,e1,e2.imp id (fun h=>⟨h.1,by omega⟩),e3⟩⟩
    unfold F6
    by_cases hday:d.day=day
    · rw [decide_eq_true hday,cond_true]
      have hxr:i<roster.length:=by rw [hro.1]; exact hx
      have hrg:roster.getD i (-1)=roster[i]:=by simp [List.getD,List.getElem?_eq_getElem hxr]
      rw [hrg]
      have hb:=hro.2 _ (List.getElem_mem hxr)
      generalize roster[i]=k at *
      by_cases h1:k=-1
      · rw [decide_eq_true h1,cond_true]; exact mono _ h
      · rw [decide_eq_false h1,cond_false]
        have m:=mono _ h
        refine⟨Ar _ _ _ h.1 (IZ ..) fun x hx' y hy=>?_,fun b hb'=>?_⟩
        · obtain⟨j,hj,q1,q2,_⟩:=h.2 x hx'
          obtain⟨j',_,q4⟩:=HG hy
          have hne:x.duty≠y.duty:=by
            rw [q1,q4]
            intro hc
            have hc:(j:Int)=(i:Int):=hc
            have:j=i:=by omega
            subst this
            rcases q2 with q2 | q2
            · rw [← e1,hday] at q2; omega
            · omega
          simp [GL,hne]
        · rcases List.mem_append.1 hb' with hb' | hb'
          · exact m.2 b hb'
          · obtain⟨j',q3,q4⟩:=HG hb'
            subst q4
            exact⟨i,hx,rfl,.inr ⟨by rw [← e1]; exact hday,by omega⟩,by simp,by show(j':Int)≤4; omega,by show 0≤k; omega,by show k≤10; omega⟩
    · rw [decide_eq_false hday,cond_false]; exact mono _ h
theorem HH {w:Week} {roster:List Int} (h6d:w.drivers.length≤6) (hro:F7 w roster):∀ (k day:Nat)(st:List Breach×List Stand),Ik w (day:Int) 0 st.1→Ik w ((day+k:Nat):Int) 0 (Cz w roster k day st).1
  | 0,day,st,h=>h
  | k+1,day,st,h=>by
    simp only [Cz]
    have h1:=I9 h6d hro (day:Int) w.duties 0 st rfl h
    have h2:Ik w ((day+1:Nat):Int) 0 (Es w roster (day:Int) 0 st w.duties).1:=⟨h1.1,fun b hb=>by
      obtain⟨j,hj,e1,e2,e3⟩:=h1.2 b hb
      exact⟨j,hj,e1,.inl (by rcases e2 with e2 | e2 <;> omega),e3⟩⟩
    have:=HH h6d hro k (day+1) _ h2
    rw [show day+1+k=day+(k+1) by omega] at this
    exact this
theorem CM {w:Week} {now:List Stand}:∀ (k i:Nat)(b:Breach),b∈BV w now k i→∃ j:Nat,i≤j∧j<i+k∧b=Breach.mk (IK.mk 5) (j:Int) 0
  | 0,_,b,h=>by cases h
  | k+1,i,b,h=>by
    simp only [BV] at h
    rcases List.mem_append.1 h with h | h
    · cases hd:decide ((now.getD i Hy).used>w.hours) with
      | false=>rw [hd] at h; cases h
      | true =>
        rw [hd] at h
        exact⟨i,by omega,by omega,by simpa using h⟩
    · obtain⟨j,h1,h2,h3⟩:=CM k (i+1) b h
      exact⟨j,by omega,by omega,h3⟩
theorem F9 (w:Week) (now:List Stand):∀ (k i:Nat),distB GL (BV w now k i)=true
  | 0,_=>rfl
  | k+1,i=>by
    simp only [BV]
    refine Ar _ _ _ ?_ (F9 w now k (i+1)) fun x hx y hy=>?_
    · cases decide ((now.getD i Hy).used>w.hours) <;> rfl
    · obtain⟨j,h1,h2,h3⟩:=CM _ _ _ hy
      have hx':x=Breach.mk (IK.mk 5) (i:Int) 0:=by
        cases hd:decide ((now.getD i Hy).used>w.hours) with
        | false=>rw [hd] at hx; cases hx
        | true=>rw [hd] at hx; simpa using hx
      rw [hx',h3]
      have:(i:Int)≠(j:Int):=by omega
      simp [GL,this]
def C6 (w:Week) (roster:List Int):List Breach:=(Cz w roster 7 0 ([],By w)).1++BV w (Cz w roster 7 0 ([],By w)).2 w.drivers.length 0
theorem He {w:Week} {roster:List Int}:∀ (k day:Nat)(st:List Breach×List Stand),(Cz w roster k day st).1.length≤st.1.length+k*(5*w.duties.length)∧(Cz w roster k day st).2.length=st.2.length
  | 0,_,st=>⟨by simp [Cz],rfl⟩
  | k+1,day,st=>by
    obtain⟨h1,h2⟩:=Gm w roster (day:Int) w.duties 0 st
    obtain⟨h3,h4⟩:=He (w:=w) (roster:=roster) k (day+1) (Es w roster (day:Int) 0 st w.duties)
    simp only [Cz]
    rw [Nat.succ_mul]
    exact⟨by omega,by rw [h4,h2]⟩
theorem Gn (w:Week) (now:List Stand):∀ (k i:Nat),(BV w now k i).length≤k
  | 0,_=>by simp [BV]
  | k+1,i=>by
    have:=Gn w now k (i+1)
    simp only [BV,List.length_append]
    cases decide ((now.getD i Hy).used>w.hours)
    · simp; omega
    · simp; omega
theorem J8 {out:List Breach} (hl:out.length≤1000000) (hs:∀ b∈out,0≤b.driver∧b.driver≤10∧0≤b.duty∧b.duty≤100∧0≤b.kind.n∧b.kind.n≤5) (hd:distB GL out=true):srtBr out=some (srtB leB out):=by
  unfold srtBr
  have h1:Nat.blt (lenN out) 4611686018427387904=true:=by rw [Er]; exact Nat.ble_eq_true_of_le (by omega)
  have h2:out.all (fun a=>smI a.driver && smI a.duty && (decide (0≤a.kind.n) && decide (a.kind.n≤255)))=true:=by
    rw [List.all_eq_true]
    intro a ha
    have:=hs a ha
    simp [smI]; omega
  have h3:distB (fun a b:Breach=>a.driver == b.driver && a.kind.n == b.kind.n && a.duty == b.duty) out=true:=hd
  rw [h1,h2,h3]; rfl
theorem Ja {n:Nat} {w:Week} {roster:List Int} (hw:wkOk w) (h6d:w.drivers.length≤6) (hro:F7 w roster) (hn:300<n):froster_Week_broken n w roster (w.duties.map fun d=>d.off.hi)=some (srtB leB (C6 w roster),()):=by
  unfold froster_Week_broken
  have hsl:=HF h6d
  have hwl:=hw.2.2.2.2.1
  rw [IY h6d (by omega)]
  simp only [Option.bind_some,hsl,hw.1]
  rw [show(([Stand.mk 0 0 0 0,Stand.mk 0 0 0 0,Stand.mk 0 0 0 0,Stand.mk 0 0 0 0,Stand.mk 0 0 0 0,Stand.mk 0 0 0 0]:List Stand).length.beq 6 && Nat.beq 6 6)=true from rfl,cond_true]
  have h1:=Kz hw h6d hro rfl 7 0 n ([],By w) (by omega) (by omega) (by simp) hsl
  rw [show((0:Nat):Int)=0 from rfl] at h1
  rw [h1]
  simp only [Option.bind_some]
  obtain⟨d1,d2⟩:=He (w:=w) (roster:=roster) 7 0 ([],By w)
  simp only [List.length_nil,Nat.zero_add] at d1
  have h3:=J7 (w:=w) (now:=(Cz w roster 7 0 ([],By w)).2) h6d (by rw [d2]; exact hsl) w.drivers.length 0 n (Cz w roster 7 0 ([],By w)).1 (by omega) (by omega) (by omega)
  rw [show((0:Nat):Int)=0 from rfl] at h3
  rw [h3]
  simp only [Option.bind_some]
  have ok:=HH h6d hro 7 0 ([],By w) ⟨rfl,fun b hb=>by cases hb⟩
  have hh:=Gn w (Cz w roster 7 0 ([],By w)).2 w.drivers.length 0
  have:=J8 (out:=C6 w roster) (by unfold C6; rw [List.length_append]; omega) (fun b hb=>by
    unfold C6 at hb
    rcases List.mem_append.1 hb with hb | hb
    · obtain⟨j,hj,e1,_,e3,e4,e5,e6⟩:=ok.2 b hb
      omega
    · obtain⟨j,e1,e2,e3⟩:=CM _ _ _ hb
      subst e3
      simp only
      omega) (by
    unfold C6
    refine Ar _ _ _ ok.1 (F9 ..) fun x hx y hy=>?_
    obtain⟨j,hj,e1,_,e3,e4,_⟩:=ok.2 x hx
    obtain⟨j',f1,f2,f3⟩:=CM _ _ _ hy
    subst f3
    have:x.kind.n≠5:=by omega
    simp [GL,this])
  unfold C6 at this ⊢
  rw [this]; rfl
theorem J9 {n:Nat} {w:Week} {roster:List Int} (hw:wkOk w) (h6d:w.drivers.length≤6) (hro:F7 w roster) (hn:300<n):froster_Week_legal n w roster=some (decide (C6 w roster=[]),()):=by
  unfold froster_Week_legal
  have hwl:=hw.2.2.2.2.1
  rw [Km (by omega) (by omega),Option.bind_some]
  simp only
  rw [Ja hw h6d hro hn,Option.bind_some]
  simp only [El]
  congr 2
  cases h:C6 w roster with
  | nil=>rfl
  | cons a l=>simp; omega
def Jb (w:Week) (roster:List Int):Bool:=decide (roster.length=w.duties.length) && roster.all fun x=>Bj x (-1) ((w.drivers.length:Int)-1)
theorem JA {w:Week} {roster:List Int}:Jb w roster=true↔F7 w roster:=by
  unfold Jb F7
  rw [Bool.and_eq_true,decide_eq_true_eq,List.all_eq_true]
  constructor
  · rintro⟨h1,h2⟩
    exact⟨h1,fun x hx=>by have:=Cm.1 (h2 x hx); omega⟩
  · rintro⟨h1,h2⟩
    exact⟨h1,fun x hx=>Cm.2 (by have:=h2 x hx; omega)⟩
end Go.Proofs.YtkpgggfibljflaaGreatDoor
namespace Go.Proofs.YtkpgggfibljflaaGreatDoor
open Go Go.RowKit Go.Proofs
theorem Hv {n:Nat} {w:Week} {l:List Int} (hl:l.length≤1000) (hd:w.drivers.length≤7) (h:l.length<n) :
    (l.all (fun x=>Bj x (-1) ((w.drivers.length:Int)-1))=true→froster_Week_roster_i1 n l w (l.length:Int) 0=some (.inl ((((),(w,())),()),((),()))))∧(l.all (fun x=>Bj x (-1) ((w.drivers.length:Int)-1))=false→∃ k:Nat,froster_Week_roster_i1 n l w (l.length:Int) 0=some (.inr ((((),(w,())),()),((),((k:Int),()))))) :=
  CK (F:=fun n i=>froster_Week_roster_i1 n l w (l.length:Int) i) (G:=fun n i v0=>bif decide (-1≤v0) then(bif !decide (v0≤IntKind.i64.wrap ((↑w.drivers.length:Int)-1)) then(some (.inr ((((),(w,())),()),((),(i,()))))) else froster_Week_roster_i1 n l w (l.length:Int) (IntKind.i64.wrap (i+1))) else some (.inr ((((),(w,())),()),((),(i,()))))) l (fun x=>Bj x (-1) ((w.drivers.length:Int)-1)) ((((),(w,())),()),((),())) (fun i=>((((),(w,())),()),((),(i,())))) 0 (by omega) (fun _ _=>rfl) (fun n i hi _=>by
    rw [BU (x:=(w.drivers.length:Int)-1) (by omega) (by omega)]
    unfold Bj
    cases decide (-1≤l[i]) <;> cases decide (l[i]≤(w.drivers.length:Int)-1) <;> rfl) (n:=n) (by omega)
theorem Gp {n:Nat} {w:Week} {l:List Int} (hl:l.length≤1000) (hd:w.drivers.length≤7) (h:l.length<n):froster_Week_roster n w l=some (Jb w l,()):=by
  unfold froster_Week_roster Jb
  obtain⟨a1,a2⟩:=Hv (n:=n) (w:=w) (l:=l) hl hd h
  by_cases he:l.length=w.duties.length
  · rw [show decide ((l.length:Int)=(w.duties.length:Int))=true from decide_eq_true (by omega),decide_eq_true he,cond_true,Bool.true_and]
    cases ha:l.all fun x=>Bj x (-1) ((w.drivers.length:Int)-1) with
    | true=>rw [a1 ha]; rfl
    | false =>
      obtain⟨k,hk⟩:=a2 ha
      rw [hk]
      simp only [Option.bind_some,Sum.elim_inr]
      rw [show decide ((k:Int)≥0)=true by simp]; rfl
  · rw [show decide ((l.length:Int)=(w.duties.length:Int))=false from decide_eq_false (by omega),decide_eq_false he]; rfl
theorem Jc {n:Nat} {l:List Int} (hl:l.length≤1000) (h:l.length<n):∃ k:Nat,froster_covers n l=some ((k:Int),()):=by
  have H:∀ (n i k:Nat),l.length-i<n→i≤l.length→k≤i→∃ k':Nat,froster_covers_l1 n (k:Int) l (l.length:Int) (i:Int)=some ((k':Int),()):=by
    intro n
    induction n with
    | zero=>intro i k h; exact absurd h (Nat.not_lt_zero _)
    | succ n ih =>
      intro i k h hi hk
      rw [froster_covers_l1]
      by_cases hx:i<l.length
      · rw [show decide ((i:Int)<(l.length:Int))=true by simp; omega,cond_true,Bb hx,Option.bind_some,wN i (by omega),wN k (by omega)]
        cases l[i] != -1
        · exact ih (i+1) k (by omega) (by omega) (by omega)
        · exact ih (i+1) (k+1) (by omega) (by omega) (by omega)
      · rw [show decide ((i:Int)<(l.length:Int))=false by simp; omega]
        exact⟨k,rfl⟩
  obtain⟨k,hk⟩:=H n 0 0 (by omega) (by omega) (by omega)
  rw [show((0:Nat):Int)=0 from rfl] at hk
  unfold froster_covers
  exact⟨k,by rw [hk]; rfl⟩
def Gq (w:Week) (roster:List Int):Bool:=decide (Ba w=0) && (Jb w roster && decide (C6 w roster=[]))
theorem JB {n:Nat} {w:Week} {roster:List Int} (hw:wkOk w) (hl:roster.length≤1000) (hn:1100<n):froster_ProveRoster n w roster 0=some (Gq w roster,()):=by
  unfold froster_ProveRoster Gq
  rw [CL hw (by omega),Option.bind_some]
  simp only
  by_cases h0:Ba w=0
  · rw [decide_eq_true h0,cond_true,Gp hl hw.2.2.2.2.2.1 (by omega),Option.bind_some]
    simp only [Bool.true_and]
    cases hr:Jb w roster with
    | false=>rfl
    | true =>
      have h6:w.drivers.length≤6:=by
        unfold Ba at h0
        split at h0
        · cases h0
        · split at h0
          · cases h0
          · omega
      rw [cond_true,J9 hw h6 (JA.1 hr) (by omega),Option.bind_some]
      simp only [Bool.true_and]
      cases decide (C6 w roster=[]) with
      | false=>rfl
      | true =>
        obtain⟨k,hk⟩:=Jc (n:=n) hl (by omega)
        rw [cond_true,hk,Option.bind_some]
        simp
  · rw [decide_eq_false h0]; rfl
structure Bt (s:State):Prop where
  kind:∀ c∈s.cards,DR c
  cards:s.cards.length≤40
  outs:s.outs.length≤200
  runs:s.runs.length≤200
  rk:∀ r∈s.records,Hr r
  recs:s.records.length≤200
  days:s.week.days=7
  rest:s.week.rest=600
  run:s.week.run=5
  hours:s.week.hours=3000
  duties:s.week.duties.length≤12
  drivers:s.week.drivers.length≤6
  drv:∀ d∈s.week.drivers,∃ k off,d=Driver.mk [k] [] [] off 0 0
  ros:s.roster.length=s.week.duties.length
  wk:Ba s.week=0
  chk:Kx s.cards=0
theorem Bt.wkOk {s:State} (h:Bt s):wkOk s.week:=⟨h.days,h.rest,h.run,h.hours,by have:=h.duties; omega,by have:=h.drivers; omega,h.drv⟩
def C9 (s:State) (c:Card):State×Int:=if s.cards.any (fun a=>Co a c) then(s,6) else if Kx (s.cards++[c])=0 then({ s with cards:=s.cards++[c] },0) else(s,Kx (s.cards++[c]))
def Al (s:State) (y:State×Int):(Session×Unit) ⊕ (Session×Refused×Unit):=if y.2=0 then .inl (Session.mk y.1,()) else .inr (Session.mk s,(Refused.mk y.2,()))
theorem FZ {n:Nat} {s:State} (hg:Bt s) {c:Card} (hk:DR c) (hn:200<n):fgarage_session_card n (Session.mk s) c=some (Al s (C9 s c)):=by
  have h40:=hg.cards
  unfold fgarage_session_card C9
  rw [Ia _ c s.cards (by omega) (by omega)]
  cases hs:s.cards.any (fun a=>Co a c) with
  | true=>simp [Al]
  | false =>
    simp only [Option.bind_some,Sum.elim_inl,cond_false]
    rw [H6 (by omega)]
    simp only [Option.bind_some]
    rw [GD (fun a ha=>by
      rcases List.mem_append.1 ha with ha | ha
      · exact hg.kind a ha
      · rw [List.mem_singleton.1 ha]; exact hk) (by simp; omega) (by simp; omega)]
    simp only [Option.bind_some,Ek]
    by_cases h0:Kx (s.cards++[c])=0
    · simp [Al,AT,h0]
    · simp [Al,AT,h0]
def FA (l:List Out) (bus:Int):Option Nat:=l.findIdx? fun o=>decide (o.bus=bus)
theorem Gr (l:List Out) (bus:Int) (hl:l.length≤1000):∀ (n i:Nat),l.length-i<n→i≤l.length→gone_l1 n bus (-1) l (l.length:Int) (i:Int)=some ((match (l.drop i).findIdx? (fun o=>decide (o.bus=bus)) with | some k=>((i+k:Nat):Int) | none=>-1),())
  | 0,_,h,_=>absurd h (Nat.not_lt_zero _)
  | n+1,i,h,hi=>by
    rw [gone_l1]
    by_cases hx:i<l.length
    · have hd:l.drop i=l[i]::l.drop (i+1):=List.drop_eq_getElem_cons hx
      rw [show decide ((i:Int)<(l.length:Int))=true by simp; omega,cond_true,Bb hx,Option.bind_some,hd,wN i (by omega),List.findIdx?_cons]
      cases decide (l[i].bus=bus) with
      | true=>simp
      | false =>
        rw [cond_false,Gr l bus hl n (i+1) (by omega) (by omega)]
        cases (l.drop (i+1)).findIdx? (fun o=>decide (o.bus=bus)) with
        | none=>rfl
        | some k =>
          show some (((i+1+k:Nat):Int),())=some (((i+(k+1):Nat):Int),())
          rw [show i+1+k=i+(k+1) by omega]
    · have hd:l.drop i=[]:=by simp; omega
      rw [show decide ((i:Int)<(l.length:Int))=false by simp; omega,hd]
      rfl
def Gs (l:List Out) (bus:Int):Int:=match FA l bus with
  | some k=>(k:Int)
  | none=>-1
theorem IA {n:Nat} {s:State} (hg:Bt s) (bus:Int) (hn:250<n):gone n (Session.mk s) bus=some (Session.mk s,(Gs s.outs bus,())):=by
  unfold gone Gs FA
  have:=hg.outs
  have h:=Gr s.outs bus (by omega) n 0 (by omega) (by omega)
  rw [show((0:Nat):Int)=0 from rfl,List.drop_zero] at h
  simp only [h,Option.bind_some]
  cases s.outs.findIdx? (fun o=>decide (o.bus=bus)) <;> simp
end Go.Proofs.YtkpgggfibljflaaGreatDoor
namespace Go.Proofs.YtkpgggfibljflaaGreatDoor
open Go Go.RowKit Go.Proofs
theorem BH (x:Option ((Session×Unit) ⊕ (Session×Refused×Unit))) (s:State) (y:State×Int) (h:x=some (Al s y)):(x.bind fun v8=>Sum.elim (fun v9=>some (.inl (v9.fst,()))) (fun v9=>some (.inr (v9.fst,(v9.snd.fst,())))) v8:Option ((Session×Unit) ⊕ (Session×Refused×Unit)))=some (Al s y):=by
  rw [h]
  unfold Al
  split <;> rfl
section
variable {n:Nat} {s:State} {a b c d e:Int}
theorem JC (hg:Bt s) (hn:200<n):fgarage_session_found n (Session.mk s) [a,b,c,d,e]=some (Al s (C9 s (Card.mk a b c (IK.mk 0) d 0))):=BH _ _ _ (FZ hg ⟨by simp,by simp⟩ hn)
theorem Ko (hg:Bt s) (hn:200<n):fgarage_session_held n (Session.mk s) [a,b,c,d,e]=some (Al s (C9 s (Card.mk a b c (IK.mk 1) d 0))):=BH _ _ _ (FZ hg ⟨by simp,by simp⟩ hn)
theorem Jd (hg:Bt s) (hn:200<n):fgarage_session_signed n (Session.mk s) [a,b,c,d,e]=some (Al s (C9 s (Card.mk a b c (IK.mk 2) 0 d))):=BH _ _ _ (FZ hg ⟨by simp,by simp⟩ hn)
theorem HI (hg:Bt s) (hn:200<n):fgarage_session_checked n (Session.mk s) [a,b,c,d,e]=some (Al s (C9 s (Card.mk a b c (IK.mk 3) 0 0))):=BH _ _ _ (FZ hg ⟨by simp,by simp⟩ hn)
theorem KQ:([a,b,c,d,e]:List Int).length.beq 5=true:=rfl
theorem KR:idx [a,b,c,d,e] 0=some a:=rfl
theorem KS:idx [a,b,c,d,e] 1=some b:=rfl
theorem La:idx [a,b,c,d,e] 2=some c:=rfl
theorem Lc:idx [a,b,c,d,e] 3=some d:=rfl
theorem Ld:idx [a,b,c,d,e] 4=some e:=rfl
theorem KU:([a,b,c,d,e]:List Int).get?Internal (Int.toNat 0)=some a:=rfl
theorem KV:([a,b,c,d,e]:List Int).get?Internal (Int.toNat 1)=some b:=rfl
theorem Lb:([a,b,c,d,e]:List Int).get?Internal (Int.toNat 2)=some c:=rfl
theorem Le:([a,b,c,d,e]:List Int).get?Internal (Int.toNat 3)=some d:=rfl
theorem Lg:([a,b,c,d,e]:List Int).get?Internal (Int.toNat 4)=some e:=rfl
def Hf (l:List Run) (bus at_:Int):Bool:=l.all fun r=>!decide (r.bus=bus) || decide (r.to_≤at_)
theorem Je (g:Session) (bus at_:Int) (l:List Run) (hl:l.length≤1000) (hn:l.length<n):fgarage_session_out_l1 n g bus at_ l (l.length:Int) 0=some (bif Hf l bus at_ then .inl (g,((),(bus,(at_,())))) else .inr (g,(Refused.mk 8,()))):=by
  obtain⟨h1,h2⟩:=CK (F:=fun n i=>fgarage_session_out_l1 n g bus at_ l (l.length:Int) i) (G:=fun n i v0=>bif !v0.bus != bus then((fgarage_ask n (decide (v0.to_≤at_)) 8).bind fun v1=>Sum.elim (fun v2=>fgarage_session_out_l1 n g bus at_ l (l.length:Int) (IntKind.i64.wrap (i+1))) (fun v2=>some (.inr (g,(v2.fst,())))) (v1)) else(fgarage_ask n true 8).bind fun v1=>Sum.elim (fun v2=>fgarage_session_out_l1 n g bus at_ l (l.length:Int) (IntKind.i64.wrap (i+1))) (fun v2=>some (.inr (g,(v2.fst,())))) (v1)) l (fun r=>!decide (r.bus=bus) || decide (r.to_≤at_)) (g,((),(bus,(at_,())))) (fun _=>(g,(Refused.mk 8,()))) 0 (by omega) (fun _ _=>rfl) (fun n i hi _=>by
    rw [AK,AK]
    by_cases hb:l[i].bus=bus
    · rw [show(!l[i].bus != bus)=true by simp [hb],decide_eq_true hb]
      cases decide (l[i].to_≤at_) <;> rfl
    · rw [show(!l[i].bus != bus)=false by simp [hb],decide_eq_false hb]
      rfl) (n:=n) (by omega)
  unfold Hf
  cases hc:l.all fun r=>!decide (r.bus=bus) || decide (r.to_≤at_) with
  | true=>exact h1 hc
  | false=>obtain⟨k,hk⟩:=h2 hc; exact hk
def HJ (s:State) (bus at_:Int):State×Int :=
  if Bj bus 0 99 && Bj at_ 0 1000000 then
    if Gs s.outs bus<0 then
      if Hf s.runs bus at_ then
        if (Da s.cards bus at_).2=0 then
          if (Da s.cards bus at_).1=[] then({ s with outs:=s.outs++[Out.mk bus at_] },0) else(s,11)
        else(s,(Da s.cards bus at_).2)
      else(s,8)
    else(s,8)
  else(s,2)
theorem Kp (hg:Bt s) (hn:300<n):fgarage_session_out n (Session.mk s) [a,b,c,d,e]=some (Al s (HJ s a b)):=by
  have h1:=hg.outs
  have h2:=hg.runs
  have h3:=hg.cards
  unfold fgarage_session_out
  simp only [KQ,KR,KU,KS,KV,cond_true,Option.bind_some]
  unfold HJ
  rw [Ck,Ck]
  simp only [Option.bind_some]
  cases hb1:Bj a 0 99 with
  | false =>
    simp [AK,AT,Al]
  | true =>
    rw [cond_true,AK,Option.bind_some]
    cases hb2:Bj b 0 1000000 with
    | false=>simp [AT,Al]
    | true =>
      simp only [AT,cond_true,Sum.elim_inl,Bool.and_self,if_true]
      rw [IA hg a (by omega),Option.bind_some]
      simp only [AK,Option.bind_some]
      by_cases hgo:Gs s.outs a<0
      · rw [decide_eq_true hgo,if_pos hgo]
        simp only [AT,cond_true,Sum.elim_inl]
        rw [Je _ a b s.runs (by omega) (by omega),Option.bind_some]
        cases hr:Hf s.runs a b with
        | false=>simp [Al]
        | true =>
          simp only [cond_true,Sum.elim_inl,if_true]
          rw [Kh hg.kind (by omega) (by omega)]
          simp only [Option.bind_some,Ek]
          by_cases h0:(Da s.cards a b).2=0
          · rw [if_pos h0,h0]
            simp only [AT,decide_true,cond_true,Sum.elim_inl]
            by_cases hl:(Da s.cards a b).1=[]
            · rw [if_pos hl,hl]
              simp only [List.length_nil]
              rw [show decide (((0:Nat):Int)=0)=true from rfl]
              simp only [cond_true,Option.bind_some,Sum.elim_inl]
              rw [HX (by omega)]
              simp [Al]
            · rw [if_neg hl]
              have : ¬ (((Da s.cards a b).1.length:Int)=0):=fun h=>hl (List.length_eq_zero_iff.1 (by omega))
              rw [decide_eq_false this]
              simp [Al]
          · rw [if_neg h0,decide_eq_false h0]
            simp [Al,h0,AT]
      · rw [decide_eq_false hgo,if_neg hgo]
        simp [AT,Al]
def K0 (s:State) (bus to_ miles:Int):State×Int :=
  match FA s.outs bus with
  | none=>(s,8)
  | some k=>match s.outs[k]? with
    | none=>(s,8)
    | some o=>if Bj to_ o.fr 1000000 && Bj miles 0 1000 then({ s with outs:=s.outs.eraseIdx k,runs:=s.runs++[Run.mk o.bus o.fr to_ miles] },0) else(s,2)
theorem HK {l:List Out} {bus:Int} {k:Nat} (h:FA l bus=some k):∃ hk:k<l.length,l[k].bus=bus:=by
  unfold FA at h
  obtain⟨hk,h1,_⟩:=List.findIdx?_eq_some_iff_getElem.1 h
  exact⟨hk,by simpa using h1⟩
theorem KA (hg:Bt s) (hn:300<n):fgarage_session_in n (Session.mk s) [a,b,c,d,e]=some (Al s (K0 s a b c)):=by
  have h1:=hg.outs
  have h2:=hg.runs
  unfold fgarage_session_in
  simp only [KQ,KR,KU,KS,KV,La,Lb,cond_true,Option.bind_some]
  rw [IA hg a (by omega),Option.bind_some]
  simp only [AK,Option.bind_some]
  unfold K0 Gs
  cases hgo:FA s.outs a with
  | none =>
    simp only
    rw [show decide ((-1:Int)≥0)=false from rfl]
    simp [AT,Al]
  | some k =>
    obtain⟨hk,_⟩:=HK hgo
    simp only
    rw [show decide ((k:Int)≥0)=true by simp]
    simp only [AT,cond_true,Sum.elim_inl]
    rw [Bb hk,Option.bind_some,List.getElem?_eq_getElem hk]
    simp only [Ck,Option.bind_some]
    have hw:IntKind.i64.wrap ((k:Int)+1)=((k+1:Nat):Int):=wN k (by omega)
    have hdel:delOut n s.outs (k:Int) ((k+1:Nat):Int)=some (s.outs.eraseIdx k,()):=by
      show(bif Nat.blt k (k+1) && Nat.ble (k+1) (lenN s.outs) then some (s.outs.take k++s.outs.drop (k+1),()) else none)=_
      rw [show Nat.blt k (k+1)=true from Nat.ble_eq_true_of_le (by omega),Er,show Nat.ble (k+1) s.outs.length=true from Nat.ble_eq_true_of_le (by omega)]
      rw [List.eraseIdx_eq_take_drop_succ]; rfl
    have hcl:clone60 n s.outs=some (s.outs,()):=by unfold clone60; rw [Bx (by omega)]; rfl
    cases hb1:Bj b s.outs[k].fr 1000000 with
    | false=>simp [AT,Al]
    | true =>
      cases hb2:Bj c 0 1000 with
      | false=>simp [AT,Al]
      | true =>
        simp only [cond_true,Sum.elim_inl,Bool.and_self,if_true]
        rw [hcl,Option.bind_some,hw,hdel,Option.bind_some,HY (by omega)]
        simp [Al]
def Fb (s:State) (r:Record):State×Int:=if s.records.any (AM r) then(s,6) else if DT [s.records,[r]]=0 then({ s with records:=s.records++[r] },0) else(s,DT [s.records,[r]])
theorem Il (hg:Bt s) {r:Record} (hk:Hr r) (hn:1200<n):fgarage_session_record n (Session.mk s) r=some (Al s (Fb s r)):=by
  have h60:=hg.recs
  unfold fgarage_session_record Fb
  rw [H9 (by show s.records.length≤1000; omega) (by show s.records.length<n; omega),Option.bind_some]
  simp only [AK,Option.bind_some]
  cases hs:s.records.any (AM r) with
  | true=>simp [Al,AT]
  | false =>
    simp only [Bool.not_false,AT,cond_true,Sum.elim_inl]
    obtain⟨x,hx⟩:=J4 (n:=n) (lists:=[s.records,[r]]) (fun l hl=>by
      rcases List.mem_cons.1 hl with rfl | hl
      · exact hg.rk
      · rw [List.mem_singleton.1 hl]
        intro r' hr'
        rw [List.mem_singleton.1 hr']; exact hk) (by simp) (fun l hl=>by
      rcases List.mem_cons.1 hl with rfl | hl
      · omega
      · rw [List.mem_singleton.1 hl]; simp) (by simp; omega)
    rw [hx,Option.bind_some]
    simp only [Ek,Option.bind_some]
    by_cases h0:DT [s.records,[r]]=0
    · rw [h0]
      simp only [AT,decide_true,cond_true,Sum.elim_inl]
      rw [GB (by omega)]
      simp [Al]
    · rw [decide_eq_false h0]
      simp [AT,Al,h0]
theorem Kq (hg:Bt s) (hn:1200<n):fgarage_session_sale n (Session.mk s) [a,b,c,d,e]=some (Al s (Fb s (Record.mk a b c (IK.mk 0) d e))):=BH _ _ _ (Il hg ⟨by simp,by simp⟩ hn)
theorem Kr (hg:Bt s) (hn:1200<n):fgarage_session_sync n (Session.mk s) [a,b,c,d,e]=some (Al s (Fb s (Record.mk a b c (IK.mk 1) d 0))):=BH _ _ _ (Il hg ⟨by simp,by simp⟩ hn)
theorem JD (hg:Bt s) (hn:1200<n):fgarage_session_close n (Session.mk s) [a,b,c,d,e]=some (Al s (Fb s (Record.mk a b c (IK.mk 2) d e))):=BH _ _ _ (Il hg ⟨by simp,by simp⟩ hn)
def FN (w:Week) (k off:Int):Week:={ w with drivers:=w.drivers++[Driver.mk [k] [] [] off 0 0] }
def Fc (w:Week) (d:Duty):Week:={ w with duties:=w.duties++[d] }
def Jf (s:State) (k off:Int):State×Int:=if Ba (FN s.week k off)=0 then({ s with week:=FN s.week k off },0) else(s,Ba (FN s.week k off))
def Jg (s:State) (d:Duty):State×Int:=if Ba (Fc s.week d)=0 then({ s with week:=Fc s.week d,roster:=s.roster++[-1] },0) else(s,Ba (Fc s.week d))
theorem Im (hg:Bt s) (hn:100<n):fgarage_session_driver n (Session.mk s) [a,b,c,d,e]=some (Al s (Jf s a b)):=by
  have h6:=hg.drivers
  have h12:=hg.duties
  unfold fgarage_session_driver Jf
  simp only [KQ,KR,KU,KS,KV,cond_true,Option.bind_some]
  rw [GC (by omega),Option.bind_some]
  have hw:wkOk (FN s.week a b):=⟨hg.days,hg.rest,hg.run,hg.hours,by show s.week.duties.length≤13; omega,by simp [FN]; omega,fun d hd=>by
    rcases List.mem_append.1 hd with hd | hd
    · exact hg.drv d hd
    · rw [List.mem_singleton.1 hd]; exact⟨a,b,rfl⟩⟩
  have hc:=CL (n:=n) hw (by omega)
  unfold FN at hc
  simp only at hc ⊢
  rw [hc,Option.bind_some]
  simp only [Ek,Option.bind_some]
  show _=some (Al s (if Ba (FN s.week a b)=0 then _ else _))
  change (Sum.elim _ _ (AT (decide (Ba (FN s.week a b)=0)) (Ba (FN s.week a b))))=_
  by_cases h0:Ba (FN s.week a b)=0
  · rw [h0]; simp [AT,Al,FN]
  · rw [decide_eq_false h0,if_neg h0]
    simp [AT,Al,h0]
theorem JE (hg:Bt s) (hn:100<n):fgarage_session_duty n (Session.mk s) [a,b,c,d,e]=some (Al s (Jg s (Duty.mk a b (Rg.mk c d) e))):=by
  have h6:=hg.drivers
  have h12:=hg.duties
  have hr:=hg.ros
  unfold fgarage_session_duty Jg
  simp only [KQ,KR,KU,KS,KV,La,Lb,Lc,Le,Ld,Lg,cond_true,Option.bind_some]
  rw [H7 (by omega),Option.bind_some]
  have hw:wkOk (Fc s.week (Duty.mk a b (Rg.mk c d) e)):=⟨hg.days,hg.rest,hg.run,hg.hours,by simp [Fc]; omega,by show s.week.drivers.length≤7; omega,hg.drv⟩
  have hc:=CL (n:=n) hw (by omega)
  unfold Fc at hc
  simp only at hc ⊢
  rw [hc,Option.bind_some]
  simp only [Ek,Option.bind_some]
  show _=some (Al s (if Ba (Fc s.week (Duty.mk a b (Rg.mk c d) e))=0 then _ else _))
  change (Sum.elim _ _ (AT (decide (Ba (Fc s.week (Duty.mk a b (Rg.mk c d) e))=0)) (Ba (Fc s.week (Duty.mk a b (Rg.mk c d) e)))))=_
  by_cases h0:Ba (Fc s.week (Duty.mk a b (Rg.mk c d) e))=0
  · rw [h0]
    simp only [AT,decide_true,cond_true,Sum.elim_inl]
    rw [HZ (by omega)]
    simp [Al,Fc]
  · rw [decide_eq_false h0,if_neg h0]
    simp [AT,Al,h0]
def Jh (s:State) (i k:Int):State×Int :=
  if Bj i 0 ((s.roster.length:Int)-1) && Bj k (-1) ((s.week.drivers.length:Int)-1) then
    if Gq s.week (s.roster.set i.toNat k) then({ s with roster:=s.roster.set i.toNat k },0) else(s,10)
  else(s,2)
theorem JF (hg:Bt s) (hn:1200<n):fgarage_session_give n (Session.mk s) [a,b,c,d,e]=some (Al s (Jh s a b)):=by
  have h6:=hg.drivers
  have h12:=hg.duties
  have hr:=hg.ros
  unfold fgarage_session_give Jh
  simp only [KQ,KR,KU,KS,KV,cond_true,Option.bind_some]
  rw [BU (x:=(s.roster.length:Int)-1) (by omega) (by omega),BU (x:=(s.week.drivers.length:Int)-1) (by omega) (by omega)]
  simp only [Ck,Option.bind_some,AK]
  cases hb1:Bj a 0 ((s.roster.length:Int)-1) with
  | false=>simp [AT,Al]
  | true =>
    cases hb2:Bj b (-1) ((s.week.drivers.length:Int)-1) with
    | false=>simp [AT,Al]
    | true =>
      simp only [AT,cond_true,Sum.elim_inl,Bool.and_self,if_true]
      obtain⟨a1,a2⟩:=Cm.1 hb1
      obtain⟨i,rfl⟩:∃ i:Nat,a=i:=⟨a.toNat,by omega⟩
      have hi:i<s.roster.length:=by omega
      have hcl:clone3 n s.roster=some (s.roster,()):=by unfold clone3; rw [Bx (by omega)]; rfl
      rw [hcl]
      simp only [Option.bind_some]
      rw [Bb hi,Option.bind_some,show((i:Nat):Int).toNat=i from rfl,Hz hi,Option.bind_some,JB hg.wkOk (by rw [List.length_set]; omega) (by omega),Option.bind_some]
      simp only
      cases Gq s.week (s.roster.set i b) with
      | true=>simp [Al]
      | false=>simp [Al]
end
end Go.Proofs.YtkpgggfibljflaaGreatDoor
namespace Go.Proofs.YtkpgggfibljflaaGreatDoor
open Go Go.RowKit Go.Proofs
theorem Io {l:List UInt8} {v:Int} (h:Lib.atoiAll l=.ok v) : -9223372036854775808≤v∧v≤9223372036854775807:=by
  unfold Lib.atoiAll at h
  simp only at h
  split at h
  · cases h
  · split at h
    · cases h
    · cases h
    · rename_i u _
      split at h
      · cases h
      · split at h
        · cases h
        · rename_i h1 h2
          cases h
          split <;> rename_i hn <;> simp only [hn,true_and,not_true,false_and,not_false_iff] at h1 h2 <;> omega
def JG (s:ByteArray):Option Int:=Fa s.data.toList
theorem Ji {n:Nat} {s:ByteArray} (hs:s.size≤1000000):fgarage_number n s=some (match JG s with | some v=>.inl (v,()) | none=>.inr (Refused.mk 4,())):=by
  unfold fgarage_number atoiP
  rw [if_pos (by omega)]
  simp only [Option.bind_some]
  cases hw:JG s with
  | some v =>
    obtain⟨h1,h2,h3,h4⟩:=II hw
    rw [h2]
    simp only [Sum.elim_inl]
    have hi:itoaS n v=some (itoaP v,()):=by
      unfold itoaS
      rw [show(decide (-9223372036854775808≤v) && decide (v≤9223372036854775807))=true by simp; omega]; rfl
    rw [hi,Option.bind_some]
    have hb:(itoaP v).beq s=true:=by
      unfold itoaP
      rw [h1,← mkB_data s]
      show((mkB s.data.toList).data == (mkB (mkB s.data.toList).data.toList).data)=true
      simp [mkB]
    simp only [hb,cond_true]
    rw [Ck,Option.bind_some,show Bj v (-999999999) 999999999=true from Cm.2 ⟨h3,h4⟩,AK]
    rfl
  | none =>
    rcases ha:Lib.atoiAll s.data.toList with v | _ | _
    · skip
      obtain⟨b1,b2⟩:=Io ha
      have hi:itoaS n v=some (itoaP v,()):=by
        unfold itoaS
        rw [show(decide (-9223372036854775808≤v) && decide (v≤9223372036854775807))=true by simp; omega]; rfl
      simp only [Sum.elim_inl]
      rw [hi,Option.bind_some]
      simp only
      cases hb:(itoaP v).beq s with
      | false=>simp [AK,AT]
      | true =>
        have he:itoaL v=s.data.toList:=by
          have:((mkB (itoaL v)).data == s.data)=true:=hb
          have:=eq_of_beq this
          have:=congrArg Array.toList this
          simpa [mkB] using this
        simp only [cond_true,Ck,Option.bind_some,AK]
        by_cases hr : -999999999≤v∧v≤999999999
        · have:=H5 hr.1 hr.2
          rw [he] at this
          unfold JG at hw
          rw [this] at hw; cases hw
        · rw [GT.2 hr]; rfl
    · simp [AK,AT]
    · simp [AK,AT]
end Go.Proofs.YtkpgggfibljflaaGreatDoor
namespace Go.Proofs.YtkpgggfibljflaaGreatDoor
open Go Go.RowKit Go.Proofs
def Fd:List (ByteArray×Word):=[(B [102,111,117,110,100],Word.mk 4 (Fp.mk 189)),(B [104,101,108,100],Word.mk 4 (Fp.mk 190)),(B [115,105,103,110,101,100],Word.mk 4 (Fp.mk 191)),(B [99,104,101,99,107,101,100],Word.mk 3 (Fp.mk 192)),(B [111,117,116],Word.mk 2 (Fp.mk 193)),(B [105,110],Word.mk 3 (Fp.mk 194)),(B [115,97,108,101],Word.mk 5 (Fp.mk 195)),(B [115,121,110,99],Word.mk 4 (Fp.mk 196)),(B [99,108,111,115,101],Word.mk 5 (Fp.mk 197)),(B [100,114,105,118,101,114],Word.mk 2 (Fp.mk 198)),(B [100,117,116,121],Word.mk 5 (Fp.mk 199)),(B [103,105,118,101],Word.mk 2 (Fp.mk 200))]
theorem JH (n:Nat):words n=some (Fd,()):=by kernel_rfl
theorem HL {α β:Type} (q:α→α→Bool) (hq:∀ a b,q a b=true→a=b):∀ (l:List (α×β))(k:α)(v:β),mget q l k=some v→(k,v)∈l
  | [],_,_,h=>by cases h
  | p::r,k,v,h=>by
    unfold mget at h
    cases hp:q p.1 k with
    | true =>
      rw [hp,cond_true] at h
      cases h
      have:=hq _ _ hp
      subst this
      simp
    | false =>
      rw [hp,cond_false] at h
      exact List.mem_cons_of_mem _ (HL q hq r k v h)
theorem Ip {w:ByteArray} {x:Word} (h:mget keq9 Fd w=some x):2≤x.many∧x.many≤5∧189≤x.do_.f∧x.do_.f≤200:=by
  have:=HL keq9 (fun a b h=>(J3 a b).1 h) _ _ _ h
  simp only [Fd,List.mem_cons,Prod.mk.injEq,List.not_mem_nil,or_false] at this
  rcases this with⟨_,rfl⟩ | ⟨_,rfl⟩ | ⟨_,rfl⟩ | ⟨_,rfl⟩ | ⟨_,rfl⟩ | ⟨_,rfl⟩ | ⟨_,rfl⟩ | ⟨_,rfl⟩ | ⟨_,rfl⟩ | ⟨_,rfl⟩ | ⟨_,rfl⟩ | ⟨_,rfl⟩ <;> simp
def DM:List ByteArray→Option (List Int)
  | []=>some []
  | s::r=>match JG s with
    | none=>none
    | some v=>match DM r with
      | none=>none
      | some vs=>some (v::vs)
theorem Hg:∀ {l:List ByteArray} {vs:List Int},DM l=some vs→vs.length=l.length
  | [],vs,h=>by cases h; rfl
  | s::r,vs,h=>by
    unfold DM at h
    split at h
    · cases h
    · split at h
      · cases h
      · rename_i vs' hv
        cases h
        simp [Hg hv]
def Gt (i:Nat) (z vs:List Int):List Int:=z.take i++vs++z.drop (i+vs.length)
theorem JI {z:List Int} {i:Nat} (hi:i<z.length) (v:Int) (vs:List Int):Gt (i+1) (z.set i v) vs=Gt i z (v::vs):=by
  unfold Gt
  rw [List.take_set,List.drop_set,if_pos (by omega),List.take_succ_eq_append_getElem hi,List.set_append_right _ _ (by rw [List.length_take]; omega),List.length_take,Nat.min_eq_left (by omega),Nat.sub_self]
  simp only [List.set_cons_zero,List.length_cons,List.append_assoc,List.singleton_append,List.cons_append,List.nil_append]
  rw [show i+1+vs.length=i+(vs.length+1) by omega]
theorem Hh (g:Session) (e:Int) (x:Word) (full:List ByteArray) (hs:∀ s∈full,s.size≤1000000) (hl:full.length≤5):∀ (n i:Nat)(z:List Int),full.length-i<n→i≤full.length→z.length=5→match DM (full.drop i) with
    | some vs=>nextB_l1 n g e x z full (full.length:Int) (i:Int)=some (.inl (g,((e,()),(x,(Gt i z vs,((),((),((),((),()))))))) ))
    | none=>∃ z',nextB_l1 n g e x z full (full.length:Int) (i:Int)=some (.inr (g,((e,()),(x,(z',((),(Refused.mk 4,())))))))
  | 0,_,_,h,_,_=>absurd h (Nat.not_lt_zero _)
  | n+1,i,z,h,hi,hz=>by
    rw [nextB_l1]
    by_cases hx:i<full.length
    · have hd:full.drop i=full[i]::full.drop (i+1):=List.drop_eq_getElem_cons hx
      have ih:=fun z=>Hh g e x full hs hl n (i+1) z (by omega) (by omega)
      rw [show decide ((i:Int)<(full.length:Int))=true by simp; omega,cond_true,Bb hx,Option.bind_some,Ji (hs _ (List.getElem_mem hx)),Option.bind_some,hd,wN i (by omega)]
      unfold DM
      cases hv:JG full[i] with
      | none=>exact⟨z,rfl⟩
      | some v =>
        simp only [Sum.elim_inl]
        have h5:z.length.beq 5=true:=by rw [hz]; rfl
        rw [h5,cond_true,Bb (by omega),Option.bind_some,show((i:Nat):Int).toNat=i from rfl,Hz (by omega),Option.bind_some]
        have:=ih (z.set i v) (by simp [hz])
        cases hr:DM (full.drop (i+1)) with
        | none =>
          rw [hr] at this
          exact this
        | some vs =>
          rw [hr] at this
          simp only
          simp only at this
          rw [this,JI (by omega)]
    · have hd:full.drop i=[]:=by simp; omega
      rw [show decide ((i:Int)<(full.length:Int))=false by simp; omega,hd]
      simp [DM,Gt]
def Gu (text:ByteArray):Option (Int×List Int) :=
  match splitP text with
  | []=>none
  | p::r=>match mget keq9 Fd p with
    | none=>none
    | some x=>if ((r.length+1:Nat):Int)=x.many+1 then match DM r with
        | none=>none
        | some vs=>some (x.do_.f,vs++List.replicate (5-vs.length) 0)
      else none
def Bw (s:State) (f:Int):List Int→State×Int
  | [a,b,c,d,e] =>
    if f=189 then C9 s (Card.mk a b c (IK.mk 0) d 0) else
    if f=190 then C9 s (Card.mk a b c (IK.mk 1) d 0) else
    if f=191 then C9 s (Card.mk a b c (IK.mk 2) 0 d) else
    if f=192 then C9 s (Card.mk a b c (IK.mk 3) 0 0) else
    if f=193 then HJ s a b else
    if f=194 then K0 s a b c else
    if f=195 then Fb s (Record.mk a b c (IK.mk 0) d e) else
    if f=196 then Fb s (Record.mk a b c (IK.mk 1) d 0) else
    if f=197 then Fb s (Record.mk a b c (IK.mk 2) d e) else
    if f=198 then Jf s a b else
    if f=199 then Jg s (Duty.mk a b (Rg.mk c d) e) else
    Jh s a b
  | _=>(s,4)
def Bk (s:State) (text:ByteArray):State×Int:=match Gu text with
  | none=>(s,4)
  | some (f,l)=>if (Bw s f l).2=0 then Bw s f l else(s,(Bw s f l).2)
theorem Bz (c:UInt8):∀ (l:List UInt8),∀ p∈splitC c l,p.length≤l.length
  | [],p,h=>by simp [splitC] at h; subst h; simp
  | b::l,p,h=>by
    unfold splitC at h
    cases hb:b == c with
    | true =>
      rw [hb,cond_true] at h
      rcases List.mem_cons.1 h with rfl | h
      · simp
      · have:=Bz c l p h; simp; omega
    | false =>
      rw [hb,cond_false] at h
      split at h
      · rename_i hn; exact absurd hn (GW c l)
      · rename_i q r hq
        have h1:=Bz c l q (by rw [hq]; simp)
        rcases List.mem_cons.1 h with rfl | h
        · simp; omega
        · have:=Bz c l p (by rw [hq]; simp [h]); simp; omega
theorem HM {s p:ByteArray} (h:p∈splitP s):p.size≤s.size:=by
  unfold splitP at h
  obtain⟨l,hl,rfl⟩:=List.mem_map.1 h
  rw [C8,Cy]
  exact Bz _ _ _ hl
theorem Iq {α:Type} {l:List α} {a b:Nat} (h:a≤b) (h2:b≤l.length):lstSub l (a:Int) (b:Int)=some ((l.drop a).take (b-a)):=by
  unfold lstSub
  rw [if_pos ⟨by omega,by omega,by omega⟩]
  simp
def Jj (y:(Session×(Int×Unit)×Unit×Unit) ⊕ (Session×(Int×Unit)×Unit×Refused×Unit)):Option (Session×Int×Unit):=match y with
  | .inl a=>some (a.1,a.2.1.1,())
  | .inr a=>some (a.1,a.2.2.2.1.errno,())
theorem KB {x:Option ((Session×Unit) ⊕ (Session×Refused×Unit))} {s:State} {y:State×Int} (e0:Int) (h:x=some (Al s y)):((x.bind fun v8=>Sum.elim (fun v9=>some (.inl (v9.fst,((0,()),((),()))))) (fun v9=>some (.inr (v9.fst,((e0,()),((),(v9.snd.fst,())))))) v8).bind Jj)=some (Session.mk (if y.2=0 then y else(s,y.2)).1,(if y.2=0 then y else(s,y.2)).2,()):=by
  rw [h]
  unfold Al
  by_cases h0:y.2=0
  · rw [if_pos h0,if_pos h0,h0]; rfl
  · rw [if_neg h0,if_neg h0]; rfl
theorem Bn {x:Option ((Session×Unit) ⊕ (Session×Refused×Unit))} {s:State} {y z:State×Int} (e0:Int) (h:x=some (Al s y)) (hz:z=y):((x.bind fun v8=>Sum.elim (fun v9=>some (.inl (v9.fst,((0,()),((),()))))) (fun v9=>some (.inr (v9.fst,((e0,()),((),(v9.snd.fst,())))))) v8).bind Jj)=some (Session.mk (if z.2=0 then z else(s,z.2)).1,(if z.2=0 then z else(s,z.2)).2,()):=by
  subst hz; exact KB e0 h
theorem Ks:isSp (B [32])=true:=by decide
theorem Dl {text p:ByteArray} {r:List ByteArray} (hp:splitP text=p::r):Gu text=match mget keq9 Fd p with
    | none=>none
    | some x=>if ((r.length+1:Nat):Int)=x.many+1 then match DM r with
        | none=>none
        | some vs=>some (x.do_.f,vs++List.replicate (5-vs.length) 0)
      else none:=by
  unfold Gu
  rw [hp]
theorem HN {n:Nat} {s:State} {text:ByteArray} (hg:Bt s) (hn:1300<n) (ht:text.size≤1000000):IC n (Session.mk s) text=some (Session.mk (Bk s text).1,(Bk s text).2,()):=by
  show(nextB n (Session.mk s) text 0).bind Jj=_
  unfold nextB Bk splitS
  rw [Ks,show Nat.blt text.size 4294967281=true from Nat.ble_eq_true_of_le (by omega),Bool.and_self,cond_true,Option.bind_some,JH,Option.bind_some]
  simp only
  have hsz:∀ q∈splitP text,q.size≤1000000:=fun q hq=>Nat.le_trans (HM hq) ht
  cases hp:splitP text with
  | nil =>
    unfold splitP at hp
    exact absurd (List.map_eq_nil_iff.1 hp) (GW 32 _)
  | cons p r =>
    rw [hp] at hsz
    rw [show idx (p::r) 0=some p from rfl,Option.bind_some]
    unfold mhas mgetD
    cases hw:mget keq9 Fd p with
    | none =>
      have hpt:=Dl hp
      rw [hw] at hpt
      rw [hpt]
      simp only [Option.isSome_none,cond_false,AK]
      simp [AT,Jj]
    | some x =>
      obtain⟨m1,m2,f1,f2⟩:=Ip hw
      simp only [Option.isSome_some,cond_true,Option.getD_some]
      have hwr:IntKind.i64.wrap (x.many+1)=x.many+1:=BU (by omega) (by omega)
      simp only [AK,Option.bind_some,hwr,List.length_cons]
      by_cases hl:((r.length+1:Nat):Int)=x.many+1
      · have hpt:=Dl hp
        rw [hw] at hpt
        simp only [if_pos hl] at hpt
        rw [decide_eq_true hl]
        simp only [AT,cond_true,Sum.elim_inl]
        have hsub:lstSub (p::r) 1 ((r.length+1:Nat):Int)=some r:=by
          have:=Iq (l:=p::r) (a:=1) (b:=r.length+1) (by omega) (by simp)
          rw [show((1:Nat):Int)=1 from rfl] at this
          rw [this]
          simp
        rw [hsub,Option.bind_some]
        have hloop:=Hh (Session.mk s) 0 x r (fun q hq=>hsz q (by simp [hq])) (by omega) n 0 [0,0,0,0,0] (by omega) (by omega) rfl
        rw [show((0:Nat):Int)=0 from rfl,List.drop_zero] at hloop
        cases hv:DM r with
        | none =>
          rw [hv] at hloop
          obtain⟨z',hz⟩:=hloop
          rw [hv] at hpt
          rw [hz,hpt]; simp [Jj]
        | some vs =>
          rw [hv] at hloop hpt
          simp only at hpt
          have hvl:=Hg hv
          rw [hpt]
          simp only
          rw [hloop,Option.bind_some]
          simp only [Sum.elim_inl]
          have hlaid:Gt 0 [0,0,0,0,0] vs=vs++List.replicate (5-vs.length) 0:=by
            unfold Gt
            rw [List.take_zero,List.nil_append,Nat.zero_add,show([0,0,0,0,0]:List Int)=List.replicate 5 0 from rfl,List.drop_replicate]
          have h5:(vs++List.replicate (5-vs.length) (0:Int)).length=5:=by rw [List.length_append,List.length_replicate]; omega
          rw [hlaid]
          generalize vs++List.replicate (5-vs.length) (0:Int)=l at *
          match l,h5 with
          | [a,b,c,d,e],_ =>
            generalize x.do_.f=f at *
            rw [show([a,b,c,d,e]:List Int).length.beq 5=true from rfl,cond_true]
            by_cases q0:f=189
            · subst q0; exact Bn _ (JC hg (by omega)) (by simp [Bw])
            rw [decide_eq_false q0,cond_false]
            by_cases q1:f=190
            · subst q1; exact Bn _ (Ko hg (by omega)) (by simp [Bw])
            rw [decide_eq_false q1,cond_false]
            by_cases q2:f=191
            · subst q2; exact Bn _ (Jd hg (by omega)) (by simp [Bw])
            rw [decide_eq_false q2,cond_false]
            by_cases q3:f=192
            · subst q3; exact Bn _ (HI hg (by omega)) (by simp [Bw])
            rw [decide_eq_false q3,cond_false]
            by_cases q4:f=193
            · subst q4; exact Bn _ (Kp hg (by omega)) (by simp [Bw])
            rw [decide_eq_false q4,cond_false]
            by_cases q5:f=194
            · subst q5; exact Bn _ (KA hg (by omega)) (by simp [Bw])
            rw [decide_eq_false q5,cond_false]
            by_cases q6:f=195
            · subst q6; exact Bn _ (Kq hg (by omega)) (by simp [Bw])
            rw [decide_eq_false q6,cond_false]
            by_cases q7:f=196
            · subst q7; exact Bn _ (Kr hg (by omega)) (by simp [Bw])
            rw [decide_eq_false q7,cond_false]
            by_cases q8:f=197
            · subst q8; exact Bn _ (JD hg (by omega)) (by simp [Bw])
            rw [decide_eq_false q8,cond_false]
            by_cases q9:f=198
            · subst q9; exact Bn _ (Im hg (by omega)) (by simp [Bw])
            rw [decide_eq_false q9,cond_false]
            by_cases q10:f=199
            · subst q10; exact Bn _ (JE hg (by omega)) (by simp [Bw])
            rw [decide_eq_false q10,cond_false]
            have q11:f=200:=by omega
            subst q11
            exact Bn _ (JF hg (by omega)) (by simp [Bw])
      · have hpt:=Dl hp
        rw [hw] at hpt
        simp only [if_neg hl] at hpt
        rw [decide_eq_false hl,hpt]; simp [AT,Jj]
end Go.Proofs.YtkpgggfibljflaaGreatDoor
namespace Go.Proofs.YtkpgggfibljflaaGreatDoor
open Go Go.RowKit Go.Proofs
def Fe (s s':State):Prop:=Bt s'∧s'.outs.length≤s.outs.length+1∧s'.runs.length≤s.runs.length+1∧s'.records.length≤s.records.length+1
def JJ (s:State):Prop:=s.outs.length<200∧s.runs.length<200∧s.records.length<200
theorem Fe.refl {s:State} (h:Bt s):Fe s s:=⟨h,by omega,by omega,by omega⟩
theorem JK {l:List Card} (h:Kx l=0):l.length≤40:=by
  unfold Kx at h
  cases hr:CZ l with
  | inl e=>rw [hr] at h; have:=GZ hr; simp only at h; omega
  | inr y=>exact(GY hr).1
theorem DC {s:State} (hg:Bt s) {c:Card} (hk:DR c) (h0:(C9 s c).2=0):Fe s (C9 s c).1:=by
  unfold C9 at h0 ⊢
  split at h0
  · cases h0
  · rename_i h1
    rw [if_neg h1]
    split at h0
    · rename_i h2
      rw [if_pos h2]
      refine⟨{ hg with kind:=fun a ha=>?_,cards:=JK h2,chk:=h2 },by simp,by simp,by simp⟩
      rcases List.mem_append.1 ha with ha | ha
      · exact hg.kind a ha
      · rw [List.mem_singleton.1 ha]; exact hk
    · rename_i h2; exact absurd h0 h2
theorem KC {s:State} {a b:Int} (h0:(HJ s a b).2=0):(Bj a 0 99 && Bj b 0 1000000)=true∧Gs s.outs a<0∧Hf s.runs a b=true∧Da s.cards a b=([],0)∧(HJ s a b).1={ s with outs:=s.outs++[Out.mk a b] }:=by
  unfold HJ at h0 ⊢
  by_cases c1:(Bj a 0 99 && Bj b 0 1000000)=true
  · rw [if_pos c1] at h0 ⊢
    by_cases c2:Gs s.outs a<0
    · rw [if_pos c2] at h0 ⊢
      by_cases c3:Hf s.runs a b=true
      · rw [if_pos c3] at h0 ⊢
        by_cases c4:(Da s.cards a b).2=0
        · rw [if_pos c4] at h0 ⊢
          by_cases c5:(Da s.cards a b).1=[]
          · rw [if_pos c5]
            exact⟨c1,c2,c3,Prod.ext c5 c4,rfl⟩
          · rw [if_neg c5] at h0; cases h0
        · rw [if_neg c4] at h0; exact absurd h0 c4
      · rw [if_neg c3] at h0; cases h0
    · rw [if_neg c2] at h0; cases h0
  · rw [if_neg c1] at h0; cases h0
theorem JL {s:State} (hg:Bt s) (hr:JJ s) {a b:Int} (h0:(HJ s a b).2=0):Fe s (HJ s a b).1:=by
  obtain⟨r1,r2,r3⟩:=hr
  rw [(KC h0).2.2.2.2]
  exact⟨{ hg with outs:=by simp; omega },by simp,by simp,by simp⟩
theorem KW {s:State} {a b c:Int} (h0:(K0 s a b c).2=0):∃ (k:Nat)(hk:k<s.outs.length),FA s.outs a=some k∧(K0 s a b c).1={ s with outs:=s.outs.eraseIdx k,runs:=s.runs++[Run.mk s.outs[k].bus s.outs[k].fr b c] }∧Bj b s.outs[k].fr 1000000=true∧Bj c 0 1000=true:=by
  unfold K0 at h0 ⊢
  cases hgo:FA s.outs a with
  | none=>rw [hgo] at h0; cases h0
  | some k =>
    obtain⟨hk,_⟩:=HK hgo
    rw [hgo] at h0
    simp only [List.getElem?_eq_getElem hk] at h0 ⊢
    by_cases c1:(Bj b s.outs[k].fr 1000000 && Bj c 0 1000)=true
    · rw [if_pos c1]
      rw [Bool.and_eq_true] at c1
      exact⟨k,hk,rfl,rfl,c1.1,c1.2⟩
    · rw [if_neg c1] at h0; cases h0
theorem Kt {s:State} (hg:Bt s) (hr:JJ s) {a b c:Int} (h0:(K0 s a b c).2=0):Fe s (K0 s a b c).1:=by
  obtain⟨r1,r2,r3⟩:=hr
  obtain⟨k,hk,_,e,_⟩:=KW h0
  rw [e]
  have:=List.length_eraseIdx_le s.outs k
  exact⟨{ hg with outs:=by show(s.outs.eraseIdx k).length≤200; omega,runs:=by simp; omega },by show(s.outs.eraseIdx k).length≤_; omega,by simp,by simp⟩
theorem KD {s:State} {r:Record} (h0:(Fb s r).2=0):(Fb s r).1={ s with records:=s.records++[r] }∧s.records.any (AM r)=false∧DT [s.records,[r]]=0:=by
  unfold Fb at h0 ⊢
  by_cases c1:s.records.any (AM r)=true
  · rw [if_pos c1] at h0; cases h0
  · rw [if_neg c1] at h0 ⊢
    by_cases c2:DT [s.records,[r]]=0
    · rw [if_pos c2]; exact⟨rfl,by simpa using c1,c2⟩
    · rw [if_neg c2] at h0; exact absurd h0 c2
theorem Gv {s:State} (hg:Bt s) (hr:JJ s) {r:Record} (hk:Hr r) (h0:(Fb s r).2=0):Fe s (Fb s r).1:=by
  obtain⟨r1,r2,r3⟩:=hr
  rw [(KD h0).1]
  exact⟨{ hg with recs:=by simp; omega,rk:=fun a ha=>(List.mem_append.1 ha).elim (hg.rk a) (fun ha=>by rw [List.mem_singleton.1 ha]; exact hk) },by simp,by simp,by simp⟩
theorem Gw {w:Week} (h:Ba w=0):w.duties.length≤12∧w.drivers.length≤6:=by
  unfold Ba at h
  by_cases c1:12<w.duties.length
  · rw [if_pos c1] at h; cases h
  · rw [if_neg c1] at h
    by_cases c2:6<w.drivers.length
    · rw [if_pos c2] at h; cases h
    · exact⟨by omega,by omega⟩
theorem JM {s:State} (hg:Bt s) {k off:Int} (h0:(Jf s k off).2=0):Fe s (Jf s k off).1:=by
  unfold Jf at h0 ⊢
  by_cases c:Ba (FN s.week k off)=0
  · rw [if_pos c]
    obtain⟨w1,w2⟩:=Gw c
    exact⟨{ hg with days:=hg.days,rest:=hg.rest,run:=hg.run,hours:=hg.hours,duties:=w1,drivers:=w2,ros:=hg.ros,wk:=c,drv:=fun d hd=>(List.mem_append.1 hd).elim (hg.drv d) (fun hd=>⟨k,off,List.mem_singleton.1 hd⟩) },by simp,by simp,by simp⟩
  · rw [if_neg c] at h0; exact absurd h0 c
theorem JN {s:State} (hg:Bt s) {d:Duty} (h0:(Jg s d).2=0):Fe s (Jg s d).1:=by
  unfold Jg at h0 ⊢
  by_cases c:Ba (Fc s.week d)=0
  · rw [if_pos c]
    obtain⟨w1,w2⟩:=Gw c
    exact⟨{ hg with days:=hg.days,rest:=hg.rest,run:=hg.run,hours:=hg.hours,duties:=w1,drivers:=w2,drv:=hg.drv,ros:=by simp [Fc,hg.ros],wk:=c },by simp,by simp,by simp⟩
  · rw [if_neg c] at h0; exact absurd h0 c
theorem JO {s:State} (hg:Bt s) {i k:Int} (h0:(Jh s i k).2=0):Fe s (Jh s i k).1:=by
  unfold Jh at h0 ⊢
  by_cases c1:(Bj i 0 ((s.roster.length:Int)-1) && Bj k (-1) ((s.week.drivers.length:Int)-1))=true
  · rw [if_pos c1] at h0 ⊢
    by_cases c2:Gq s.week (s.roster.set i.toNat k)=true
    · rw [if_pos c2]
      exact⟨{ hg with ros:=by simp [hg.ros] },by simp,by simp,by simp⟩
    · rw [if_neg c2] at h0; cases h0
  · rw [if_neg c1] at h0; cases h0
theorem Jk {s:State} (hg:Bt s) (hr:JJ s) {f:Int} {l:List Int} (h0:(Bw s f l).2=0):Fe s (Bw s f l).1:=by
  unfold Bw at h0 ⊢
  split at h0
  · by_cases q0:f=189
    · rw [if_pos q0] at h0 ⊢; exact DC hg ⟨by simp,by simp⟩ h0
    rw [if_neg q0] at h0 ⊢
    by_cases q0:f=190
    · rw [if_pos q0] at h0 ⊢; exact DC hg ⟨by simp,by simp⟩ h0
    rw [if_neg q0] at h0 ⊢
    by_cases q0:f=191
    · rw [if_pos q0] at h0 ⊢; exact DC hg ⟨by simp,by simp⟩ h0
    rw [if_neg q0] at h0 ⊢
    by_cases q0:f=192
    · rw [if_pos q0] at h0 ⊢; exact DC hg ⟨by simp,by simp⟩ h0
    rw [if_neg q0] at h0 ⊢
    by_cases q0:f=193
    · rw [if_pos q0] at h0 ⊢; exact JL hg hr h0
    rw [if_neg q0] at h0 ⊢
    by_cases q0:f=194
    · rw [if_pos q0] at h0 ⊢; exact Kt hg hr h0
    rw [if_neg q0] at h0 ⊢
    by_cases q0:f=195
    · rw [if_pos q0] at h0 ⊢; exact Gv hg hr ⟨by simp,by simp⟩ h0
    rw [if_neg q0] at h0 ⊢
    by_cases q0:f=196
    · rw [if_pos q0] at h0 ⊢; exact Gv hg hr ⟨by simp,by simp⟩ h0
    rw [if_neg q0] at h0 ⊢
    by_cases q0:f=197
    · rw [if_pos q0] at h0 ⊢; exact Gv hg hr ⟨by simp,by simp⟩ h0
    rw [if_neg q0] at h0 ⊢
    by_cases q0:f=198
    · rw [if_pos q0] at h0 ⊢; exact JM hg h0
    rw [if_neg q0] at h0 ⊢
    by_cases q0:f=199
    · rw [if_pos q0] at h0 ⊢; exact JN hg h0
    rw [if_neg q0] at h0 ⊢
    exact JO hg h0
  · cases h0
theorem Jl {s:State} (hg:Bt s) (hr:JJ s) (t:ByteArray):Fe s (Bk s t).1:=by
  unfold Bk
  cases Gu t with
  | none=>exact Fe.refl hg
  | some y =>
    obtain⟨f,l⟩:=y
    simp only
    by_cases h0:(Bw s f l).2=0
    · rw [if_pos h0]; exact Jk hg hr h0
    · rw [if_neg h0]; exact Fe.refl hg
theorem JP {s:State} {t:ByteArray} (h:(Bk s t).2≠0):(Bk s t).1=s:=by
  unfold Bk at h ⊢
  cases hp:Gu t with
  | none=>rfl
  | some y =>
    obtain⟨f,l⟩:=y
    rw [hp] at h
    simp only at h ⊢
    by_cases h0:(Bw s f l).2=0
    · rw [if_pos h0] at h; exact absurd h0 h
    · rw [if_neg h0]
def Ab:State:=State.mk [] [] [] [] (Week.mk 7 [] [] 600 5 3000) []
theorem Ir:Bt Ab where
  kind:=by simp [Ab]
  cards:=by simp [Ab]
  outs:=by simp [Ab]
  runs:=by simp [Ab]
  rk:=by simp [Ab]
  recs:=by simp [Ab]
  days:=rfl
  rest:=rfl
  run:=rfl
  hours:=rfl
  duties:=by simp [Ab]
  drivers:=by simp [Ab]
  drv:=by simp [Ab]
  ros:=rfl
  wk:=rfl
  chk:=rfl
def A4 (s:State):List ByteArray→State×List Int
  | []=>(s,[])
  | t::r=>((A4 (Bk s t).1 r).1,(Bk s t).2::(A4 (Bk s t).1 r).2)
def Dm (m:Nat) (s:State):Prop:=Bt s∧s.outs.length+m≤200∧s.runs.length+m≤200∧s.records.length+m≤200
theorem Dm.step {m:Nat} {s:State} (h:Dm (m+1) s) (t:ByteArray):Dm m (Bk s t).1:=by
  obtain⟨h1,h2,h3,h4⟩:=h
  obtain⟨a,b,c,d⟩:=Jl h1 ⟨by omega,by omega,by omega⟩ t
  exact⟨a,by omega,by omega,by omega⟩
theorem Dm.less {m k:Nat} {s:State} (h:Dm m s) (hk:k≤m):Dm k s:=⟨h.1,by have:=h.2.1; omega,by have:=h.2.2.1; omega,by have:=h.2.2.2; omega⟩
theorem Gx:Dm 150 Ab:=⟨Ir,by simp [Ab],by simp [Ab],by simp [Ab]⟩
theorem Gy:∀ (l:List ByteArray)(m:Nat)(s:State),Dm (m+l.length) s→Dm m (A4 s l).1
  | [],m,s,h=>h
  | t::l,m,s,h=>by
    simp only [A4]
    exact Gy l m _ (Dm.step (by rw [show m+(t::l).length=m+l.length+1 by simp; omega] at h; exact h) t)
theorem Hi:∀ (l:List ByteArray)(s:State),(A4 s l).2.length=l.length
  | [],_=>rfl
  | t::l,s=>by simp [A4,Hi l]
theorem Gz (full:List ByteArray) (hs:∀ t∈full,t.size≤1000000) (hl:full.length≤150):∀ (n i:Nat)(s:State)(es:List Int),1400+(full.length-i)<n→i≤full.length→Dm (full.length-i) s→es.length=i→Ao n (Session.mk s) es full (full.length:Int) (i:Int)=some (Session.mk (A4 s (full.drop i)).1,((),(es++(A4 s (full.drop i)).2,())))
  | 0,_,_,_,h,_,_,_=>absurd h (Nat.not_lt_zero _)
  | n+1,i,s,es,h,hi,hL,he=>by
    rw [Ao]
    by_cases hx:i<full.length
    · have hd:full.drop i=full[i]::full.drop (i+1):=List.drop_eq_getElem_cons hx
      rw [show decide ((i:Int)<(full.length:Int))=true by simp; omega,cond_true,Bb hx,Option.bind_some,HN hL.1 (by omega) (hs _ (List.getElem_mem hx)),Option.bind_some]
      simp only
      rw [Ad (by simp; omega),Option.bind_some,wN i (by omega)]
      have hL':Dm (full.length-(i+1)) (Bk s full[i]).1:=Dm.step (by rw [show full.length-(i+1)+1=full.length-i by omega]; exact hL) _
      rw [Gz full hs hl n (i+1) _ _ (by omega) (by omega) hL' (by simp [he]),hd]
      simp [A4]
    · have hd:full.drop i=[]:=by simp; omega
      rw [show decide ((i:Int)<(full.length:Int))=false by simp; omega,hd]
      simp [A4]
theorem IB {n:Nat} {lines:List ByteArray} (hs:∀ t∈lines,t.size≤1000000) (hl:lines.length≤150) (hn:1600≤n):AU n lines=some (Session.mk (A4 Ab lines).1,((A4 Ab lines).2,())):=by
  unfold AU
  have h:=Gz lines hs hl n 0 Ab [] (by omega) (by omega) (Gx.less (by omega)) rfl
  rw [show((0:Nat):Int)=0 from rfl,List.drop_zero,List.nil_append] at h
  show(Ao n (Session.mk Ab) [] lines (lines.length:Int) 0).bind _=_
  rw [h]; rfl
theorem Ku {n:Nat} {lines:List ByteArray} (hr:BE lines=true) (hn:1600≤n):B5 n lines=some ((A4 Ab lines).1,((A4 Ab lines).2,(0,()))):=by
  obtain⟨h1,h2⟩:=BF.1 hr
  unfold B5
  rw [Gf (by omega) (by omega),hr,Option.bind_some]
  simp only [cond_true]
  rw [show((0:Int) != 0)=false from rfl,cond_false,IB (fun t ht=>Nat.le_trans (h2 t ht) (by decide)) (by omega) hn]
  rfl
end Go.Proofs.YtkpgggfibljflaaGreatDoor
namespace Go.Proofs.YtkpgggfibljflaaGreatDoor
open Go Go.RowKit Go.Proofs
theorem JQ {n:Nat} {lines:List ByteArray} (hbig:lines.length≤4000000000000000000) (hn:lines.length<n):∃ b,Ew n lines=some (b,()):=by
  have H:∀ (n i:Nat)(z:Int),lines.length-i<n→i≤lines.length→∃ z',BS n lines z (i:Int)=some (lines,(z',())):=by
    intro n
    induction n with
    | zero=>intro i z h; exact absurd h (Nat.not_lt_zero _)
    | succ n ih =>
      intro i z h hi
      rw [BS]
      by_cases hx:i<lines.length
      · rw [show decide ((i:Int)<(lines.length:Int))=true by simp; omega,cond_true,Bb hx,Option.bind_some,wN i (by omega)]
        exact ih (i+1) _ (by omega) (by omega)
      · rw [show decide ((i:Int)<(lines.length:Int))=false by simp; omega,cond_false]
        exact⟨z,rfl⟩
  obtain⟨z,hz⟩:=H n 0 0 (by omega) (by omega)
  rw [show((0:Nat):Int)=0 from rfl] at hz
  unfold Ew
  rw [hz]
  simp only [Option.bind_some]
  generalize decide ((lines.length:Int)≤30)=b1
  generalize decide ((lines.length:Int)≤52)=b2
  generalize decide ((lines.length:Int)=1)=b3
  generalize decide (z≤1200)=b4
  generalize decide (z≤400)=b5
  cases b1 <;> cases b2 <;> cases b3 <;> cases b4 <;> cases b5 <;> exact⟨_,rfl⟩
theorem Is {n:Nat} {lines:List ByteArray} (hbig:lines.length≤4000000000000000000) (hn:lines.length<n):∃ b,CW n lines=some (b,())∧(b=true→BE lines=true):=by
  obtain⟨b,hb⟩:=JQ hbig hn
  unfold CW
  rw [hb,Option.bind_some]
  cases b with
  | false=>exact⟨false,rfl,fun h=>by cases h⟩
  | true =>
    simp only [cond_true]
    rw [J0 hbig hn,Option.bind_some]
    exact⟨_,rfl,id⟩
def AJ (s:State):List ByteArray→List ByteArray
  | []=>[]
  | t::r=>if (Bk s t).2=0 then t::AJ (Bk s t).1 r else AJ (Bk s t).1 r
def HO:List ByteArray→List Int→List ByteArray
  | t::r,e::es=>if e=0 then t::HO r es else HO r es
  | _,_=>[]
theorem HP:∀ (l:List ByteArray)(s:State),HO l (A4 s l).2=AJ s l
  | [],_=>rfl
  | t::l,s=>by
    simp only [A4,HO,AJ,HP l]
theorem JR {lines:List ByteArray} {es:List Int} (he:es.length=lines.length) (hl:lines.length≤1000) {n:Nat} (hn:lines.length<n):CS n lines es=some (HO lines es,()):=by
  have H:∀ (n i:Nat)(out:List ByteArray),lines.length-i<n→i≤lines.length→out.length≤i→AC n lines es out (i:Int)=some (out++HO (lines.drop i) (es.drop i),()):=by
    intro n
    induction n with
    | zero=>intro i out h; exact absurd h (Nat.not_lt_zero _)
    | succ n ih =>
      intro i out h hi ho
      rw [AC]
      by_cases hx:i<lines.length
      · have hx2:i<es.length:=by omega
        have hd:lines.drop i=lines[i]::lines.drop (i+1):=List.drop_eq_getElem_cons hx
        have hd2:es.drop i=es[i]::es.drop (i+1):=List.drop_eq_getElem_cons hx2
        rw [show decide ((i:Int)<(es.length:Int))=true from decide_eq_true (by omega),cond_true,show decide ((i:Int)<(lines.length:Int))=true from decide_eq_true (by omega),cond_true,Bb hx2,Option.bind_some,Bb hx,Option.bind_some,wN i (by omega),hd,hd2]
        unfold HO
        by_cases h0:es[i]=0
        · rw [decide_eq_true h0,cond_true,if_pos h0,Ad (by simp; omega),Option.bind_some,ih (i+1) _ (by omega) (by omega) (by simp; omega)]
          simp
        · rw [decide_eq_false h0,cond_false,if_neg h0,ih (i+1) _ (by omega) (by omega) (by omega)]
      · have hd:lines.drop i=[]:=by simp; omega
        rw [show decide ((i:Int)<(es.length:Int))=false from decide_eq_false (by omega),cond_false,hd]
        simp [HO]
  have h:=H n 0 [] (by omega) (by omega) (by simp)
  rw [show((0:Nat):Int)=0 from rfl,List.drop_zero,List.drop_zero,List.nil_append] at h
  unfold CS
  rw [h]; rfl
theorem Et:∀ (l:List ByteArray)(s:State),(AJ s l).length≤l.length
  | [],_=>by simp [AJ]
  | t::l,s=>by
    have:=Et l (Bk s t).1
    unfold AJ
    split
    · simp; omega
    · simp; omega
theorem Eu:∀ (l:List ByteArray)(s:State),∀ t∈AJ s l,t∈l
  | [],_,t,h=>by cases h
  | a::l,s,t,h=>by
    unfold AJ at h
    split at h
    · rcases List.mem_cons.1 h with rfl | h
      · simp
      · exact List.mem_cons_of_mem _ (Eu l _ t h)
    · exact List.mem_cons_of_mem _ (Eu l _ t h)
theorem Ff:∀ (l:List ByteArray)(s:State),AJ s (AJ s l)=AJ s l
  | [],_=>rfl
  | t::l,s=>by
    by_cases h:(Bk s t).2=0
    · have e:AJ s (t::l)=t::AJ (Bk s t).1 l:=by simp only [AJ,if_pos h]
      rw [e]
      simp only [AJ,if_pos h,Ff l]
    · have e:AJ s (t::l)=AJ s l:=by simp only [AJ,if_neg h,JP h]
      rw [e,Ff l]
theorem HQ:∀ (a b:List ByteArray)(s:State),AJ s (a++b)=AJ s a++AJ (A4 s a).1 b
  | [],_,_=>rfl
  | t::a,b,s=>by
    simp only [List.cons_append,AJ,A4,HQ a b]
    split <;> simp
theorem It {s:State} {l:List ByteArray} (h:AJ s l=l) (k:Nat):AJ s (l.take k)=l.take k∧AJ (A4 s (l.take k)).1 (l.drop k)=l.drop k:=by
  have h1:=HQ (l.take k) (l.drop k) s
  rw [List.take_append_drop,h] at h1
  have l1:=Et (l.take k) s
  have l2:=Et (l.drop k) (A4 s (l.take k)).1
  have l3:=congrArg List.length h1
  rw [List.length_append] at l3
  have l4:l.length=(l.take k).length+(l.drop k).length:=by rw [← List.length_append,List.take_append_drop]
  have h2:l.take k++l.drop k=AJ s (l.take k)++AJ (A4 s (l.take k)).1 (l.drop k):=by rw [List.take_append_drop]; exact h1
  obtain⟨a,b⟩:=List.append_inj h2 (by omega)
  exact⟨a.symm,b.symm⟩
theorem CN (full:List ByteArray) (hs:∀ t∈full,t.size≤1000000) (hl:full.length≤100):∀ (n i:Nat)(s:State)(out:List ByteArray),1400+(full.length-i)<n→i≤full.length→Dm (full.length-i) s→out.length≤1000+i→∃ s',Ag n out (Session.mk s) full (full.length:Int) (i:Int)=some (s',(out++AJ s (full.drop i),()))
  | 0,_,_,_,h,_,_,_=>absurd h (Nat.not_lt_zero _)
  | n+1,i,s,out,h,hi,hL,ho=>by
    rw [Ag]
    by_cases hx:i<full.length
    · have hd:full.drop i=full[i]::full.drop (i+1):=List.drop_eq_getElem_cons hx
      rw [show decide ((i:Int)<(full.length:Int))=true by simp; omega,cond_true,Bb hx,Option.bind_some,HN hL.1 (by omega) (hs _ (List.getElem_mem hx)),Option.bind_some]
      simp only
      rw [wN i (by omega),hd]
      have hL':Dm (full.length-(i+1)) (Bk s full[i]).1:=Dm.step (by rw [show full.length-(i+1)+1=full.length-i by omega]; exact hL) _
      simp only [AJ]
      by_cases h0:(Bk s full[i]).2=0
      · rw [decide_eq_true h0,cond_true,if_pos h0,Ad (by simp; omega),Option.bind_some]
        obtain⟨s',e⟩:=CN full hs hl n (i+1) _ (out++[full[i]]) (by omega) (by omega) hL' (by simp; omega)
        exact⟨s',by rw [e]; simp⟩
      · rw [decide_eq_false h0,cond_false,if_neg h0]
        exact CN full hs hl n (i+1) _ out (by omega) (by omega) hL' (by omega)
    · have hd:full.drop i=[]:=by simp; omega
      rw [show decide ((i:Int)<(full.length:Int))=false by simp; omega,hd]
      exact⟨_,by simp [AJ]; rfl⟩
theorem Rd.sizes:∀ {k i:Nat} {b:List UInt8} {r:List (List UInt8)},Rd k i b r→∀ l∈r,l.length≤200
  | _,_,_,_,.full _ _,l,h=>by cases h
  | _,_,_,_,.stop _,l,h=>by cases h
  | _,_,_,_,.more hf hr,l,h=>by
    rcases List.mem_cons.1 h with rfl | h
    · exact hf.1
    · exact hr.sizes l h
theorem Rd.le':∀ {k i:Nat} {b:List UInt8} {r:List (List UInt8)},Rd k i b r→r.length≤k
  | _,_,_,_,.full _ _=>by simp
  | _,_,_,_,.stop _=>by simp
  | _,_,_,_,.more _ h=>by have:=h.le'; simp; omega
theorem Hj {n:Nat} {b:List UInt8} {r:List (List UInt8)} {more:List ByteArray} (hb:b.length≤1000000) (hR:Rd 50 0 b r) (hm:BE more=true) (hn:1700≤n) (h50:(r.map mkB++AJ (A4 Ab (r.map mkB)).1 more).length≤50) :
    AR n (bL b) more=some (bL (Ac 0 (Fz (r.map mkB++AJ (A4 Ab (r.map mkB)).1 more))),(0,())):=by
  obtain⟨m1,m2⟩:=BF.1 hm
  have hsz:∀ t∈r.map mkB,t.size≤200:=fun t ht=>by
    obtain⟨l,hl,rfl⟩:=List.mem_map.1 ht
    rw [C8]; exact hR.sizes l hl
  have hle:=hR.le'
  unfold AR
  rw [Gf (by omega) (by omega),hm,Option.bind_some]
  simp only [cond_true]
  rw [show((0:Int) != 0)=false from rfl,cond_false,Gh hb (by omega) hR,Option.bind_some]
  simp only
  rw [IB (fun t ht=>Nat.le_trans (hsz t ht) (by decide)) (by rw [List.length_map]; omega) (by omega),Option.bind_some]
  simp only
  have hL:Dm (more.length-0) (A4 Ab (r.map mkB)).1:=Gy _ _ _ (Gx.less (by rw [List.length_map]; omega))
  obtain⟨s',e⟩:=CN more (fun t ht=>Nat.le_trans (m2 t ht) (by decide)) (by omega) n 0 _ (r.map mkB) (by omega) (by omega) hL (by rw [List.length_map]; omega)
  rw [show((0:Nat):Int)=0 from rfl,List.drop_zero] at e
  rw [e,Option.bind_some]
  simp only
  rw [show decide ((((r.map mkB++AJ (A4 Ab (r.map mkB)).1 more).length:Nat):Int)>50)=false from decide_eq_false (by omega),cond_false,Ge (fun t ht=>by
    rcases List.mem_append.1 ht with ht | ht
    · exact hsz t ht
    · exact m2 t (Eu _ _ t ht)) (by omega) (by omega)]
  rfl
theorem JS (ls:List ByteArray) (c:Nat):∀ m,m≤ls.length→∃ k,k≤m∧(GV ls k).length≤c∧(k<m→c<(GV ls (k+1)).length)
  | 0,_=>⟨0,by omega,by simp [GV,Fz,Ac],fun h=>by omega⟩
  | m+1,h=>by
    obtain⟨k,h1,h2,h3⟩:=JS ls c m (by omega)
    by_cases hk:k<m
    · exact⟨k,by omega,h2,fun _=>h3 hk⟩
    · have:k=m:=by omega
      subst this
      by_cases hc:(GV ls (k+1)).length≤c
      · exact⟨k+1,by omega,hc,fun h=>by omega⟩
      · exact⟨k,by omega,h2,fun _=>by omega⟩
theorem Iu {n:Nat} {lines:List ByteArray} {a:Int} (hn:lines.length+1800≤n) (hbig:lines.length≤4000000000000000000) (ha:0≤a∧a≤65535):AI n lines ⟨a⟩=some (true,()):=by
  unfold AI
  obtain⟨rb,hrb,hrt⟩:=Is (n:=n) hbig (by omega)
  have hw:((BN n).bind fun v1=>some (v1.fst,()))=some (true,()):=by rw [Ke (by omega)]; rfl
  rw [hrb,Option.bind_some,hw]
  cases rb with
  | false=>rfl
  | true =>
    have hr:=hrt rfl
    obtain⟨m1,m2⟩:=BF.1 hr
    simp only [Bool.not_true,cond_false]
    have hpl:=Hi lines Ab
    rw [Hm (by omega),Option.bind_some]
    simp only
    rw [Ku hr (by omega),Option.bind_some]
    simp only
    rw [JR hpl (by omega) (by omega),Option.bind_some,HP]
    simp only
    have ha1:=Et lines Ab
    have ha2:=Ff lines Ab
    have ha3:∀ t∈AJ Ab lines,t.size≤200:=fun t ht=>m2 t (Eu _ _ t ht)
    generalize hacc:AJ Ab lines=acc at *
    have hra:BE acc=true:=BF.2 ⟨by omega,ha3⟩
    rw [Hm (by omega),Option.bind_some]
    simp only
    rw [Jx (by omega) (by omega),hra,Option.bind_some,Option.bind_some]
    simp only [cond_true]
    have hR0:Rd 50 0 [] []:=.stop Ei
    have hx:=Hj (n:=n) (more:=lines) (b:=[]) (by simp) hR0 hr (by omega) (by simp [A4,hacc]; omega)
    simp only [List.map_nil,A4,hacc,List.nil_append] at hx
    rw [show bL []=[] from rfl] at hx
    rw [hx,Option.bind_some]
    simp only
    rw [show((0:Int) != 0)=false from rfl,Bool.not_false,cond_true,cond_true,cond_true,FX,HT,decide_eq_true rfl,Bool.not_true,cond_false]
    have hbe:GV acc acc.length=Ac 0 (Fz acc):=by unfold GV; rw [List.take_length]
    have hls:=K8 ha3
    have hble:=Gd (Fz acc) 0 hls
    rw [CI] at hble
    obtain⟨u,rfl⟩:∃ u:Nat,a=u:=⟨a.toNat,by omega⟩
    generalize hb:Ac 0 (Fz acc)=b at *
    rw [Bd,BU (x:=((u:Nat):Int)) (by omega) (by omega),wN b.length (by omega)]
    have hrem:remQ ((u:Nat):Int) ((b.length+1:Nat):Int)=some ((u % (b.length+1):Nat):Int):=rfl
    rw [hrem,Option.bind_some]
    have hcut:u % (b.length+1)<b.length+1:=Nat.mod_lt _ (by omega)
    generalize u % (b.length+1)=cut at *
    obtain⟨k,k1,k2,k3⟩:=JS acc cut acc.length (by omega)
    have hr1:Rd 50 0 (b.take cut) (Fz (acc.take k)):=by
      have:=Rd.cut (ls:=Fz acc) (n:=k) (c:=cut) (k:=50) hls (by rw [CI]; omega) (by rw [CI]; omega) (by rw [Gi]; exact k2) (fun h=>by rw [Gi]; exact k3 (by rw [CI] at h; exact h))
      rw [Gi,hb] at this; exact this
    rw [Kf (by rw [Bd]; omega),Option.bind_some,Ix,Ad (a:=[]) (by simp [Bd]; omega),Option.bind_some,List.nil_append]
    rw [Gh (by rw [List.length_take]; omega) (by omega) hr1,Option.bind_some]
    simp only [HW]
    have hkl:(acc.take k).length=k:=by rw [List.length_take]; omega
    rw [hkl,show decide ((k:Int)>(acc.length:Int))=false from decide_eq_false (by omega),cond_false,Option.bind_some,Ad (a:=[]) (by simp [Bd]; omega),Option.bind_some,List.nil_append,EZ (by omega) (Nat.le_refl _),Option.bind_some]
    have hdr:(acc.drop k).take (acc.length-k)=acc.drop k:=List.take_of_length_le (by rw [List.length_drop]; omega)
    rw [hdr,Hm (by rw [List.length_drop]; omega),Option.bind_some]
    simp only
    obtain⟨s1,s2⟩:=It ha2 k
    have hrd:BE (acc.drop k)=true:=BF.2 ⟨by rw [List.length_drop]; omega,fun t ht=>ha3 t (List.mem_of_mem_drop ht)⟩
    have hy:=Hj (n:=n) (more:=acc.drop k) (b:=b.take cut) (by rw [List.length_take]; omega) hr1 hrd (by omega) (by
      rw [HW,s2,List.take_append_drop]; omega)
    rw [HW,s2,List.take_append_drop,hb] at hy
    rw [hy,Option.bind_some]
    simp only
    rw [FX,HT]
    simp
end Go.Proofs.YtkpgggfibljflaaGreatDoor
