/- The plain law. -/
import Derived.Test.YtokchpjijlebiaaNQP0
import Derived.KernelRfl
set_option linter.all false
namespace Go.Proofs.Ytokchpjijlebiaa
open Go Go.RowKit
theorem PV {x:Int} (h0 : -9223372036854775808≤x) (h1:x≤9223372036854775807):IntKind.i64.wrap x=x:=by
  simp [IntKind.wrap,IntKind.bits,IntKind.signed]; omega
theorem PR (i:Nat) (h:i<1000000000000):IntKind.i64.wrap ((i:Int)+1)=((i+1:Nat):Int):=by
  rw [PV (by omega) (by omega)]; omega
theorem PI {α:Type} (xs:List α) (i:Nat):CF xs (i:Int)=xs[i]?:=rfl
theorem PJ {α:Type} (xs:List α) (i:Nat) (y:α) (h:i<xs.length):upd xs (i:Int) y=some (xs.set i y):=by
  show(if i<xs.length then some (xs.set i y) else none)=_
  rw [if_pos h]
theorem P3 {α:Type} (xs:List α) (i:Nat):decide ((i:Int)<((xs.length:Nat):Int))=decide (i<xs.length):=by
  by_cases h:i<xs.length <;> simp [h]
end Go.Proofs.Ytokchpjijlebiaa
namespace Go.Proofs.Ytokchpjijlebiaa
open Go Go.RowKit
def HI (st turned turn:Int) (legs:List Int):Nat→Int→Int→List (Int×Int)
  | 0,_,_=>[]
  | n+1,tm,s=>if 0≤s∧s<st then(s,tm)::(if s=turned then HI st turned turn legs n (tm+turn) (st-1-s) else match legs[s.toNat]? with
    | some d=>HI st turned turn legs n (tm+d) (s+1)
    | none=>[]) else []
def PK (turn:Int) (legs:List Int):Prop:=0≤turn∧turn≤300∧legs.length≤20∧∀ d∈legs,0≤d∧d≤300
def JY (st turned turn:Int) (legs:List Int) (n:Nat) (tm s k:Int):Option Int:=DZ (HI st turned turn legs n tm s) k
theorem Jc {st turned:Int} {turn turn':Int} {legs legs':List Int} (ht:2*turned+1<st) (hl:legs.length=legs'.length) (hle:∀ (k:Nat)(d d':Int),legs[k]? = some d→legs'[k]? = some d'→d≤d') (h1:turn≤turn'):∀ (n:Nat)(tm tm' s k:Int),tm≤tm' →
    (JY st turned turn legs n tm s k=none∧JY st turned turn' legs' n tm' s k=none)∨∃ a b,JY st turned turn legs n tm s k=some a∧JY st turned turn' legs' n tm' s k=some b∧a≤b
  | 0,_,_,_,_,_=>.inl ⟨rfl,rfl⟩
  | n+1,tm,tm',s,k,h=>by
    unfold JY
    rw [HI,HI]
    by_cases hc:0≤s∧s<st
    · simp only [hc,and_self,if_true,DZ]
      by_cases hk:s=k
      · simp only [hk,if_true]; exact .inr ⟨_,_,rfl,rfl,h⟩
      · simp only [hk,if_false]
        by_cases hs:s=turned
        · simp only [hs,if_true]
          exact Jc ht hl hle h1 n _ _ _ k (by omega)
        · simp only [hs,if_false]
          cases hg:legs[s.toNat]? with
          | none =>
            have:legs'[s.toNat]? = none:=by rw [List.getElem?_eq_none_iff] at hg ⊢; omega
            simp [this,DZ]
          | some d =>
            have hlt:s.toNat<legs.length:=by
              rcases Nat.lt_or_ge s.toNat legs.length with h' | h'
              · exact h'
              · rw [List.getElem?_eq_none h'] at hg; cases hg
            obtain⟨d',hd'⟩:∃ d',legs'[s.toNat]? = some d':=⟨_,List.getElem?_eq_getElem (by omega)⟩
            simp only [hd']
            have:=hle _ _ _ hg hd'
            exact Jc ht hl hle h1 n _ _ _ k (by omega)
    · simp only [hc,if_false]; exact .inl ⟨rfl,rfl⟩
end Go.Proofs.Ytokchpjijlebiaa
namespace Go.Proofs.Ytokchpjijlebiaa
open Go Go.RowKit
def Ee (r:Ag) (a:A0) (t:AB) (i:Nat):Bm×A9:=(⟨(r.buses[i]!).stop,t.tm[i]! + a.holds[i]! * r.unit,a.turns[i]!⟩,⟨t.legs[i]!,t.turns[i]!⟩)
def Nd (r:Ag) (a:A0) (t:AB) (j:Nat):Option (Bm×A9):=if a.spares[j]! then some (⟨(r.spares[j]!).stop,(r.spares[j]!).tm,-1⟩,⟨t.legs[r.buses.length+j]!,0⟩) else none
def NA (r:Ag) (a:A0) (t:AB):List (Bm×A9):=(List.range r.buses.length).map (Ee r a t)++(List.range r.spares.length).filterMap (Nd r a t)
theorem HS {α:Type} [Inhabited α] (l:List α) (i:Nat) (h:i<l.length):l[i]! = l[i]:=getElem!_pos l i h
theorem Lc {x u:Int} (h0:0≤x) (h1:x≤2) (h2:1≤u) (h3:u≤30):0≤x*u∧x*u≤60:=by
  have:x=0∨x=1∨x=2:=by omega
  rcases this with rfl | rfl | rfl <;> omega
end Go.Proofs.Ytokchpjijlebiaa
namespace Go.Proofs.Ytokchpjijlebiaa
open Go Go.RowKit
def JZ (st:Int) (n:Nat) (p:(Bm×A9)×(Bm×A9)) (k:Int):Option Rg:=match DZ (HI st p.1.1.turned p.1.2.turn p.1.2.legs n p.1.1.tm p.1.1.stop) k,DZ (HI st p.2.1.turned p.2.2.turn p.2.2.legs n p.2.1.tm p.2.1.stop) k with
  | some a,some b=>some ⟨a,b⟩
  | _,_=>none
structure Ka (r:Ag) (p:Bm×A9):Prop where
  q:PK p.2.turn p.2.legs
  len:p.2.legs.length=r.legs.length
  t:2*p.1.turned+1<(r.legs.length:Int)+1
  tm0:0≤p.1.tm
  tm1:p.1.tm≤100000
  s0:0≤p.1.stop
  s1:p.1.stop≤(r.legs.length:Int)+1
def g1 (i:Int) (s:List (Option (List (Int×Rg)))) (a b:Int):Option (List (Option (List (Int×Rg)))):=(CF s a).bind fun x66=>x66.bind fun m=>(upd s a (some (Hh m i (Rg.mk b b)))).bind fun u=>some u
def g2 (i:Int) (s:List (Option (List (Int×Rg)))) (a b:Int):Option (List (Option (List (Int×Rg)))):=(CF s a).bind fun x87=>(CF s a).bind fun x92=>x92.bind fun m_514=>x87.bind fun m_527=>(upd s a (some (Hh m_527 i (Rg.mk (Gb m_514 i ((Rg.mk 0 0):Rg)).1.lo b)))).bind fun u=>some u
end Go.Proofs.Ytokchpjijlebiaa
namespace Go.Proofs.Ytokchpjijlebiaa
open Go Go.RowKit
structure GS (r:Ag):Prop where
  nb:r.buses.length≤4
  ns:r.spares.length≤2
  odd:r.legs.length % 2=1
  nl:r.legs.length≤7
  turn:0≤r.turn.lo∧r.turn.lo≤r.turn.hi∧r.turn.hi≤300
  unit:1≤r.unit∧r.unit≤30
  gap:0≤r.gap∧r.gap≤2000
  looked:0≤r.fr∧r.fr≤r.to_∧r.to_≤2000
  legs:∀ x∈r.legs,0≤x.lo∧x.lo≤x.hi∧x.hi≤300
  buses:∀ b∈r.buses,0≤b.stop∧b.stop≤(r.legs.length:Int)∧0≤b.tm.lo∧b.tm.lo≤b.tm.hi∧b.tm.hi≤2000
  spares:∀ s∈r.spares,0≤s.stop∧s.stop≤(r.legs.length:Int)∧0≤s.tm∧s.tm≤2000
end Go.Proofs.Ytokchpjijlebiaa
namespace Go.Proofs.Ytokchpjijlebiaa
open Go Go.RowKit
def NB (r:Ag) (a:A0) (i:Nat):Bool:=decide (0≤a.holds[i]!∧a.holds[i]!≤2) && (decide (a.turns[i]! = -1) || decide ((r.buses[i]!).stop≤a.turns[i]!∧a.turns[i]!≤(((r.legs.length+1) / 2:Nat):Int)-2))
def Ok (r:Ag) (a:A0):Bool:=decide (a.holds.length=r.buses.length∧a.turns.length=r.buses.length∧a.spares.length=r.spares.length) && (List.range r.buses.length).all (NB r a)
end Go.Proofs.Ytokchpjijlebiaa
namespace Go.Proofs.Ytokchpjijlebiaa
open Go Go.RowKit
structure Kb (r:Ag) (a:A0):Prop where
  holds:a.holds.length=r.buses.length
  turns:a.turns.length=r.buses.length
  spares:a.spares.length=r.spares.length
  hold:∀ i,i<r.buses.length→0≤a.holds[i]!∧a.holds[i]!≤2
  turn:∀ i,i<r.buses.length→a.turns[i]! = -1∨(r.buses[i]!).stop≤a.turns[i]!∧a.turns[i]!≤(((r.legs.length+1) / 2:Nat):Int)-2
structure FX (f:Rg→Int):Prop where
  le:∀ x:Rg,x.lo≤x.hi→x.lo≤f x∧f x≤x.hi
theorem FX.low:FX Rg.lo:=⟨fun _ h=>⟨Int.le_refl _,h⟩⟩
theorem FX.high:FX Rg.hi:=⟨fun _ h=>⟨h,Int.le_refl _⟩⟩
def EI (r:Ag) (a:A0) (f:Rg→Int) (i:Nat):Bm×A9:=(⟨(r.buses[i]!).stop,f (r.buses[i]!).tm+a.holds[i]! * r.unit,a.turns[i]!⟩,⟨r.legs.map f,f r.turn⟩)
def Jd (r:Ag) (f:Rg→Int) (j:Nat):Bm×A9:=(⟨(r.spares[j]!).stop,(r.spares[j]!).tm,-1⟩,⟨r.legs.map f,0⟩)
theorem Kc {r:Ag} {f:Rg→Int} (hf:FX f) (V:GS r):(∀ d∈r.legs.map f,0≤d∧d≤300)∧0≤f r.turn∧f r.turn≤300:=by
  refine⟨fun d hd=>?_,?_⟩
  · obtain⟨x,hx,rfl⟩:=List.mem_map.1 hd
    have:=V.legs x hx
    have:=hf.le x (by omega)
    omega
  · have:=V.turn
    have:=hf.le r.turn (by omega)
    omega
theorem LB {r:Ag} {a:A0} {f:Rg→Int} (hf:FX f) (V:GS r) (A:Kb r a) (i:Nat) (hi:i<r.buses.length):Ka r (EI r a f i):=by
  have hb:=V.buses _ (List.getElem_mem hi)
  have h1:=A.hold i hi
  have h2:=A.turn i hi
  have h3:=Lc h1.1 h1.2 V.unit.1 V.unit.2
  obtain⟨s1,s2,s3⟩:=Kc hf V
  have:=V.nl
  rw [HS _ _ hi] at h2
  have h4:=hf.le (r.buses[i]).tm (by omega)
  refine⟨⟨s2,s3,by simp [EI]; omega,s1⟩,by simp [EI],?_,?_,?_,?_,?_⟩ <;> simp only [EI,HS _ _ hi] <;> omega
theorem Nf {r:Ag} {f:Rg→Int} (hf:FX f) (V:GS r) (j:Nat) (hj:j<r.spares.length):Ka r (Jd r f j):=by
  have hb:=V.spares _ (List.getElem_mem hj)
  obtain⟨s1,_,_⟩:=Kc hf V
  have:=V.nl
  refine⟨⟨Int.le_refl _,by simp [Jd],by simp [Jd]; omega,s1⟩,by simp [Jd],?_,?_,?_,?_,?_⟩ <;> simp only [Jd,HS _ _ hj] <;> omega
def Ol (r:Ag) (a:A0):List ((Bm×A9)×(Bm×A9)):=(List.range r.buses.length).map (fun i=>(EI r a Rg.lo i,EI r a Rg.hi i))++(List.range r.spares.length).filterMap fun j=>if a.spares[j]! then some (Jd r Rg.lo j,Jd r Rg.hi j) else none
def FY (r:Ag) (a:A0) (k:Nat):List Rg:=(Ol r a).filterMap fun p=>JZ ((r.legs.length:Int)+1) 40 p k
end Go.Proofs.Ytokchpjijlebiaa
namespace Go.Proofs.Ytokchpjijlebiaa
open Go Go.RowKit
end Go.Proofs.Ytokchpjijlebiaa
namespace Go.Proofs.Ytokchpjijlebiaa
open Go Go.RowKit
def Bb.put (x:Bb) (k:Nat) (v:Int):Bb:=match k with
  | 0=>⟨v,x.a1,x.a2,x.a3⟩
  | 1=>⟨x.a0,v,x.a2,x.a3⟩
  | 2=>⟨x.a0,x.a1,v,x.a3⟩
  | _=>⟨x.a0,x.a1,x.a2,v⟩
def Bg.put (x:Bg) (k:Nat) (v:Bool):Bg:=match k with
  | 0=>⟨v,x.a1⟩
  | _=>⟨x.a0,v⟩
theorem Bb.put_put (x:Bb) (u v:Int):∀ k:Nat,k<4→(x.put k u).put k v=x.put k v
  | 0,_=>rfl
  | 1,_=>rfl
  | 2,_=>rfl
  | 3,_=>rfl
  | k+4,h=>by omega
theorem Bg.put_put (x:Bg) (u v:Bool):∀ k:Nat,k<2→(x.put k u).put k v=x.put k v
  | 0,_=>rfl
  | 1,_=>rfl
  | k+2,h=>by omega
def Pu (nb k:Nat) (v:Int) (p:Aw×BN):Aw×BN :=
  if k<nb then(⟨p.1.holds.put k v,p.1.turns,p.1.spares⟩,⟨p.2.number+min v 1,p.2.sum+v⟩)
  else if k<2*nb then(⟨p.1.holds,p.1.turns.put (k-nb) v,p.1.spares⟩,⟨p.2.number+min (v+1) 1,p.2.sum⟩)
  else(⟨p.1.holds,p.1.turns,p.1.spares.put (k-2*nb) (v == 1)⟩,⟨p.2.number+v,p.2.sum⟩)
section
variable {σ:Type} (see:σ→Aw→BN→Option σ)
structure Ng (c:BN) (k:Nat):Prop where
  n0:0≤c.number
  n1:c.number≤k
  s0:0≤c.sum
  s1:c.sum≤2*k
theorem Ng.step {nb k:Nat} {v:Int} {p:Aw×BN} (h:Ng p.2 k) (h0:k<nb→0≤v∧v≤2) (h1 : ¬ k<nb→k<2*nb→-1≤v) (h2 : ¬ k<2*nb→0≤v∧v≤1):Ng (Pu nb k v p).2 (k+1):=by
  obtain⟨a,b,c,d⟩:=h
  unfold Pu
  by_cases c1:k<nb
  · have:=h0 c1
    simp only [c1,if_true]
    constructor <;> simp only <;> omega
  · by_cases c2:k<2*nb
    · have:=h1 c1 c2
      simp only [c1,c2,if_true,if_false]
      constructor <;> simp only <;> omega
    · have:=h2 c2
      simp only [c1,c2,if_false]
      constructor <;> simp only <;> omega
end
end Go.Proofs.Ytokchpjijlebiaa
namespace Go.Proofs.Ytokchpjijlebiaa
open Go Go.RowKit
def PW (b:Bool):Int:=if b then 1 else 0
def enc (a:A0):List Int:=a.holds++a.turns++a.spares.map PW
end Go.Proofs.Ytokchpjijlebiaa
namespace Go.Proofs.Ytokchpjijlebiaa
open Go Go.RowKit
def PS (l l':List Rg):Prop:=∀ p∈l,∃ p'∈l',p.lo≤p'.lo∧p'.hi≤p.hi
theorem PS.sub {l l':List Rg} (h:∀ p∈l,p∈l'):PS l l':=fun p hp=>⟨p,h p hp,Int.le_refl _,Int.le_refl _⟩
end Go.Proofs.Ytokchpjijlebiaa
namespace Go.Proofs.Ytokchpjijlebiaa
open Go Go.RowKit
end Go.Proofs.Ytokchpjijlebiaa
namespace Go.Proofs.Ytokchpjijlebiaa
open Go Go.RowKit
structure Oj (p q:Bm×A9):Prop where
  stop:p.1.stop=q.1.stop
  turned:p.1.turned=q.1.turned
  tm:p.1.tm≤q.1.tm
  turn:p.2.turn≤q.2.turn
  len:p.2.legs.length=q.2.legs.length
  legs:∀ (k:Nat)(d d':Int),p.2.legs[k]? = some d→q.2.legs[k]? = some d'→d≤d'
def Je (st:Int) (p:Bm×A9) (k:Int):Option Int:=DZ (HI st p.1.turned p.2.turn p.2.legs 40 p.1.tm p.1.stop) k
theorem Oj.at {p q:Bm×A9} (h:Oj p q) {st:Int} (ht:2*p.1.turned+1<st) (k:Int):(Je st p k=none∧Je st q k=none)∨∃ a b,Je st p k=some a∧Je st q k=some b∧a≤b:=by
  unfold Je
  rw [← h.stop,← h.turned]
  exact Jc ht h.len h.legs h.turn 40 _ _ _ k h.tm
theorem EW {st:Int} {p:(Bm×A9)×(Bm×A9)} {k:Int} {x:Rg}:JZ st 40 p k=some x↔Je st p.1 k=some x.lo∧Je st p.2 k=some x.hi:=by
  unfold JZ Je
  cases DZ (HI st p.1.1.turned p.1.2.turn p.1.2.legs 40 p.1.1.tm p.1.1.stop) k with
  | none=>simp
  | some a =>
    cases DZ (HI st p.2.1.turned p.2.2.turn p.2.2.legs 40 p.2.1.tm p.2.1.stop) k with
    | none=>simp
    | some b =>
      simp only [Option.some.injEq]
      constructor
      · rintro rfl; exact⟨rfl,rfl⟩
      · rintro⟨h1,h2⟩; cases x; simp_all
theorem J4 {st:Int} {p p':(Bm×A9)×(Bm×A9)} (h1:Oj p.1 p'.1) (h2:Oj p'.2 p.2) (t1:2*p.1.1.turned+1<st) (t2:2*p'.2.1.turned+1<st) {k:Int} {x:Rg} (h:JZ st 40 p k=some x):∃ x',JZ st 40 p' k=some x'∧x.lo≤x'.lo∧x'.hi≤x.hi:=by
  obtain⟨a1,a2⟩:=EW.1 h
  rcases h1.at t1 k with⟨b1,_⟩ | ⟨a,b,b1,b2,b3⟩
  · rw [b1] at a1; cases a1
  · rcases h2.at t2 k with⟨_,c1⟩ | ⟨c,d,c1,c2,c3⟩
    · rw [c1] at a2; cases a2
    · rw [b1] at a1; cases a1
      rw [c2] at a2; cases a2
      exact⟨⟨b,c⟩,EW.2 ⟨b2,c1⟩,b3,c3⟩
structure OX (r x:Ag):Prop where
  ll:x.legs.length=r.legs.length
  legs:∀ (i:Nat)(a b:Rg),r.legs[i]? = some a→x.legs[i]? = some b→a.lo≤b.lo∧b.lo≤b.hi∧b.hi≤a.hi
  turn:r.turn.lo≤x.turn.lo∧x.turn.lo≤x.turn.hi∧x.turn.hi≤r.turn.hi
  lb:x.buses.length=r.buses.length
  buses:∀ (i:Nat)(a b:Ct),r.buses[i]? = some a→x.buses[i]? = some b→a.stop=b.stop∧a.tm.lo≤b.tm.lo∧b.tm.lo≤b.tm.hi∧b.tm.hi≤a.tm.hi
  spares:x.spares=r.spares
  unit:x.unit=r.unit
  gap:x.gap=r.gap
  fr:x.fr=r.fr
  to_:x.to_=r.to_
theorem OX.valid {r x:Ag} (h:OX r x) (V:GS r):GS x:=by
  refine⟨by rw [h.lb]; exact V.nb,by rw [h.spares]; exact V.ns,by rw [h.ll]; exact V.odd,by rw [h.ll]; exact V.nl,?_,by rw [h.unit]; exact V.unit,by rw [h.gap]; exact V.gap,by rw [h.fr,h.to_]; exact V.looked,fun b hb=>?_,fun b hb=>?_,?_⟩
  · have:=V.turn; have:=h.turn; omega
  · obtain⟨i,hi,rfl⟩:=List.mem_iff_getElem.1 hb
    have hi':i<r.legs.length:=by rw [← h.ll]; exact hi
    have:=h.legs i _ _ (List.getElem?_eq_getElem hi') (List.getElem?_eq_getElem hi)
    have:=V.legs _ (List.getElem_mem hi')
    omega
  · obtain⟨i,hi,rfl⟩:=List.mem_iff_getElem.1 hb
    have hi':i<r.buses.length:=by rw [← h.lb]; exact hi
    have:=h.buses i _ _ (List.getElem?_eq_getElem hi') (List.getElem?_eq_getElem hi)
    have:=V.buses _ (List.getElem_mem hi')
    have:=h.ll
    omega
  · rw [h.spares,h.ll]; exact V.spares
theorem OX.acts {r x:Ag} (h:OX r x) (a:A0):Ok x a=Ok r a:=by
  unfold Ok
  rw [h.lb,h.spares]
  congr 1
  rw [Bool.eq_iff_iff,List.all_eq_true,List.all_eq_true]
  have key:∀ i,i<r.buses.length→NB x a i=NB r a i:=fun i hi=>by
    have hi':i<x.buses.length:=by rw [h.lb]; exact hi
    have:=(h.buses i _ _ (List.getElem?_eq_getElem hi) (List.getElem?_eq_getElem hi')).1
    unfold NB
    rw [HS _ _ hi,HS _ _ hi',this,h.ll]
  constructor
  · intro H i hi; rw [← key i (by simpa using hi)]; exact H i hi
  · intro H i hi; rw [key i (by simpa using hi)]; exact H i hi
theorem OX.legsLo {r x:Ag} (h:OX r x):∀ (k:Nat)(d d':Int),(r.legs.map Rg.lo)[k]? = some d→(x.legs.map Rg.lo)[k]? = some d'→d≤d':=fun k d d' h1 h2=>by
  rw [List.getElem?_map] at h1 h2
  obtain⟨a,ha,rfl⟩:=Option.map_eq_some_iff.1 h1
  obtain⟨b,hb,rfl⟩:=Option.map_eq_some_iff.1 h2
  exact(h.legs k a b ha hb).1
theorem OX.legsHi {r x:Ag} (h:OX r x):∀ (k:Nat)(d d':Int),(x.legs.map Rg.hi)[k]? = some d→(r.legs.map Rg.hi)[k]? = some d'→d≤d':=fun k d d' h1 h2=>by
  rw [List.getElem?_map] at h1 h2
  obtain⟨a,ha,rfl⟩:=Option.map_eq_some_iff.1 h1
  obtain⟨b,hb,rfl⟩:=Option.map_eq_some_iff.1 h2
  exact(h.legs k b a hb ha).2.2
theorem OX.dom {r x:Ag} (h:OX r x) (V:GS r) {a:A0} (A:Kb r a) (k:Nat):PS (FY r a k) (FY x a k):=by
  intro p hp
  have hV:=h.valid V
  unfold FY at hp ⊢
  obtain⟨P,hP,hs⟩:=List.mem_filterMap.1 hp
  rw [h.ll]
  unfold Ol at hP
  rcases List.mem_append.1 hP with hP | hP
  · obtain⟨i,hi,rfl⟩:=List.mem_map.1 hP
    have hi:i<r.buses.length:=by simpa using hi
    have hi':i<x.buses.length:=by rw [h.lb]; exact hi
    have hb:=h.buses i _ _ (List.getElem?_eq_getElem hi) (List.getElem?_eq_getElem hi')
    have o1:=(LB FX.low V A i hi).t
    have ht:=h.turn
    have L1:Oj (EI r a Rg.lo i) (EI x a Rg.lo i):=by
      refine⟨?_,rfl,?_,ht.1,by simp [EI,h.ll],h.legsLo⟩
      · simp only [EI,HS _ _ hi,HS _ _ hi']; exact hb.1
      · simp only [EI,HS _ _ hi,HS _ _ hi',h.unit]; omega
    have L2:Oj (EI x a Rg.hi i) (EI r a Rg.hi i):=by
      refine⟨?_,rfl,?_,ht.2.2,by simp [EI,h.ll],h.legsHi⟩
      · simp only [EI,HS _ _ hi,HS _ _ hi']; exact hb.1.symm
      · simp only [EI,HS _ _ hi,HS _ _ hi',h.unit]; omega
    obtain⟨x',e1,e2,e3⟩:=J4 (p:=(EI r a Rg.lo i,EI r a Rg.hi i)) (p':=(EI x a Rg.lo i,EI x a Rg.hi i)) L1 L2 o1 o1 hs
    refine⟨x',List.mem_filterMap.2 ⟨_,List.mem_append_left _ (List.mem_map_of_mem (List.mem_range.2 hi')),e1⟩,e2,e3⟩
  · obtain⟨j,hj,hc⟩:=List.mem_filterMap.1 hP
    split at hc
    · rename_i hsp
      cases hc
      have hj:j<r.spares.length:=by simpa using hj
      have hj':j<x.spares.length:=by rw [h.spares]; exact hj
      have o1:=(Nf FX.low V j hj).t
      have L1:Oj (Jd r Rg.lo j) (Jd x Rg.lo j):=⟨by simp [Jd,h.spares],rfl,by simp [Jd,h.spares],Int.le_refl _,by simp [Jd,h.ll],h.legsLo⟩
      have L2:Oj (Jd x Rg.hi j) (Jd r Rg.hi j):=⟨by simp [Jd,h.spares],rfl,by simp [Jd,h.spares],Int.le_refl _,by simp [Jd,h.ll],h.legsHi⟩
      obtain⟨x',e1,e2,e3⟩:=J4 (p:=(Jd r Rg.lo j,Jd r Rg.hi j)) (p':=(Jd x Rg.lo j,Jd x Rg.hi j)) L1 L2 o1 o1 hs
      refine⟨x',List.mem_filterMap.2 ⟨_,List.mem_append_right _ (List.mem_filterMap.2 ⟨j,List.mem_range.2 hj',by rw [if_pos hsp]⟩),e1⟩,e2,e3⟩
    · cases hc
end Go.Proofs.Ytokchpjijlebiaa
namespace Go.Proofs.Ytokchpjijlebiaa
open Go Go.RowKit
end Go.Proofs.Ytokchpjijlebiaa
namespace Go.Proofs.Ytokchpjijlebiaa
open Go Go.RowKit
end Go.Proofs.Ytokchpjijlebiaa
namespace Go.Proofs.Ytokchpjijlebiaa
open Go Go.RowKit
structure G9 (r:Ag) (t:AB):Prop where
  tm:t.tm.length=r.buses.length
  tt:t.turns.length=r.buses.length
  legs:t.legs.length=r.buses.length+r.spares.length
  tms:∀ i<r.buses.length,(r.buses[i]!).tm.lo≤t.tm[i]!∧t.tm[i]!≤(r.buses[i]!).tm.hi
  tts:∀ i<r.buses.length,r.turn.lo≤t.turns[i]!∧t.turns[i]!≤r.turn.hi
  ll:∀ i<r.buses.length+r.spares.length,(t.legs[i]!).length=r.legs.length
  leg:∀ i<r.buses.length+r.spares.length,∀ (k:Nat)(x:Rg)(d:Int),r.legs[k]? = some x→(t.legs[i]!)[k]? = some d→x.lo≤d∧d≤x.hi
theorem NC {r:Ag} {t:AB} (h:G9 r t) {i:Nat} (hi:i<r.buses.length+r.spares.length):∀ (k:Nat)(d d':Int),(r.legs.map Rg.lo)[k]? = some d→(t.legs[i]!)[k]? = some d'→d≤d':=fun k d d' h1 h2=>by
  rw [List.getElem?_map] at h1
  obtain⟨x,hx,rfl⟩:=Option.map_eq_some_iff.1 h1
  exact(h.leg i hi k x d' hx h2).1
theorem ND {r:Ag} {t:AB} (h:G9 r t) {i:Nat} (hi:i<r.buses.length+r.spares.length):∀ (k:Nat)(d d':Int),(t.legs[i]!)[k]? = some d→(r.legs.map Rg.hi)[k]? = some d'→d≤d':=fun k d d' h1 h2=>by
  rw [List.getElem?_map] at h2
  obtain⟨x,hx,rfl⟩:=Option.map_eq_some_iff.1 h2
  exact(h.leg i hi k x d hx h1).2
theorem G9.small {r:Ag} {t:AB} (h:G9 r t) (V:GS r) {i:Nat} (hi:i<r.buses.length+r.spares.length):(t.legs[i]!).length≤20∧∀ d∈t.legs[i]!,0≤d∧d≤300:=by
  have hl:=h.ll i hi
  have:=V.nl
  refine⟨by omega,fun d hd=>?_⟩
  obtain⟨k,hk,rfl⟩:=List.mem_iff_getElem.1 hd
  have hkr:k<r.legs.length:=by omega
  have:=h.leg i hi k _ _ (List.getElem?_eq_getElem hkr) (List.getElem?_eq_getElem hk)
  have:=V.legs _ (List.getElem_mem hkr)
  omega
theorem G9.busT {r:Ag} {t:AB} (h:G9 r t) (V:GS r) {a:A0} (A:Kb r a) {i:Nat} (hi:i<r.buses.length):Ka r (Ee r a t i)∧Oj (EI r a Rg.lo i) (Ee r a t i)∧Oj (Ee r a t i) (EI r a Rg.hi i):=by
  have o:=LB FX.low V A i hi
  have h1:=h.tms i hi
  have h2:=h.tts i hi
  have h3:=h.ll i (by omega)
  have h4:=h.small V (i:=i) (by omega)
  have hT:=V.turn
  have hb:=V.buses _ (List.getElem_mem hi)
  have hh:=A.hold i hi
  have hm:=Lc hh.1 hh.2 V.unit.1 V.unit.2
  rw [HS _ _ hi] at h1
  refine⟨⟨⟨by simp only [Ee]; omega,by simp only [Ee]; omega,h4.1,h4.2⟩,h3,o.t,by simp only [Ee]; omega,by simp only [Ee]; omega,o.s0,o.s1⟩,⟨rfl,rfl,?_,h2.1,(by rw [show(Ee r a t i).2.legs=t.legs[i]! from rfl,h3]; simp [EI]),NC h (by omega)⟩,⟨rfl,rfl,?_,h2.2,(by rw [show(Ee r a t i).2.legs=t.legs[i]! from rfl,h3]; simp [EI]),ND h (by omega)⟩⟩ <;>
  · simp only [EI,Ee,HS _ _ hi]; omega
theorem G9.spT {r:Ag} {t:AB} (h:G9 r t) (V:GS r) {j:Nat} (hj:j<r.spares.length):Ka r (⟨(r.spares[j]!).stop,(r.spares[j]!).tm,-1⟩,⟨t.legs[r.buses.length+j]!,0⟩)∧Oj (Jd r Rg.lo j) (⟨(r.spares[j]!).stop,(r.spares[j]!).tm,-1⟩,⟨t.legs[r.buses.length+j]!,0⟩)∧Oj (⟨(r.spares[j]!).stop,(r.spares[j]!).tm,-1⟩,⟨t.legs[r.buses.length+j]!,0⟩) (Jd r Rg.hi j):=by
  have o:=Nf FX.low V j hj
  have h3:=h.ll (r.buses.length+j) (by omega)
  have h4:=h.small V (i:=r.buses.length+j) (by omega)
  exact⟨⟨⟨Int.le_refl _,by simp,h4.1,h4.2⟩,h3,o.t,o.tm0,o.tm1,o.s0,o.s1⟩,⟨rfl,rfl,Int.le_refl _,Int.le_refl _,(by simp only []; rw [h3]; simp [Jd]),NC h (by omega)⟩,⟨rfl,rfl,Int.le_refl _,Int.le_refl _,(by simp only []; rw [h3]; simp [Jd]),ND h (by omega)⟩⟩
theorem Jf {r:Ag} {a:A0} {t:AB} {p:Bm×A9}:p∈NA r a t↔(∃ i<r.buses.length,p=Ee r a t i)∨∃ j<r.spares.length,a.spares[j]! = true∧p=(⟨(r.spares[j]!).stop,(r.spares[j]!).tm,-1⟩,⟨t.legs[r.buses.length+j]!,0⟩):=by
  unfold NA
  rw [List.mem_append,List.mem_map,List.mem_filterMap]
  constructor
  · rintro(⟨i,hi,rfl⟩ | ⟨j,hj,h⟩)
    · exact .inl ⟨i,List.mem_range.1 hi,rfl⟩
    · unfold Nd at h
      split at h
      · rename_i hs
        cases h
        exact .inr ⟨j,List.mem_range.1 hj,hs,rfl⟩
      · cases h
  · rintro(⟨i,hi,rfl⟩ | ⟨j,hj,hs,rfl⟩)
    · exact .inl ⟨i,List.mem_range.2 hi,rfl⟩
    · exact .inr ⟨j,List.mem_range.2 hj,by unfold Nd; rw [if_pos hs]⟩
theorem Nh {r:Ag} {a:A0} {s:Nat} {q:Rg}:q∈FY r a s↔(∃ i<r.buses.length,Je ((r.legs.length:Int)+1) (EI r a Rg.lo i) s=some q.lo∧Je ((r.legs.length:Int)+1) (EI r a Rg.hi i) s=some q.hi) ∨
    ∃ j<r.spares.length,a.spares[j]! = true∧Je ((r.legs.length:Int)+1) (Jd r Rg.lo j) s=some q.lo∧Je ((r.legs.length:Int)+1) (Jd r Rg.hi j) s=some q.hi:=by
  unfold FY Ol
  rw [List.mem_filterMap]
  constructor
  · rintro⟨P,hP,h⟩
    rw [EW] at h
    rcases List.mem_append.1 hP with hP | hP
    · obtain⟨i,hi,rfl⟩:=List.mem_map.1 hP
      exact .inl ⟨i,List.mem_range.1 hi,h⟩
    · obtain⟨j,hj,hc⟩:=List.mem_filterMap.1 hP
      split at hc
      · rename_i hs
        cases hc
        exact .inr ⟨j,List.mem_range.1 hj,hs,h⟩
      · cases hc
  · rintro(⟨i,hi,h⟩ | ⟨j,hj,hs,h⟩)
    · exact⟨_,List.mem_append_left _ (List.mem_map_of_mem (List.mem_range.2 hi)),EW.2 h⟩
    · exact⟨_,List.mem_append_right _ (List.mem_filterMap.2 ⟨j,List.mem_range.2 hj,by rw [if_pos hs]⟩),EW.2 h⟩
theorem G9.ok {r:Ag} {t:AB} (h:G9 r t) (V:GS r) {a:A0} (A:Kb r a):∀ p∈NA r a t,Ka r p:=fun p hp=>by
  rcases Jf.1 hp with⟨i,hi,rfl⟩ | ⟨j,hj,_,rfl⟩
  · exact(h.busT V A hi).1
  · exact(h.spT V hj).1
theorem G9.pass {r:Ag} {t:AB} (h:G9 r t) (V:GS r) {a:A0} (A:Kb r a) {s:Nat} {q:Rg} (hq:q∈FY r a s):∃ p∈NA r a t,∃ x,Je ((r.legs.length:Int)+1) p s=some x∧q.lo≤x∧x≤q.hi:=by
  rcases Nh.1 hq with⟨i,hi,h1,h2⟩ | ⟨j,hj,hs,h1,h2⟩
  · obtain⟨o,l1,l2⟩:=h.busT V A hi
    have o1:=(LB FX.low V A i hi).t
    rcases l1.at o1 s with⟨e,_⟩ | ⟨u,x,e1,e2,e3⟩
    · rw [e] at h1; cases h1
    · rcases l2.at o.t s with⟨e,_⟩ | ⟨x',v,f1,f2,f3⟩
      · rw [e] at e2; cases e2
      · rw [e1] at h1; cases h1
        rw [f2] at h2; cases h2
        rw [f1] at e2; cases e2
        exact⟨_,Jf.2 (.inl ⟨i,hi,rfl⟩),_,f1,e3,f3⟩
  · obtain⟨o,l1,l2⟩:=h.spT V hj
    have o1:=(Nf FX.low V j hj).t
    rcases l1.at o1 s with⟨e,_⟩ | ⟨u,x,e1,e2,e3⟩
    · rw [e] at h1; cases h1
    · rcases l2.at o.t s with⟨e,_⟩ | ⟨x',v,f1,f2,f3⟩
      · rw [e] at e2; cases e2
      · rw [e1] at h1; cases h1
        rw [f2] at h2; cases h2
        rw [f1] at e2; cases e2
        exact⟨_,Jf.2 (.inr ⟨j,hj,hs,rfl⟩),_,f1,e3,f3⟩
end Go.Proofs.Ytokchpjijlebiaa
namespace Go.Proofs.Ytokchpjijlebiaa
open Go Go.RowKit
theorem LC (l:List Int):(CO l).Pairwise (·≤·):=by
  have:=List.pairwise_mergeSort (le:=fun x y:Int=>decide (x≤y)) (fun a b c h1 h2=>by simp at *; omega) (fun a b=>by simp; omega) l
  unfold CO
  exact this.imp fun h=>by simpa using h
def P4 (ms:List (List Int)) (P:Nat→Int→Prop) (B:Nat):Prop:=∀ k l,ms[k]? = some l→l.length≤B∧∀ y,y∈l↔P k y
theorem P4.imp {ms:List (List Int)} {P Q:Nat→Int→Prop} {B C:Nat} (h:P4 ms P B) (hPQ:∀ k y,P k y↔Q k y) (hB:B≤C):P4 ms Q C:=fun k l hk=>⟨Nat.le_trans (h k l hk).1 hB,fun y=>((h k l hk).2 y).trans (hPQ k y)⟩
theorem Ld (o:List (List Int)) (hb:o.length≤50):∀ (n i:Nat)(x:List (List Int)),o.length<n+i→i≤o.length→x.length=o.length→(∀ (k:Nat) l,o[k]? = some l→l.length≤1000000∧x[k]? = some (if k<i then Lib.compact (CO l) else l)) →
    AK n o x (i:Int)=some (o.map fun l=>Lib.compact (CO l))
  | 0,i,x,h,hi,_,_=>by omega
  | n+1,i,x,h,hi,hl,hk=>by
    rw [AK,P3]
    by_cases hx:i<o.length
    · simp only [hx,decide_true,cond_true]
      obtain⟨h1,h2⟩:=hk i _ (List.getElem?_eq_getElem hx)
      rw [if_neg (by omega)] at h2
      have hix:i<x.length:=by omega
      have e0:CF x (i:Int)=some o[i]:=by rw [PI,h2]
      have e1:MF o[i]=some (CO o[i]):=by unfold MF; rw [if_pos (by omega)]
      have e2:MI (CO o[i])=some (Lib.compact (CO o[i])):=by unfold MI; rw [if_pos (by rw [Js]; omega)]
      have e3:CF (x.set i (CO o[i])) (i:Int)=some (CO o[i]):=by rw [PI,List.getElem?_set_self hix]
      rw [e0,Option.bind_some,e1,Option.bind_some,PJ _ _ _ hix,Option.bind_some,e3,Option.bind_some,e2,Option.bind_some,Option.bind_some,PJ _ _ _ (by simpa using hix),Option.bind_some,List.set_set,PR i (by omega)]
      refine Ld o hb n (i+1) _ (by omega) (by omega) (by simp [hl]) fun k l hkl=>?_
      obtain⟨g1,g2⟩:=hk k l hkl
      refine⟨g1,?_⟩
      rw [List.getElem?_set]
      by_cases hki:i=k
      · subst hki
        have:o[i]=l:=by rw [List.getElem?_eq_getElem hx] at hkl; exact Option.some.inj hkl
        rw [if_pos rfl,if_pos hix,if_pos (by omega),this]
      · rw [if_neg hki,g2]
        by_cases hlt:k<i
        · rw [if_pos hlt,if_pos (by omega)]
        · rw [if_neg hlt,if_neg (by omega)]
    · simp only [hx,decide_false,cond_false,Option.some.injEq]
      apply List.ext_getElem?
      intro k
      rw [List.getElem?_map]
      cases hok:o[k]? with
      | none=>rw [List.getElem?_eq_none (by have:=List.getElem?_eq_none_iff.1 hok; omega)]; rfl
      | some l =>
        rw [(hk k l hok).2,if_pos (by have:=(List.getElem?_eq_some_iff.1 hok).1; omega)]; rfl
end Go.Proofs.Ytokchpjijlebiaa
namespace Go.Proofs.Ytokchpjijlebiaa
open Go Go.RowKit
theorem Et {α:Type} {e:Option α} {P:α→Prop} {v:α} (h:e=some v) (k:P v):∃ x,e=some x∧P x:=⟨v,h,k⟩
theorem NX {b:Bool} {x y:Prop} (h:b=true) (k:x):(bif b then x else y):=by rw [h]; exact k
theorem Om {b:Bool} {x y:Prop} (h:b=false) (k:y):(bif b then x else y):=by rw [h]; exact k
theorem GT {α β:Type} {e:Option α} {f:α→Option β} {v:α} (h:e=some v):e.bind f=f v:=by rw [h]; rfl
theorem PL {α β:Type} {e:Option α} {f:α→Option β} (h:e.isSome=true):e.bind f=f (e.get h):=GT (Option.some_get h).symm
theorem On {α:Type} {b:Bool} {x y:α} (h:b=false):(bif b then x else y)=y:=by rw [h]; rfl
theorem Is {l l':List Int} (hp:l.Perm l') (hs:l'.Pairwise (·≤·)):CO l=l' :=
  List.Perm.eq_of_pairwise (le:=(·≤·)) (fun _ _ _ _ h1 h2=>Int.le_antisymm h1 h2) (LC l) hs ((List.mergeSort_perm l _).trans hp)
def DC:Ag:=⟨[⟨10,10⟩,⟨5,15⟩,⟨10,12⟩],⟨0,4⟩,[⟨0,⟨0,0⟩⟩,⟨0,⟨10,20⟩⟩],[⟨2,40⟩],5,37,0,50⟩
def HJ:A0:=⟨[0,0],[-1,-1],[false]⟩
def Ni:AB:=⟨[0,15],[0,0],[[10,10,10],[10,10,10],[10,10,10]]⟩
def Le:List (List Int):=[[0,50,0,15],[0,50,10,25],[0,50,20,35],[0,50,30,45]]
def GU:List (List Int):=[[0,15,50],[0,10,25,50],[0,20,35,50],[0,30,45,50]]
theorem OZ:AK 300 Le Le 0=some GU:=by
  have h:=Ld Le (by decide) 300 0 Le (by decide) (by decide) rfl fun k l hk=>⟨by
    have:=List.mem_of_getElem? hk
    simp only [Le,List.mem_cons,List.not_mem_nil,or_false] at this
    rcases this with rfl | rfl | rfl | rfl <;> decide,by rw [if_neg (Nat.not_lt_zero _)]; exact hk⟩
  rw [show((0:Nat):Int)=0 from rfl] at h
  rw [h]
  show some [Lib.compact (CO [0,50,0,15]),Lib.compact (CO [0,50,10,25]),Lib.compact (CO [0,50,20,35]),Lib.compact (CO [0,50,30,45])]=some GU
  rw [Is (l:=[0,50,0,15]) (l':=[0,0,15,50]) (by decide) (by decide),Is (l:=[0,50,10,25]) (l':=[0,10,25,50]) (by decide) (by decide),Is (l:=[0,50,20,35]) (l':=[0,20,35,50]) (by decide) (by decide),Is (l:=[0,50,30,45]) (l':=[0,30,45,50]) (by decide) (by decide)]
  kernel_rfl
theorem Pa:Cl 300 (AC.mk DC HJ) Ni=some GU:=by
  unfold Cl
  refine(GT (v:=4) (by kernel_rfl)).trans ?_
  refine(GT (v:=[[],[],[],[]]) (by kernel_rfl)).trans ?_
  refine(GT (v:=[[0,50],[0,50],[0,50],[0,50]]) (by kernel_rfl)).trans ?_
  refine(PL (by kernel_rfl)).trans ?_
  refine(GT (v:=Le) (by kernel_rfl)).trans ?_
  exact(GT (v:=GU) OZ)
theorem Lf:D1 300 DC HJ Ni=some (GU,0):=by
  unfold D1
  refine(GT (v:=0) (by kernel_rfl)).trans ?_
  refine(On (by kernel_rfl)).trans ?_
  refine(GT (v:=true) (by kernel_rfl)).trans ?_
  refine(On (by kernel_rfl)).trans ?_
  exact(GT (v:=GU) Pa)
theorem Oo:DM 300 DC HJ Ni=some ([35,25,20,30],0):=by
  unfold DM
  refine(GT (v:=(GU,0)) Lf).trans ?_
  refine(On (by kernel_rfl)).trans ?_
  exact(GT (v:=[35,25,20,30]) (by kernel_rfl))
theorem Oq:Ev 300 (Ag.mk DC.legs DC.turn DC.buses DC.spares DC.unit 34 DC.fr DC.to_)=some (A0.mk [] [] [],9):=by kernel_rfl
theorem Ot:H5 300=some true:=by kernel_rfl
set_option maxHeartbeats 4000000 in
set_option maxRecDepth 100000 in
theorem Jg:DN 300 (fun x=>x=true):=by
  unfold DN
  refine Et (v:=DC) (by kernel_rfl) ?_
  refine Et (v:=HJ) (by kernel_rfl) ?_
  refine Et (v:=(GU,0)) Lf ?_
  refine Et (v:=DC) (by kernel_rfl) ?_
  refine Et (v:=HJ) (by kernel_rfl) ?_
  refine Et (v:=([35,25,20,30],0)) Oo ?_
  refine Et (v:=DC) (by kernel_rfl) ?_
  refine Et (v:=(A0.mk [0,1] [-1,-1] [false])) (by kernel_rfl) ?_
  refine Et (v:=([35,25,35,37],0)) (by kernel_rfl) ?_
  refine Om (by kernel_rfl) ?_
  refine Om (by kernel_rfl) ?_
  refine Et (v:=[0,15,50]) (by kernel_rfl) ?_
  refine Et (v:=true) (by kernel_rfl) ?_
  refine Om (by kernel_rfl) ?_
  refine Et (v:=[0,10,25,50]) (by kernel_rfl) ?_
  refine Et (v:=true) (by kernel_rfl) ?_
  refine Om (by kernel_rfl) ?_
  refine Et (v:=[0,20,35,50]) (by kernel_rfl) ?_
  refine Et (v:=true) (by kernel_rfl) ?_
  refine Om (by kernel_rfl) ?_
  refine Et (v:=[0,30,45,50]) (by kernel_rfl) ?_
  refine Et (v:=true) (by kernel_rfl) ?_
  refine Om (by kernel_rfl) ?_
  refine Om (by kernel_rfl) ?_
  refine Et (v:=true) (by kernel_rfl) ?_
  refine Om (by kernel_rfl) ?_
  refine Om (by kernel_rfl) ?_
  refine Et (v:=true) (by kernel_rfl) ?_
  refine Om (by kernel_rfl) ?_
  refine Et (v:=HJ) (by kernel_rfl) ?_
  refine Et (v:=HJ) (by kernel_rfl) ?_
  refine Et (v:=HJ) (by kernel_rfl) ?_
  refine Et (v:=0) (by kernel_rfl) ?_
  refine Et (v:=[3,0]) (by kernel_rfl) ?_
  refine Et (v:=-1) (by kernel_rfl) ?_
  refine Et (v:=[1,-1]) (by kernel_rfl) ?_
  refine Et (v:=DC) (by kernel_rfl) ?_
  refine Et (v:=([],2)) (by kernel_rfl) ?_
  refine Et (v:=DC) (by kernel_rfl) ?_
  refine Et (v:=([],2)) (by kernel_rfl) ?_
  refine Et (v:=DC) (by kernel_rfl) ?_
  refine Et (v:=([],2)) (by kernel_rfl) ?_
  refine Et (v:=1) (by kernel_rfl) ?_
  refine Et (v:=[0,-1]) (by kernel_rfl) ?_
  refine Et (v:=DC) (by kernel_rfl) ?_
  refine Et (v:=([40,30,45,50],0)) (by kernel_rfl) ?_
  refine Et (v:=[10,10,10]) (by kernel_rfl) ?_
  refine Et (v:=10) (by kernel_rfl) ?_
  refine Et (v:=[10,16,10]) (by kernel_rfl) ?_
  refine Et (v:=DC) (by kernel_rfl) ?_
  refine Et (v:=HJ) (by kernel_rfl) ?_
  refine Et (v:=([],2)) (by kernel_rfl) ?_
  refine Et (v:=DC) (by kernel_rfl) ?_
  refine Et (v:=HJ) (by kernel_rfl) ?_
  unfold EU
  refine Et (v:=0) (by kernel_rfl) (Om (by kernel_rfl) (Et (v:=false) (by kernel_rfl) (NX (by kernel_rfl) ?_)))
  refine Et (v:=DC) (by kernel_rfl) ?_
  refine Et (v:=(A0.mk [] [] [],9)) Oq ?_
  refine Et (v:=DC) (by kernel_rfl) ?_
  refine Et (v:=DC) (by kernel_rfl) ?_
  refine Et (v:=DC) (by kernel_rfl) ?_
  refine Et (v:=(List.replicate 5 (Ct.mk 0 (Rg.mk 0 0)))) (by kernel_rfl) ?_
  refine Et (v:=[⟨10,10⟩,⟨5,15⟩]) (by kernel_rfl) ?_
  refine Et (v:=(Ct.mk 0 (Rg.mk 0 0))) (by kernel_rfl) ?_
  refine Et (v:=[Ct.mk 4 (Rg.mk 0 0),Ct.mk 0 (Rg.mk 10 20)]) (by kernel_rfl) ?_
  refine NX (by kernel_rfl) ?_
  refine NX (by kernel_rfl) ?_
  refine NX (by kernel_rfl) ?_
  refine NX (by kernel_rfl) ?_
  refine Et (v:=true) (by kernel_rfl) ?_
  refine NX (by kernel_rfl) ?_
  refine NX (by kernel_rfl) ?_
  refine NX (by kernel_rfl) ?_
  refine NX (by kernel_rfl) ?_
  refine Et (v:=3) (by kernel_rfl) ?_
  refine NX (by kernel_rfl) ?_
  refine Et (v:=1) (by kernel_rfl) ?_
  refine NX (by kernel_rfl) ?_
  refine Et (v:=1) (by kernel_rfl) ?_
  refine NX (by kernel_rfl) ?_
  refine Et (v:=1) (by kernel_rfl) ?_
  refine NX (by kernel_rfl) ?_
  refine Et (v:=true) Ot ?_
  rfl
end Go.Proofs.Ytokchpjijlebiaa
